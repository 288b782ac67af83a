/- The program's SealBundle returns what the reference's returns, for all arguments. -/
import Derived.Test.YtgcipecdaimjfaaOpFnExactSealBundle
import Derived.Test.YtgcipecdaimjfaaTFnExactSealBundle
namespace Go.Proofs.Ytgcipecdaimjfaa.Pure
open Go.RowKit Go.Proofs.Ytgcipecdaimjfaa.PFnExactSealBundle Go.Proofs.YtgcipecdaimjfaaW.PrintWords Go.Proofs.YtgcipecdaimjfaaW.PrintLast
set_option linter.unusedVariables false
set_option linter.unusedSimpArgs false

/-! base -/
theorem wrap_in {n : Int} (h1 : -9223372036854775808 ≤ n) (h2 : n ≤ 9223372036854775807) : wrap64 n = n := by unfold wrap64; omega
theorem wrap_succ {i n : Nat} (h : i < n) (hn : n ≤ 1152921504606846976) : wrap64 ((i : Int) + 1) = ((i + 1 : Nat) : Int) := by unfold wrap64; omega
theorem wrap_pred {i : Nat} (h : 0 < i) (hn : i ≤ 1152921504606846976) : wrap64 ((i : Int) - 1) = ((i - 1 : Nat) : Int) := by unfold wrap64; omega
theorem Ev.eq {α : Type} {r s : α} (h : r = s) : Ev (fun _ => some r) s := h ▸ Ev.now r
theorem Ev.opt {α : Type} {o : Option α} {r : α} (h : o = some r) : Ev (fun _ => o) r := h ▸ Ev.now r
theorem Ev.yes {α : Type} {c : Prop} [Decidable c] {g f : Nat → Option α} {r : α} (h : c) (k : Ev g r) : Ev (fun n => if c then g n else f n) r := by simpa [h] using k
theorem Ev.no {α : Type} {c : Prop} [Decidable c] {g f : Nat → Option α} {r : α} (h : ¬ c) (k : Ev f r) : Ev (fun n => if c then g n else f n) r := by simpa [h] using k
theorem Ev.ite {α : Type} {c : Prop} [Decidable c] {g f : Nat → Option α} {r : α} (h : c → Ev g r) (k : ¬ c → Ev f r) : Ev (fun n => if c then g n else f n) r := by
  by_cases hc : c
  · exact Ev.yes hc (h hc)
  · exact Ev.no hc (k hc)
theorem Ev.bindc {α β : Type} {o : Option α} {a : α} {f : Nat → α → Option β} {r : β} (h : o = some a) (k : Ev (fun n => f n a) r) : Ev (fun n => o.bind (f n)) r := by subst h; exact k
theorem Ev.round {α : Type} {g : Nat → Option α} {r : α} (h : Ev (fun k => g (k + 1)) r) : Ev g r := Ev.step (fun _ => rfl) h
theorem Ev.conv {α : Type} {g : Nat → Option α} {r s : α} (k : Ev g r) (h : r = s) : Ev g s := h ▸ k
theorem bind_some_ {α β : Type} (a : α) (f : α → Option β) : (some a).bind f = f a := rfl
/-- A loop that counts: from each place on, the answer is what 'val' says. -/
theorem Ev.loop {σ β : Type} (g : Nat → Nat → σ → Option β) (n : Nat) (val : Nat → σ → β) (Inv : Nat → σ → Prop)
    (done : ∀ s, Inv n s → Ev (fun k => g k n s) (val n s))
    (step : ∀ i s, i < n → Inv i s → (∀ s', Inv (i + 1) s' → Ev (fun k => g k (i + 1) s') (val (i + 1) s')) → Ev (fun k => g k i s) (val i s)) :
    ∀ i s, i ≤ n → Inv i s → Ev (fun k => g k i s) (val i s) := by
  have : ∀ d i s, i + d = n → Inv i s → Ev (fun k => g k i s) (val i s) := by
    intro d
    induction d with
    | zero =>
      intro i s hi hs
      obtain rfl : i = n := by omega
      exact done s hs
    | succ d ih => intro i s hi hs; exact step i s (by omega) hs (fun s' hs' => ih (i + 1) s' (by omega) hs')
  intro i s hi hs
  exact this (n - i) i s (by omega) hs
theorem getD_lt {α : Type} {l : List α} {i : Nat} (h : i < l.length) (d : α) : l.getD i d = l[i] := by simp [List.getD_eq_getElem?_getD, h]
theorem rd_get {l : List Int} {i : Nat} (h : i < l.length) : rd l (i : Int) = l[i] := by unfold rd; exact getD_lt h _
theorem take_fill {α β : Type} (f : α → β) (l : List α) (z : β) {i : Nat} (h : i < l.length) :
    ((l.take i).map f ++ List.replicate (l.length - i) z).set i (f l[i]) = (l.take (i + 1)).map f ++ List.replicate (l.length - (i + 1)) z := by
  have e : l.length - i = (l.length - (i + 1)) + 1 := by omega
  rw [e, List.replicate_succ, List.set_append_right _ _ (by simp; omega)]
  have : i - (List.map f (List.take i l)).length = 0 := by simp; omega
  rw [this, List.set_cons_zero, List.take_succ_eq_append_getElem h, List.map_append]
  simp
theorem fill_len {α β : Type} (f : α → β) (l : List α) (z : β) {i : Nat} (h : i ≤ l.length) : ((l.take i).map f ++ List.replicate (l.length - i) z).length = l.length := by simp; omega
theorem fill_end {α β : Type} (f : α → β) (l : List α) (z : β) : (l.take l.length).map f ++ List.replicate (l.length - l.length) z = l.map f := by simp
theorem drop_get {α : Type} {l : List α} {i : Nat} (h : i < l.length) : l.drop i = l[i] :: l.drop (i + 1) := List.drop_eq_getElem_cons h
theorem drop_end {α : Type} (l : List α) : l.drop l.length = [] := List.drop_eq_nil_of_le (Nat.le_refl _)
/-! mod -/
def M.mod (a m : Int) : Int := if 1 ≤ m ∧ m ≤ 1000000000000 then a % m else 0
theorem tmod_bounds (a m : Int) (h : 1 ≤ m) : -m < Int.tmod a m ∧ Int.tmod a m < m := by
  have h1 := Int.tmod_lt_of_pos a (by omega : 0 < m)
  have h2 := Int.lt_tmod_of_pos a (by omega : 0 < m)
  exact ⟨h2, h1⟩
theorem tmod_emod (a m : Int) (h : 1 ≤ m) : Int.tmod a m = if Int.tmod a m < 0 then a % m - m else a % m := by
  rw [Int.tmod_eq_emod]
  have := Int.emod_nonneg a (by omega : m ≠ 0)
  have := Int.emod_lt_of_pos a (by omega : 0 < m)
  have e : ((m.natAbs : Nat) : Int) = m := by omega
  by_cases h0 : 0 ≤ a ∨ m ∣ a
  · rw [if_pos h0]
    split <;> omega
  · rw [if_neg h0, e]
    split <;> omega
theorem tmod_pos (a m : Int) (h : 0 ≤ a) : Int.tmod a m = a % m := Int.tmod_eq_emod_of_nonneg h
theorem mod_add_self (a m : Int) (h : 1 ≤ m) : Int.tmod (Int.tmod a m + m) m = a % m := by
  have hb := tmod_bounds a m h
  have := Int.emod_nonneg a (by omega : m ≠ 0)
  have := Int.emod_lt_of_pos a (by omega : 0 < m)
  rw [tmod_pos _ _ (by omega)]
  have e := tmod_emod a m h
  by_cases hn : Int.tmod a m < 0
  · rw [if_pos hn] at e; rw [e, show a % m - m + m = a % m by omega, Int.emod_emod_of_dvd _ (Int.dvd_refl m)]
  · rw [if_neg hn] at e; rw [e, Int.add_emod_right, Int.emod_emod_of_dvd _ (Int.dvd_refl m)]
/-! hash -/
def M.hstep (h v : Int) : Int := (h * 1000003 + v % 2147483647 + 13) % 2147483647
def M.hash (l : List Int) : Int := l.foldl M.hstep 11
theorem hstep_bounds (h v : Int) : 0 ≤ M.hstep h v ∧ M.hstep h v < 2147483647 := ⟨Int.emod_nonneg _ (by decide), Int.emod_lt_of_pos _ (by decide)⟩
theorem hstep_eq (h v : Int) (h0 : 0 ≤ h) (h1 : h < 2147483647) : Int.tmod (wrap64 ((wrap64 ((wrap64 (h * 1000003)) + M.mod v 2147483647)) + 13)) 2147483647 = M.hstep h v := by
  have e : M.mod v 2147483647 = v % 2147483647 := by unfold M.mod; rw [if_pos (by omega)]
  have := Int.emod_nonneg v (by decide : (2147483647 : Int) ≠ 0)
  have := Int.emod_lt_of_pos v (by decide : 0 < (2147483647 : Int))
  rw [e, wrap_in (n := h * 1000003) (by omega) (by omega), wrap_in (n := _ + v % 2147483647) (by omega) (by omega), wrap_in (by omega) (by omega), tmod_pos _ _ (by omega)]
  rfl
theorem hash_bounds (l : List Int) : 0 ≤ M.hash l ∧ M.hash l < 2147483647 := by
  unfold M.hash
  have : ∀ (l : List Int) (h : Int), 0 ≤ h ∧ h < 2147483647 → 0 ≤ l.foldl M.hstep h ∧ l.foldl M.hstep h < 2147483647 := by
    intro l
    induction l with
    | nil => intro h hh; exact hh
    | cons x l ih => intro h hh; exact ih _ (hstep_bounds _ _)
  exact this l 11 (by omega)
/-! keyed -/
def M.keyed (a : Int) (l : List Int) : Int := M.hash ([a] ++ l ++ [a])
theorem keyed_bounds (a : Int) (l : List Int) : 0 ≤ M.keyed a l ∧ M.keyed a l < 2147483647 := hash_bounds _
/-! bytes -/
def M.byt (x : List Int) : Prop := ∀ v ∈ x, 0 ≤ v ∧ v ≤ 255
theorem byt_of {x : List Int} (h : ∀ v ∈ x, (Lit.int .u8 v).wf = true) : M.byt x := by
  intro v hv
  have := h v hv
  simp only [Lit.wf, Bool.and_eq_true, decide_eq_true_eq] at this
  exact ⟨Int.le_trans (by decide) this.1, Int.le_trans this.2 (by decide)⟩
theorem byt_drop {x : List Int} (h : M.byt x) (n : Nat) : M.byt (x.drop n) := fun v hv => h v (List.mem_of_mem_drop hv)
theorem byt_get {x : List Int} (h : M.byt x) {i : Nat} (hi : i < x.length) : 0 ≤ x[i] ∧ x[i] ≤ 255 := h _ (List.getElem_mem hi)
/-! enc -/
/-- A code hidden under a key, from the place i on. -/
def M.enc (key : Int) : Nat → List Int → List Int
  | _, [] => []
  | i, v :: l => (v + M.keyed key [(i : Int)]) % 256 :: M.enc key (i + 1) l
theorem enc_len (key : Int) : ∀ (i : Nat) (l : List Int), (M.enc key i l).length = l.length
  | _, [] => rfl
  | i, v :: l => by simp [M.enc, enc_len key (i + 1) l]
theorem enc_byt (key : Int) : ∀ (i : Nat) (l : List Int), M.byt (M.enc key i l)
  | _, [] => fun v hv => by simp [M.enc] at hv
  | i, v :: l => fun w hw => by
    rcases List.mem_cons.1 hw with rfl | hw
    · omega
    · exact enc_byt key (i + 1) l w hw
theorem enc_s {v h : Int} (hv : 0 ≤ v ∧ v ≤ 255) (hh : 0 ≤ h ∧ h < 2147483647) : Int.tmod (wrap64 ((wrap64 v) + (Int.tmod h 256))) 256 % 256 = (v + h) % 256 := by
  rw [wrap_in (n := v) (by omega) (by omega), tmod_pos h 256 hh.1, wrap_in (by omega) (by omega), tmod_pos _ _ (by omega)]; omega
theorem enc_i {v h : Int} (hv : 0 ≤ v ∧ v ≤ 255) (hh : 0 ≤ h ∧ h < 2147483647) : Int.tmod (wrap64 ((wrap64 v) + h)) 256 % 256 = (v + h) % 256 := by
  rw [wrap_in (n := v) (by omega) (by omega), wrap_in (by omega) (by omega), tmod_pos _ _ (by omega)]; omega
/-! rd-Entry -/
theorem rd_Entry {l : List S143} {i : Nat} (h : i < l.length) : rd_T143 l (i : Int) = l[i] := by unfold rd_T143; exact getD_lt h _
/-! inrange -/
def M.inr (a b c : Int) : Bool := decide (b ≤ a ∧ a ≤ c)
theorem inr_true {a b c : Int} : M.inr a b c = true ↔ b ≤ a ∧ a ≤ c := by simp [M.inr]
/-! isbundle -/
def M.okE (e : S143) : Bool := M.inr e.f0 0 2147483646 && (M.inr e.f1 0 1000000 && M.inr e.f2 1 1000000)
def M.lessE (a b : S143) : Bool := decide (a.f0 < b.f0) || (decide (a.f0 = b.f0) && decide (a.f1 < b.f1))
/-- All entries are in range, and each comes behind the one before it. -/
def M.rises : Option S143 → List S143 → Bool
  | _, [] => true
  | none, e :: l => M.okE e && M.rises (some e) l
  | some p, e :: l => M.okE e && (M.lessE p e && M.rises (some e) l)
def M.isBundle (l : List S143) : Bool := decide (l.length ≤ 20) && M.rises none l
/-- The element before a place. -/
def M.before (l : List S143) (i : Nat) : Option S143 := if i = 0 then none else l[i - 1]?
theorem before_succ (l : List S143) (i : Nat) (h : i < l.length) : M.before l (i + 1) = some l[i] := by
  unfold M.before; rw [if_neg (by omega)]; simp [h]
theorem rises_at (l : List S143) (i : Nat) (h : i < l.length) : M.rises (M.before l i) (l.drop i) = (M.okE l[i] && ((decide (i = 0) || M.lessE (l[i - 1]'(by omega)) l[i]) && M.rises (M.before l (i + 1)) (l.drop (i + 1)))) := by
  rw [drop_get h, before_succ l i h]
  by_cases h0 : i = 0
  · subst h0; simp [M.before, M.rises]
  · unfold M.before; rw [if_neg h0, List.getElem?_eq_getElem (by omega)]; simp [M.rises, h0]
/-! uv -/
/-- A number in sevens of bits, the lowest first. -/
def M.uvl (n : Nat) : List Int := if n < 128 then [(n : Int)] else ((n % 128 + 128 : Nat) : Int) :: M.uvl (n / 128)
termination_by n
decreasing_by omega
theorem uvl_lt {n : Nat} (h : n < 128) : M.uvl n = [(n : Int)] := by rw [M.uvl, if_pos h]
theorem uvl_ge {n : Nat} (h : ¬ n < 128) : M.uvl n = ((n % 128 + 128 : Nat) : Int) :: M.uvl (n / 128) := by rw [M.uvl, if_neg h]
theorem uvl_len : ∀ (k n : Nat), n < 128 ^ (k + 1) → (M.uvl n).length ≤ k + 1
  | 0, n, h => by rw [uvl_lt (by omega)]; simp
  | k + 1, n, h => by
    by_cases hn : n < 128
    · rw [uvl_lt hn]; simp
    · rw [uvl_ge hn]
      have := uvl_len k (n / 128) (by rw [Nat.div_lt_iff_lt_mul (by decide)]; rw [Nat.pow_succ] at h; exact h)
      simp; omega
def M.uv (n : Int) : List Int := if 0 ≤ n ∧ n ≤ 1000000000000 then M.uvl n.toNat else []
theorem uv_len (n : Int) : (M.uv n).length ≤ 6 := by
  unfold M.uv; split
  · exact uvl_len 5 _ (by omega)
  · simp
def M.encInts (l : List Int) : List Int := l.flatMap M.uv
theorem encInts_len : ∀ l : List Int, (M.encInts l).length ≤ 6 * l.length
  | [] => by simp [M.encInts]
  | n :: l => by
    have := encInts_len l; have := uv_len n
    simp only [M.encInts, List.flatMap_cons, List.length_append, List.length_cons] at *; omega
theorem encInts_cons (n : Int) (l : List Int) : M.encInts (n :: l) = M.uv n ++ M.encInts l := by simp [M.encInts]
/-! encbundle -/
def M.bit (b : Bool) : Int := if b = true then 1 else 0
def M.entryInts (e : S143) : List Int := [e.f0, e.f1, e.f2, M.bit e.f3]
def M.bundleInts (l : List S143) : List Int := (l.length : Int) :: l.flatMap M.entryInts
def M.encB (l : List S143) : List Int := if M.isBundle l = true then M.encInts (M.bundleInts l) else []
theorem entries_len : ∀ l : List S143, (l.flatMap M.entryInts).length = 4 * l.length
  | [] => by simp
  | e :: l => by
    have := entries_len l
    simp only [List.flatMap_cons, List.length_append, List.length_cons, M.entryInts, List.length_nil] at *; omega
theorem isBundle_len {l : List S143} (h : M.isBundle l = true) : l.length ≤ 20 := by
  unfold M.isBundle at h; simp only [Bool.and_eq_true, decide_eq_true_eq] at h; exact h.1
theorem encB_len (l : List S143) : (M.encB l).length ≤ 486 := by
  unfold M.encB; split
  · rename_i h
    have := isBundle_len h; have := encInts_len (M.bundleInts l); have := entries_len l
    simp only [M.bundleInts, List.length_cons] at *; omega
  · simp
/-! bytesints -/
def M.bytesInts (l : List Int) : List Int := (l.length : Int) :: l.map wrap64
/-! bundlemac -/
def M.bundleMAC (key e v : Int) (l : List Int) : Int := M.keyed key ([227, e, v] ++ M.bytesInts l)
theorem bytesInts_len (l : List Int) : (M.bytesInts l).length = l.length + 1 := by simp [M.bytesInts]
/-! derive -/
def M.orOne (a : Int) : Int := if a = 0 then 1 else a
def M.derive (a : Int) (l : List Int) : Int := M.orOne (M.keyed a ([151] ++ l))
theorem orOne_max (a : Int) (h : 0 ≤ a) : (if a > 1 then a else 1) = M.orOne a := by unfold M.orOne; split <;> split <;> omega
theorem orOne_bounds (a : Int) (h : 0 ≤ a ∧ a < 2147483647) : 1 ≤ M.orOne a ∧ M.orOne a < 2147483647 := by unfold M.orOne; split <;> omega
theorem derive_bounds (a : Int) (l : List Int) : 1 ≤ M.derive a l ∧ M.derive a l < 2147483647 := orOne_bounds _ (keyed_bounds _ _)
/-! validkey -/
def M.validKey (a : Int) : Bool := M.inr a 1 2147483646
def M.pub (a : Int) : Int := if M.validKey a = true then a * 48271 % 2147483647 else 0
def M.inv : Int := 1899818559
def M.priv (a : Int) : Int := if M.validKey a = true then a * M.inv % 2147483647 else 0
theorem priv_valid {a : Int} (h : M.validKey a = true) : M.validKey (M.priv a) = true ∧ M.pub (M.priv a) = a := by
  have h' := inr_true.1 h
  have e : M.priv a = a * 1899818559 % 2147483647 := by unfold M.priv M.inv; rw [if_pos h]
  have h2 : (a * 1899818559 % 2147483647) * 48271 % 2147483647 = a := by omega
  have h3 : M.validKey (M.priv a) = true := by rw [e]; exact inr_true.2 (by omega)
  refine ⟨h3, ?_⟩
  unfold M.pub; rw [if_pos h3, e]; exact h2
theorem pub_valid {a : Int} (h : M.validKey a = true) : M.validKey (M.pub a) = true ∧ M.priv (M.pub a) = a := by
  have h' := inr_true.1 h
  have e : M.pub a = a * 48271 % 2147483647 := by unfold M.pub; rw [if_pos h]
  have h2 : (a * 48271 % 2147483647) * 1899818559 % 2147483647 = a := by omega
  have h3 : M.validKey (M.pub a) = true := by rw [e]; exact inr_true.2 (by omega)
  refine ⟨h3, ?_⟩
  unfold M.priv M.inv; rw [if_pos h3, e]; exact h2
theorem priv_ne {a : Int} : M.priv a = 0 ↔ M.validKey a = false := by
  cases h : M.validKey a with
  | true =>
    have := inr_true.1 (priv_valid h).1
    constructor
    · intro h0; omega
    · intro h0; cases h0
  | false => simp [M.priv, h]
/-! uvbytes -/
theorem uvl_byt (n : Nat) : M.byt (M.uvl n) := by
  induction n using Nat.strongRecOn with
  | _ n ih =>
  by_cases h : n < 128
  · rw [uvl_lt h]; intro v hv; simp at hv; omega
  · rw [uvl_ge h]; intro v hv
    rcases List.mem_cons.1 hv with rfl | hv
    · omega
    · exact ih (n / 128) (by omega) v hv
theorem encInts_byt (l : List Int) : M.byt (M.encInts l) := by
  intro v hv
  simp only [M.encInts, List.mem_flatMap] at hv
  obtain ⟨n, _, h⟩ := hv
  unfold M.uv at h; split at h
  · exact uvl_byt _ v h
  · simp at h
/-! seal -/
def M.sealOk (key e v : Int) : Bool := M.validKey key && (M.inr e 0 1000000 && M.inr v 0 1000000)
def M.sealKey (key e v : Int) : Int := M.derive key [223, e, v]
def M.seal (key e v : Int) (l : List S143) : Int × Int × List Int × Int × Bool :=
  if M.sealOk key e v = true ∧ M.isBundle l = true then (e, v, M.enc (M.sealKey key e v) 0 (M.encB l), M.bundleMAC key e v (M.enc (M.sealKey key e v) 0 (M.encB l)), true) else (0, 0, [], 0, false)
theorem encB_byt (l : List S143) : M.byt (M.encB l) := by
  unfold M.encB
  by_cases h : M.isBundle l = true
  · rw [if_pos h]; exact encInts_byt _
  · rw [if_neg h]; intro v hv; cases hv
theorem seal_len (key e v : Int) (l : List S143) : (M.seal key e v l).2.2.1.length ≤ 1048576 := by
  have := encB_len l
  unfold M.seal; split
  · simp only [enc_len]; omega
  · simp
/-! impl_InRange -/
theorem impl_InRange.eq (a b c : Int) : impl_InRange.f a b c = some (M.inr a b c) := by
  unfold impl_InRange.f M.inr
  by_cases h : b ≤ a
  · rw [if_pos h]; simp [h]
  · rw [if_neg h]
    simp [h]
/-! impl_IsValidKey -/
theorem impl_IsValidKey.eq (a : Int) : impl_IsValidKey.f a = some (M.validKey a) := by unfold impl_IsValidKey.f; rw [impl_InRange.eq]; rfl
/-! joined -/
def M.joined (l : List Int) (ls : List (List Int)) : List Int := l ++ ls.flatten
/-! impl_joined -/
theorem rdL_get {ls : List (List Int)} {i : Nat} (h : i < ls.length) : rd_L5 ls (i : Int) = ls[i] := by unfold rd_L5; exact getD_lt h _
theorem impl_joined.evl (ls : List (List Int)) (hn : ls.length ≤ 1000000) : ∀ (d i : Nat) (x : List Int), i + d = ls.length → x.length + ((ls.drop i).flatten).length < 17592186044416 →
    Ev (fun k => impl_joined.l0 k x ls ls.length i) (x ++ (ls.drop i).flatten) := by
  intro d
  induction d with
  | zero =>
    intro i x hi hx
    refine Ev.round ?_
    simp only [impl_joined.l0]
    exact Ev.no (by omega) (Ev.eq (by rw [List.drop_eq_nil_of_le (by omega)]; simp))
  | succ d ih =>
    intro i x hi hx
    rw [drop_get (by omega : i < ls.length)] at hx ⊢
    simp only [List.flatten_cons, List.length_append] at hx
    refine Ev.round ?_
    simp only [impl_joined.l0, rdL_get (by omega : i < ls.length), wrap_succ (by omega : i < ls.length) (by omega : ls.length ≤ _)]
    refine Ev.yes (by omega) (Ev.yes (by omega) (Ev.yes (by omega) (Ev.yes (by omega) ?_)))
    rw [List.flatten_cons, ← List.append_assoc]
    exact ih (i + 1) (x ++ ls[i]) (by omega) (by simp only [List.length_append]; omega)
theorem impl_joined.ev (l : List Int) (ls : List (List Int)) (hn : ls.length ≤ 1000000) (hl : l.length + (ls.flatten).length < 17592186044416) : Ev (fun k => impl_joined.f k l ls) (M.joined l ls) := by
  unfold impl_joined.f
  simp only [Option.bind_some]
  refine Ev.yes (by simp; omega) ?_
  have := impl_joined.evl ls hn ls.length 0 ([] ++ l) (by omega) (by simpa using hl)
  simpa [M.joined] using this
/-! impl_Mod -/
theorem impl_Mod.eq (k : Nat) (a m : Int) : impl_Mod.f (k + 1) a m = some (M.mod a m) := by
  unfold impl_Mod.f M.mod
  by_cases h : m < 1
  · rw [if_pos h, if_neg (by omega)]; simp only [impl_Mod.j0]; simp
  · rw [if_neg h]; simp only [impl_Mod.j0]
    by_cases h2 : m > 1000000000000
    · rw [if_pos (by simp [h2]), if_neg (by omega)]
    · have e := tmod_emod a m (by omega)
      have hb := tmod_bounds a m (by omega)
      rw [if_neg (by simp [h2]), if_neg (by omega), if_pos (⟨by omega, by omega⟩ : 1 ≤ m ∧ m ≤ 1000000000000)]
      by_cases hn : Int.tmod a m < 0
      · rw [if_pos hn, wrap_in (by omega) (by omega)]; rw [if_pos hn] at e; rw [e]; congr 1; omega
      · rw [if_neg hn] at e; rw [if_neg hn, e]
theorem impl_Mod.ev (a m : Int) : Ev (fun k => impl_Mod.f k a m) (M.mod a m) := Ev.step (f := fun _ => some (M.mod a m)) (impl_Mod.eq · a m) (Ev.now _)
/-! impl_Hash -/
theorem impl_Hash.ev (l : List Int) (hl : l.length ≤ 140737488355328) : Ev (fun k => impl_Hash.f k l) (M.hash l) := by
  refine Ev.loop (fun k i h => impl_Hash.l0 k h l l.length (i : Int)) l.length (fun i h => (l.drop i).foldl M.hstep h) (fun _ h => 0 ≤ h ∧ h < 2147483647) ?_ ?_ 0 11 (by omega) (by omega)
  · intro h _
    refine Ev.round ?_
    simp only [impl_Hash.l0]
    refine Ev.no (by omega) (Ev.eq (by rw [drop_end]; rfl))
  · intro i h hi hh ih
    refine Ev.round ?_
    simp only [impl_Hash.l0, wrap_succ hi (by omega : l.length ≤ _)]
    refine Ev.yes (by omega) (Ev.yes (by omega) (Ev.yes (by omega) (Ev.bind (impl_Mod.ev _ _) ?_)))
    rw [drop_get hi, rd_get hi, hstep_eq _ _ hh.1 hh.2]
    exact ih _ (hstep_bounds _ _)
/-! impl_KeyedHash -/
theorem impl_KeyedHash.ev (a : Int) (l : List Int) (hl : l.length ≤ 1000000000000) : Ev (fun k => impl_KeyedHash.f k a l) (M.keyed a l) := by
  unfold impl_KeyedHash.f
  refine Ev.bind (impl_joined.ev _ _ (by simp) (by simp; omega)) (Ev.bind (impl_Hash.ev _ (by simp [M.joined]; omega)) (Ev.eq ?_))
  simp [M.joined, M.keyed]
/-! impl_orOne -/
theorem impl_orOne.eq (a : Int) : impl_orOne.f a = some (M.orOne a) := by unfold impl_orOne.f M.orOne; split <;> rfl
/-! impl_DeriveKey -/
theorem impl_DeriveKey.ev (a : Int) (l : List Int) (hl : l.length ≤ 100000000000) : Ev (fun k => impl_DeriveKey.f k a l) (M.derive a l) := by
  unfold impl_DeriveKey.f
  refine Ev.bind (impl_joined.ev _ _ (by simp) (by simp; omega)) (Ev.bind (impl_KeyedHash.ev _ _ (by simp [M.joined]; omega)) ?_)
  simp only [impl_orOne.eq, Option.bind_some]
  exact Ev.eq (by simp [M.derive, M.joined])
/-! impl_entryBefore -/
theorem impl_entryBefore.eq (a b : S143) : impl_entryBefore.f a.f0 a.f1 a.f2 a.f3 b.f0 b.f1 b.f2 b.f3 = some (M.lessE a b) := by
  unfold impl_entryBefore.f M.lessE
  by_cases h1 : a.f0 < b.f0 <;> by_cases h2 : a.f0 = b.f0 <;> simp [h1, h2]
/-! impl_IsBundle -/
theorem impl_IsBundle.ev (l : List S143) (hl : l.length ≤ 1048576) : Ev (fun k => impl_IsBundle.f k l) (M.isBundle l) := by
  unfold impl_IsBundle.f
  refine Ev.ite (fun h => Ev.eq (by have : ¬ l.length ≤ 20 := by omega
                                    simp [M.isBundle, this])) (fun hh => ?_)
  have hh2 : l.length ≤ 20 := by omega
  refine Ev.conv (Ev.loop (fun k i (_ : Unit) => impl_IsBundle.l0 k l l.length (i : Int) l) l.length (fun i _ => M.rises (M.before l i) (l.drop i)) (fun _ _ => True) ?_ ?_ 0 () (by omega) trivial) (by simp [M.isBundle, M.before, hh2])
  · rintro s _
    refine Ev.round ?_
    simp only [impl_IsBundle.l0]
    refine Ev.no (by omega) (Ev.eq ?_)
    rw [drop_end]; cases M.before l l.length <;> simp [M.rises]
  · rintro i s hi _ ih
    refine Ev.round ?_
    simp only [impl_IsBundle.l0, wrap_succ hi (by omega : l.length ≤ _), rd_Entry hi, impl_InRange.eq, bind_some_]
    rw [rises_at l i hi]
    refine Ev.yes (by omega) (Ev.yes (by omega) (Ev.yes (by omega) (Ev.ite (fun h1 => Ev.ite (fun h2 => Ev.ite (fun h3 => ?_) (fun h3 => ?_)) (fun h2 => ?_)) (fun h1 => ?_))))
    · have ho : M.okE l[i] = true := by simp [M.okE, h1, h2, h3]
      refine Ev.ite (fun h0 => ?_) (fun h0 => ?_)
      · have hp : wrap64 ((i : Int) - 1) = ((i - 1 : Nat) : Int) := wrap_pred (by omega) (by omega)
        simp only [hp, rd_Entry (by omega : i - 1 < l.length), impl_entryBefore.eq, bind_some_]
        refine Ev.yes (by omega) (Ev.yes (by omega) (Ev.ite (fun h4 => ?_) (fun h4 => ?_)))
        · refine Ev.conv (ih () trivial) (by simp [ho, h4])
        · refine Ev.eq (by simp [ho, h4]; omega)
      · refine Ev.conv (ih () trivial) (by obtain rfl : i = 0 := (by omega); simp [ho])
    · exact Ev.eq (by simp [M.okE, h3])
    · exact Ev.eq (by simp [M.okE, h2])
    · exact Ev.eq (by simp [M.okE, h1])
/-! impl_copyBytes -/
theorem impl_copyBytes.eq (l : List Int) (hl : l.length ≤ 10000000000000) : impl_copyBytes.f l = some l := by
  unfold impl_copyBytes.f; simp only [bind_some_]; rw [if_pos (by simp; omega)]; rfl
/-! impl_AppendUvarint -/
theorem impl_AppendUvarint.loop (n : Nat) : ∀ (o : List Int), n ≤ 1000000000000 → o.length + n ≤ 100000000000000 → Ev (fun k => impl_AppendUvarint.l0 k (n : Int) o) (o ++ M.uvl n) := by
  induction n using Nat.strongRecOn with
  | _ n ih =>
  intro o hn ho
  refine Ev.round ?_
  simp only [impl_AppendUvarint.l0]
  refine Ev.ite (fun h => Ev.yes (by omega) ?_) (fun h => Ev.yes (by omega) (Ev.eq ?_))
  · rw [tmod_pos _ _ (by omega), wrap_in (n := (n : Int) % 128 + 128) (by omega) (by omega), Int.tdiv_eq_ediv_of_nonneg (by omega), wrap_in (n := (n : Int) / 128) (by omega) (by omega), uvl_ge (by omega), show ((n : Int) / 128) = ((n / 128 : Nat) : Int) by omega, show (((n : Int) % 128 + 128) % 256) = ((n % 128 + 128 : Nat) : Int) by omega]
    refine Ev.conv (ih (n / 128) (by omega) _ (by omega) (by simp; omega)) (by simp)
  · rw [uvl_lt (by omega), show (n : Int) % 256 = n by omega]
theorem impl_AppendUvarint.ev (l : List Int) (n : Int) (hl : l.length ≤ 10000000000000) : Ev (fun k => impl_AppendUvarint.f k l n) (l ++ M.uv n) := by
  unfold impl_AppendUvarint.f
  have no : ¬ (0 ≤ n ∧ n ≤ 1000000000000) → Ev (fun k => impl_AppendUvarint.j0 k n l true) (l ++ M.uv n) := by
    intro h
    refine Ev.round ?_
    simp only [impl_AppendUvarint.j0]
    exact Ev.yes (by trivial) (Ev.eq (by unfold M.uv; rw [if_neg h]; simp))
  refine Ev.bindc (impl_copyBytes.eq l hl) (Ev.ite (fun h => no (by omega)) (fun h => ?_))
  by_cases h2 : n > 1000000000000
  · rw [decide_eq_true h2]; exact no (by omega)
  · rw [decide_eq_false h2]
    obtain ⟨m, rfl⟩ := Int.eq_ofNat_of_zero_le (by omega : 0 ≤ n)
    refine Ev.round ?_
    simp only [impl_AppendUvarint.j0]
    refine Ev.no (by simp) (Ev.conv (impl_AppendUvarint.loop m _ (by omega) (by omega)) ?_)
    unfold M.uv; rw [if_pos (by omega)]; rfl
/-! impl_EncodeInts -/
theorem impl_EncodeInts.ev (l : List Int) (hl : l.length ≤ 1000000000) : Ev (fun k => impl_EncodeInts.f k l) (M.encInts l) := by
  unfold impl_EncodeInts.f
  refine Ev.conv (Ev.loop (fun k i o => impl_EncodeInts.l0 k o l l.length (i : Int)) l.length (fun i o => o ++ M.encInts (l.drop i)) (fun i o => o.length ≤ 6 * i) ?_ ?_ 0 [] (by omega) (by simp)) (by simp)
  · intro o ho
    refine Ev.round ?_
    simp only [impl_EncodeInts.l0]
    exact Ev.no (by omega) (Ev.eq (by rw [drop_end]; simp [M.encInts]))
  · intro i o hi ho ih
    have := uv_len l[i]
    refine Ev.round ?_
    simp only [impl_EncodeInts.l0, rd_get hi, wrap_succ hi (by omega : l.length ≤ _)]
    rw [drop_get hi, encInts_cons, ← List.append_assoc]
    exact Ev.yes (by omega) (Ev.yes (by omega) (Ev.yes (by omega) (Ev.bind (impl_AppendUvarint.ev o _ (by omega)) (ih _ (by simp; omega)))))
/-! impl_bit -/
theorem impl_bit.eq (b : Bool) : impl_bit.f b = some (M.bit b) := by
  unfold impl_bit.f M.bit; split <;> rfl
/-! impl_EncodeBundle -/
theorem impl_EncodeBundle.ev (l : List S143) (hl : l.length ≤ 1048576) : Ev (fun k => impl_EncodeBundle.f k l) (M.encB l) := by
  unfold impl_EncodeBundle.f
  refine Ev.bind (impl_IsBundle.ev l hl) (Ev.ite (fun h => ?_) (fun h => Ev.eq (by unfold M.encB; rw [if_neg h])))
  have h20 := isBundle_len h
  unfold M.encB; rw [if_pos h]
  refine Ev.conv (Ev.loop (fun k i o => impl_EncodeBundle.l0 k o l l.length (i : Int)) l.length (fun i o => M.encInts (o ++ (l.drop i).flatMap M.entryInts)) (fun i o => o.length = 4 * i + 1) ?_ ?_ 0 [(l.length : Int)] (by omega) (by simp)) (by simp [M.bundleInts])
  · intro o ho
    refine Ev.round ?_
    simp only [impl_EncodeBundle.l0]
    refine Ev.no (by omega) (Ev.bind (impl_EncodeInts.ev o (by omega)) (Ev.eq (by rw [drop_end]; simp)))
  · intro i o hi ho ih
    refine Ev.round ?_
    simp only [impl_EncodeBundle.l0, rd_Entry hi, wrap_succ hi (by omega : l.length ≤ _), impl_bit.eq, bind_some_]
    rw [drop_get hi, List.flatMap_cons, ← List.append_assoc]
    refine Ev.yes (by omega) (Ev.yes (by omega) (Ev.yes (by omega) (Ev.yes (by simp; omega) ?_)))
    exact Ev.conv (ih _ (by simp; omega)) (by simp [M.entryInts])
/-! impl_Encrypt -/
theorem impl_Encrypt.ev (key : Int) (l : List Int) (hl : l.length ≤ 1048576) (hb : M.byt l) : Ev (fun k => impl_Encrypt.f k key l) (M.enc key 0 l) := by
  unfold impl_Encrypt.f
  refine Ev.conv (Ev.loop (fun k i o => impl_Encrypt.l0 k key o l l.length (i : Int)) l.length (fun i o => o ++ M.enc key i (l.drop i)) (fun i o => o.length = i) ?_ ?_ 0 [] (by omega) rfl) (by simp)
  · intro o ho
    refine Ev.round ?_
    simp only [impl_Encrypt.l0]
    exact Ev.no (by omega) (Ev.eq (by rw [drop_end]; simp [M.enc]))
  · intro i o hi ho ih
    refine Ev.round ?_
    simp only [impl_Encrypt.l0, rd_get hi, wrap_succ hi (by omega : l.length ≤ _)]
    rw [drop_get hi, M.enc]
    refine Ev.yes (by omega) (Ev.yes (by omega) (Ev.yes (by omega) (Ev.bind (impl_KeyedHash.ev key _ (by simp)) (Ev.yes (by omega) ?_))))
    rw [enc_i (byt_get hb hi) (keyed_bounds _ _)]
    exact Ev.conv (ih _ (by simp [ho])) (by simp)
/-! impl_BytesToInts -/
theorem impl_BytesToInts.ev (l : List Int) (hl : l.length ≤ 1048576) : Ev (fun k => impl_BytesToInts.f k l) (M.bytesInts l) := by
  unfold impl_BytesToInts.f
  refine Ev.conv (Ev.loop (fun k i x => impl_BytesToInts.l0 k x l l.length (i : Int)) l.length (fun i x => x ++ (l.drop i).map wrap64) (fun i x => x.length = i + 1) ?_ ?_ 0 [(l.length : Int)] (by omega) (by simp)) (by simp [M.bytesInts])
  · intro x hx
    refine Ev.round ?_
    simp only [impl_BytesToInts.l0]
    exact Ev.no (by omega) (Ev.eq (by rw [drop_end]; simp))
  · intro i x hi hx ih
    refine Ev.round ?_
    simp only [impl_BytesToInts.l0, rd_get hi, wrap_succ hi (by omega : l.length ≤ _)]
    refine Ev.yes (by omega) (Ev.yes (by omega) (Ev.yes (by omega) (Ev.yes (by omega) ?_)))
    refine Ev.conv (ih _ (by simp [hx])) (by rw [drop_get hi, List.map_cons, List.append_assoc]; rfl)
/-! impl_BundleMAC -/
theorem impl_BundleMAC.ev (key e v : Int) (l : List Int) (m : Int) (hl : l.length ≤ 1048576) : Ev (fun k => impl_BundleMAC.f k key e v l m) (M.bundleMAC key e v l) := by
  unfold impl_BundleMAC.f
  refine Ev.bind (impl_BytesToInts.ev l hl) (Ev.bind (impl_joined.ev _ _ (by simp) (by simp [bytesInts_len]; omega)) (Ev.bind (impl_KeyedHash.ev _ _ (by simp [M.joined, bytesInts_len]; omega)) (Ev.eq ?_)))
  simp [M.joined, M.bundleMAC]
/-! impl_SealBundle -/
theorem impl_SealBundle.ev (key e v : Int) (l : List S143) (hl : l.length ≤ 1048576) : Ev (fun k => impl_SealBundle.f k key e v l) (M.seal key e v l) := by
  unfold impl_SealBundle.f
  have no : ¬ (M.sealOk key e v = true ∧ M.isBundle l = true) → Ev (fun k => impl_SealBundle.j0 k key e v true l) (M.seal key e v l) := by
    intro h
    refine Ev.round ?_
    simp only [impl_SealBundle.j0]
    exact Ev.yes (by trivial) (Ev.eq (by unfold M.seal; rw [if_neg h]))
  simp only [impl_IsValidKey.eq, impl_InRange.eq, bind_some_]
  refine Ev.ite (fun h1 => Ev.ite (fun h2 => Ev.ite (fun h3 => Ev.bind (impl_IsBundle.ev l hl) ?_) (fun h3 => no ?_)) (fun h2 => no ?_)) (fun h1 => no ?_)
  · have h : M.sealOk key e v = true := by simp [M.sealOk, h1, h2, h3]
    cases h4 : M.isBundle l with
    | false => exact no (fun hh => by rw [h4] at hh; cases hh.2)
    | true =>
      have := encB_len l
      refine Ev.round ?_
      simp only [impl_SealBundle.j0]
      refine Ev.no (by simp) (Ev.bind (impl_DeriveKey.ev _ _ (by simp)) (Ev.bind (impl_EncodeBundle.ev l hl) (Ev.bind (impl_Encrypt.ev _ _ (by omega) (encB_byt l)) (Ev.bind (impl_BundleMAC.ev _ _ _ _ _ (by rw [enc_len]; omega)) (Ev.eq ?_)))))
      unfold M.seal; rw [if_pos ⟨h, h4⟩]; rfl
  · intro hh; have := hh.1; simp [M.sealOk, h3] at this
  · intro hh; have := hh.1; simp [M.sealOk, h2] at this
  · intro hh; have := hh.1; simp [M.sealOk, h1] at this
/-! laws_eqEntryS -/
theorem laws_eqEntryS.refl (l : List S143) (hl : l.length ≤ 1048576) : Ev (fun k => laws_eqEntryS.f k l l) true := by
  unfold laws_eqEntryS.f
  refine Ev.yes rfl ?_
  refine Ev.loop (fun k i (_ : Unit) => laws_eqEntryS.l0 k l l (i : Int)) l.length (fun _ _ => true) (fun _ _ => True) ?_ ?_ 0 () (by omega) trivial
  · rintro s _
    refine Ev.round ?_
    simp only [laws_eqEntryS.l0]
    exact Ev.no (by omega) (Ev.now _)
  · rintro i s hi _ ih
    refine Ev.round ?_
    simp only [laws_eqEntryS.l0, wrap_succ hi (by omega : l.length ≤ _), laws_eqEntry.f, if_true, bind_some_, bne_self_eq_false, Bool.false_eq_true, if_false]
    exact Ev.yes (by omega) (Ev.yes (by omega) (Ev.yes (by omega) (ih () trivial)))
/-! laws_eqBundle -/
theorem laws_eqBundle.refl (l : List S143) (hl : l.length ≤ 1048576) : Ev (fun k => laws_eqBundle.f k l l) true := by
  unfold laws_eqBundle.f; exact Ev.bind (laws_eqEntryS.refl l hl) (Ev.yes rfl (Ev.now _))
/-! laws_eqByteS -/
theorem laws_eqByteS.refl (l : List Int) (hl : l.length ≤ 1048576) : Ev (fun k => laws_eqByteS.f k l l) true := by
  unfold laws_eqByteS.f
  refine Ev.yes rfl ?_
  refine Ev.loop (fun k i (_ : Unit) => laws_eqByteS.l0 k l l (i : Int)) l.length (fun _ _ => true) (fun _ _ => True) ?_ ?_ 0 () (by omega) trivial
  · rintro s _
    refine Ev.round ?_
    simp only [laws_eqByteS.l0]
    exact Ev.no (by omega) (Ev.now _)
  · rintro i s hi _ ih
    refine Ev.round ?_
    simp only [laws_eqByteS.l0, wrap_succ hi (by omega : l.length ≤ _)]
    exact Ev.yes (by omega) (Ev.yes (by omega) (Ev.yes (by omega) (Ev.yes (by first | trivial | rfl) (ih () trivial))))
/-! laws_eqSealedBundle -/
theorem laws_eqSealedBundle.refl (e v : Int) (l : List Int) (m : Int) (hl : l.length ≤ 1048576) : Ev (fun k => laws_eqSealedBundle.f k e v l m e v l m) true := by
  unfold laws_eqSealedBundle.f
  exact Ev.yes rfl (Ev.yes rfl (Ev.bind (laws_eqByteS.refl l hl) (Ev.yes rfl (Ev.yes rfl (Ev.now _)))))
/-! marksbytes -/
def M.markedBytes (m : Nat) (n : Int) : List Int := (List.range m).map fun (i : Nat) => (n + (i : Int)) % 256
theorem markedBytes_len (m : Nat) (n : Int) : (M.markedBytes m n).length = m := by simp [M.markedBytes]
theorem markedBytes_get {m i : Nat} (n : Int) (h : i < (M.markedBytes m n).length) : (M.markedBytes m n)[i] = (n + (i : Int)) % 256 := by simp [M.markedBytes]
theorem markedBytes_succ (m : Nat) (n : Int) : M.markedBytes (m + 1) n = M.markedBytes m n ++ [(n + (m : Int)) % 256] := by simp [M.markedBytes, List.range_succ]
/-! laws_heldByteS -/
theorem laws_heldByteS.ev (m : Nat) (n : Int) (hl : m ≤ 1048576) (hn : 0 ≤ n) (hn2 : n ≤ 1000000000) : Ev (fun k => laws_heldByteS.f k (M.markedBytes m n) n) (n + (m : Int)) := by
  unfold laws_heldByteS.f
  refine Ev.loop (fun k i x => laws_heldByteS.l0 k (M.markedBytes m n) x (i : Int)) m (fun _ _ => n + (m : Int)) (fun i x => x = n + (i : Int)) ?_ ?_ 0 n (by omega) (by simp)
  · rintro x rfl
    refine Ev.round ?_
    simp only [laws_heldByteS.l0, markedBytes_len]
    exact Ev.no (by omega) (Ev.now _)
  · rintro i x hi hx ih
    have w0 : wrap64 (x + 1) = x + 1 := wrap_in (by omega) (by omega)
    have e : rd (M.markedBytes m n) (i : Int) = x % 256 := by rw [rd_get (by rw [markedBytes_len]; exact hi), markedBytes_get, ← hx]
    refine Ev.round ?_
    simp only [laws_heldByteS.l0, markedBytes_len, wrap_succ hi (by omega : m ≤ _), e, w0, if_true]
    exact Ev.yes (by omega) (Ev.yes (by omega) (ih _ (by omega)))
/-! laws_heldSealedBundle -/
theorem laws_heldSealedBundle.ev (e v : Int) (c : Nat) (m n : Int) (hl : c ≤ 1048576) (hn : 0 ≤ n) (hn2 : n ≤ 1000000000) : Ev (fun k => laws_heldSealedBundle.f k e v (M.markedBytes c n) m n) (n + (c : Int)) := by
  unfold laws_heldSealedBundle.f; exact Ev.bind (laws_heldByteS.ev c n hl hn hn2) (Ev.no (by omega) (Ev.now _))
/-! mark-Entry -/
def M.markEntry (x : Int) : S143 := ⟨x, x + 1, x + 1 + 1, (Int.tmod (x + 1 + 1 + 1) 3 == 0)⟩
def M.markedEntry (m : Nat) (n : Int) : List S143 := (List.range m).map fun (i : Nat) => M.markEntry (n + 4 * (i : Int))
theorem markedEntry_len (m : Nat) (n : Int) : (M.markedEntry m n).length = m := by simp [M.markedEntry]
theorem markedEntry_get {m i : Nat} (n : Int) (h : i < (M.markedEntry m n).length) : (M.markedEntry m n)[i] = M.markEntry (n + 4 * (i : Int)) := by simp [M.markedEntry]
theorem markedEntry_succ (m : Nat) (n : Int) : M.markedEntry (m + 1) n = M.markedEntry m n ++ [M.markEntry (n + 4 * (m : Int))] := by simp [M.markedEntry, List.range_succ]
/-! laws_markEntryS -/
theorem laws_markEntryS.ev (l : List S143) (n : Int) (hl : l.length ≤ 1048576) (hn : 0 ≤ n) (hn2 : n ≤ 1000000000) : Ev (fun k => laws_markEntryS.f k l n) (n + 4 * (l.length : Int), M.markedEntry l.length n) := by
  unfold laws_markEntryS.f
  refine Ev.loop (fun k i (s : List S143 × Int) => laws_markEntryS.l0 k s.1 s.2 (i : Int)) l.length (fun _ _ => (n + 4 * (l.length : Int), M.markedEntry l.length n)) (fun i s => s.1 = M.markedEntry i n ++ l.drop i ∧ s.2 = n + 4 * (i : Int)) ?_ ?_ 0 (l, n) (by omega) (by simp [M.markedEntry])
  · rintro ⟨s, x⟩ ⟨rfl, rfl⟩
    refine Ev.round ?_
    simp only [laws_markEntryS.l0]
    refine Ev.no (by simp [markedEntry_len]) (Ev.eq (by simp))
  · rintro i ⟨s, x⟩ hi ⟨hs, hx⟩ ih
    simp only at hs hx ih
    have hsl : s.length = l.length := by rw [hs]; simp [markedEntry_len]; omega
    have rdset : ∀ v : S143, rd_T143 (s.set i v) (i : Int) = v := fun v => by rw [rd_Entry (by simp; omega)]; simp
    have w0 : wrap64 (x + 1) = x + 1 := wrap_in (by omega) (by omega)
    have w1 : wrap64 (x + 1 + 1) = x + 1 + 1 := wrap_in (by omega) (by omega)
    have w2 : wrap64 (x + 1 + 1 + 1) = x + 1 + 1 + 1 := wrap_in (by omega) (by omega)
    have w3 : wrap64 (x + 1 + 1 + 1 + 1) = x + 1 + 1 + 1 + 1 := wrap_in (by omega) (by omega)
    refine Ev.round ?_
    simp only [laws_markEntryS.l0, wrap_succ hi (by omega : l.length ≤ _), Int.toNat_natCast, bind_some_, rdset, List.set_set, w0, w1, w2, w3]
    refine Ev.yes (by omega) (Ev.yes (by omega) (ih (_, _) ⟨?_, by simp only; omega⟩))
    rw [markedEntry_succ, ← hx, hs, List.set_append_right _ _ (by simp [markedEntry_len]), markedEntry_len, drop_get hi, Nat.sub_self, List.set_cons_zero, List.append_assoc]
    rfl
/-! laws_markBundle -/
theorem laws_markBundle.ev (l : List S143) (n : Int) (hl : l.length ≤ 1048576) (hn : 0 ≤ n) (hn2 : n ≤ 1000000000) : Ev (fun k => laws_markBundle.f k l n) (n + 4 * (l.length : Int), M.markedEntry l.length n) := by
  unfold laws_markBundle.f; exact Ev.bind (laws_markEntryS.ev l n hl hn hn2) (Ev.now _)
/-! laws_markByteS -/
theorem laws_markByteS.ev (l : List Int) (n : Int) (hl : l.length ≤ 1048576) (hn : 0 ≤ n) (hn2 : n ≤ 1000000000) : Ev (fun k => laws_markByteS.f k l n) (n + (l.length : Int), M.markedBytes l.length n) := by
  unfold laws_markByteS.f
  refine Ev.loop (fun k i (s : List Int × Int) => laws_markByteS.l0 k s.1 s.2 (i : Int)) l.length (fun _ _ => (n + (l.length : Int), M.markedBytes l.length n)) (fun i s => s.1 = M.markedBytes i n ++ l.drop i ∧ s.2 = n + (i : Int)) ?_ ?_ 0 (l, n) (by omega) (by simp [M.markedBytes])
  · rintro ⟨s, x⟩ ⟨rfl, rfl⟩
    refine Ev.round ?_
    simp only [laws_markByteS.l0]
    refine Ev.no (by simp [markedBytes_len]) (Ev.eq (by simp))
  · rintro i ⟨s, x⟩ hi ⟨hs, hx⟩ ih
    simp only at hs hx ih
    have hsl : s.length = l.length := by rw [hs]; simp [markedBytes_len]; omega
    have w0 : wrap64 (x + 1) = x + 1 := wrap_in (by omega) (by omega)
    refine Ev.round ?_
    simp only [laws_markByteS.l0, wrap_succ hi (by omega : l.length ≤ _), Int.toNat_natCast, w0]
    refine Ev.yes (by omega) (Ev.yes (by omega) (ih (_, _) ⟨?_, by simp only; omega⟩))
    rw [markedBytes_succ, ← hx, hs, List.set_append_right _ _ (by simp [markedBytes_len]), markedBytes_len, drop_get hi, Nat.sub_self, List.set_cons_zero, List.append_assoc]
    rfl
/-! laws_markSealedBundle -/
theorem laws_markSealedBundle.ev (e v : Int) (l : List Int) (m n : Int) (hl : l.length ≤ 1048576) (hn : 0 ≤ n) (hn2 : n ≤ 1000000000) : Ev (fun k => laws_markSealedBundle.f k e v l m n) (n + (l.length : Int), M.markedBytes l.length n) := by
  unfold laws_markSealedBundle.f; exact Ev.bind (laws_markByteS.ev l n hl hn hn2) (Ev.now _)
/-! sz -/
def M.sz (n : Nat) (a : Int) : Int := if a - n < 0 then -1 else a - n
theorem sz_eq (n : Nat) (a : Int) (ha : 0 ≤ a) (ha2 : a ≤ 1048576) (hn : n ≤ 9223372036854775807) : (if (wrap64 (a - (n : Int))) < 0 then (some (-1)) else (some (wrap64 (a - (n : Int)))) : Option Int) = some (M.sz n a) := by
  rw [wrap_in (by omega) (by omega)]; unfold M.sz; split <;> rfl
theorem sz_over {n : Nat} {a : Int} (h : a < n) : M.sz n a = -1 := by unfold M.sz; rw [if_pos (by omega)]
theorem sz_fits {n : Nat} {a : Int} (h : (n : Int) ≤ a) : M.sz n a = a - n := by unfold M.sz; rw [if_neg (by omega)]
theorem sz_wrap (n : Nat) (a : Int) : (if M.sz n a < 0 then (some (-1)) else (some (M.sz n a)) : Option Int) = some (M.sz n a) := by
  unfold M.sz; split <;> simp_all
theorem sz_add (n m : Nat) (a : Int) : (if M.sz n a < 0 then -1 else M.sz m (M.sz n a)) = M.sz (n + m) a := by
  unfold M.sz; split <;> split <;> simp_all <;> omega
theorem sz_sub (m n : Nat) (x : Int) : M.sz m (x - n) = M.sz (n + m) x := by
  unfold M.sz; rw [show x - n - m = x - ((n + m : Nat) : Int) by omega]
/-- A law's own look at the size of an argument. -/
theorem Ev.size {n : Nat} {a : Int} {f : Nat → Option Bool} (h : (n : Int) ≤ a → Ev f true) : Ev (fun k => if M.sz n a < 0 then some true else f k) true := by
  by_cases hn : (n : Int) ≤ a
  · exact Ev.no (by rw [sz_fits hn]; omega) (h hn)
  · exact Ev.yes (by rw [sz_over (by omega)]; omega) (Ev.now _)
/-! laws_szEntryS -/
theorem laws_szEntryS.eq (l : List S163) (a : Int) (ha : 0 ≤ a) (ha2 : a ≤ 1048576) (hl : l.length ≤ 9223372036854775807) : laws_szEntryS.f l a = some (M.sz l.length a) := by
  unfold laws_szEntryS.f; exact sz_eq _ _ ha ha2 hl
/-! laws_szBundle -/
theorem laws_szBundle.eq (l : List S163) (a : Int) (ha : 0 ≤ a) (ha2 : a ≤ 1048576) (hl : l.length ≤ 9223372036854775807) : laws_szBundle.f l a = some (M.sz l.length a) := by
  unfold laws_szBundle.f; rw [laws_szEntryS.eq l a ha ha2 hl]; exact sz_wrap _ _
/-! rd-lEntry -/
theorem rd_lEntry {l : List S163} {i : Nat} (h : i < l.length) : rd_T163 l (i : Int) = l[i] := by unfold rd_T163; exact getD_lt h _
/-! laws_toEntryS -/
def M.toEntry (e : S163) : S143 := ⟨e.f0, e.f1, e.f2, e.f3⟩
theorem laws_toEntryS.ev (l : List S163) (hl : l.length ≤ 1048576) : Ev (fun k => laws_toEntryS.f k l) (l.map M.toEntry) := by
  unfold laws_toEntryS.f
  refine Ev.yes (by omega) (Ev.yes (by omega) ?_)
  refine Ev.loop (fun k i x => laws_toEntryS.l0 k l x (i : Int)) l.length (fun _ _ => l.map M.toEntry) (fun i x => x = (l.take i).map M.toEntry ++ List.replicate (l.length - i) z143) ?_ ?_ 0 _ (by omega) (by simp)
  · rintro s rfl
    refine Ev.round ?_
    simp only [laws_toEntryS.l0]
    exact Ev.no (by omega) (Ev.eq (fill_end _ _ _))
  · rintro i s hi rfl ih
    refine Ev.round ?_
    simp only [laws_toEntryS.l0, rd_lEntry hi, laws_toEntry.f, bind_some_, wrap_succ hi (by omega : l.length ≤ _), Int.toNat_natCast]
    refine Ev.yes (by omega) (Ev.yes (by omega) (Ev.yes (by rw [fill_len _ _ _ (by omega)]; omega) ?_))
    exact ih _ (take_fill M.toEntry l z143 hi)
/-! laws_toBundle -/
theorem laws_toBundle.ev (l : List S163) (hl : l.length ≤ 1048576) : Ev (fun k => laws_toBundle.f k l) (l.map M.toEntry) := by
  unfold laws_toBundle.f; exact Ev.bind (laws_toEntryS.ev l hl) (Ev.now _)
/-! spec_l1In -/
theorem spec_l1In.eq (a b c : Int) : spec_l1In.f a b c = some (M.inr a b c) := by
  unfold spec_l1In.f M.inr
  by_cases h : a ≥ b
  · rw [if_pos h]; simp [h]
  · rw [if_neg h]; have : ¬ b ≤ a := by omega
    simp [this]
/-! spec_IsValidKey -/
theorem spec_IsValidKey.eq (a : Int) : spec_IsValidKey.f a = some (M.validKey a) := by unfold spec_IsValidKey.f; rw [spec_l1In.eq]; rfl
/-! spec_l18Range -/
theorem spec_l18Range.eq (key e v : Int) : spec_l18Range.f key e v = some (M.sealOk key e v) := by
  unfold spec_l18Range.f M.sealOk
  simp only [spec_IsValidKey.eq, spec_l1In.eq, bind_some_]
  cases M.validKey key <;> cases M.inr e 0 1000000 <;> cases M.inr v 0 1000000 <;> rfl
/-! spec_Mod -/
theorem spec_Mod.eq (a m : Int) : spec_Mod.f a m = some (M.mod a m) := by
  unfold spec_Mod.f M.mod
  rw [spec_l1In.eq]; simp only [Option.bind_some]
  by_cases h : 1 ≤ m ∧ m ≤ 1000000000000
  · have hb := tmod_bounds a m h.1
    rw [if_pos (inr_true.2 h), if_neg (by omega), if_pos h, wrap_in (by omega) (by omega), mod_add_self a m h.1]
  · rw [if_neg (fun h2 => h (inr_true.1 h2)), if_neg h]
/-! spec_Hash -/
theorem spec_Hash.ev (l : List Int) (hl : l.length ≤ 140737488355328) : Ev (fun k => spec_Hash.f k l) (M.hash l) := by
  refine Ev.loop (fun k i h => spec_Hash.l0 k l h (i : Int)) l.length (fun i h => (l.drop i).foldl M.hstep h) (fun _ h => 0 ≤ h ∧ h < 2147483647) ?_ ?_ 0 11 (by omega) (by omega)
  · intro h _
    refine Ev.round ?_
    simp only [spec_Hash.l0]
    refine Ev.no (by omega) (Ev.eq (by rw [drop_end]; rfl))
  · intro i h hi hh ih
    refine Ev.round ?_
    simp only [spec_Hash.l0, spec_Mod.eq, bind_some_, wrap_succ hi (by omega : l.length ≤ _), hstep_eq _ _ hh.1 hh.2]
    refine Ev.yes (by omega) (Ev.yes (by omega) ?_)
    rw [drop_get hi, rd_get hi]
    exact ih _ (hstep_bounds _ _)
/-! spec_KeyedHash -/
theorem spec_KeyedHash.ev (a : Int) (l : List Int) (hl : l.length ≤ 1000000000000) : Ev (fun k => spec_KeyedHash.f k a l) (M.keyed a l) := by
  unfold spec_KeyedHash.f
  simp only [Option.bind_some]
  exact Ev.yes (by simp; omega) (Ev.yes (by simp; omega) (Ev.bind (spec_Hash.ev _ (by simp; omega)) (Ev.now _)))
/-! spec_Max -/
theorem spec_Max.eq (a b : Int) : spec_Max.f a b = some (if b > a then b else a) := by unfold spec_Max.f; split <;> rfl
/-! spec_DeriveKey -/
theorem spec_DeriveKey.ev (a : Int) (l : List Int) (hl : l.length ≤ 100000000000) : Ev (fun k => spec_DeriveKey.f k a l) (M.derive a l) := by
  unfold spec_DeriveKey.f
  simp only [Option.bind_some]
  refine Ev.yes (by simp; omega) (Ev.bind (spec_KeyedHash.ev _ _ (by simp; omega)) ?_)
  simp only [spec_Max.eq, Option.bind_some]
  exact Ev.eq (orOne_max _ (hash_bounds _).1)
/-! spec_l18Key -/
theorem spec_l18Key.ev (key e v : Int) : Ev (fun k => spec_l18Key.f k key e v) (M.sealKey key e v) := by
  unfold spec_l18Key.f; exact Ev.bind (spec_DeriveKey.ev key _ (by simp)) (Ev.now _)
/-! spec_l17Less -/
theorem spec_l17Less.eq (a b : S143) : spec_l17Less.f a.f0 a.f1 a.f2 a.f3 b.f0 b.f1 = some (M.lessE a b) := by
  unfold spec_l17Less.f M.lessE
  by_cases h1 : a.f0 < b.f0 <;> by_cases h2 : a.f0 = b.f0 <;> simp [h1, h2]
/-! spec_IsBundle -/
theorem spec_IsBundle.ev (l : List S143) (hl : l.length ≤ 1048576) : Ev (fun k => spec_IsBundle.f k l) (M.isBundle l) := by
  unfold spec_IsBundle.f
  refine Ev.conv (Ev.loop (fun k i (_ : Unit) => spec_IsBundle.l0 k (i : Int) l) l.length (fun i _ => decide (l.length ≤ 20) && M.rises (M.before l i) (l.drop i)) (fun _ _ => True) ?_ ?_ 0 () (by omega) trivial) (by simp [M.isBundle, M.before])
  · rintro s _
    refine Ev.round ?_
    simp only [spec_IsBundle.l0]
    refine Ev.no (by omega) (Ev.eq ?_)
    rw [drop_end]; cases M.before l l.length <;> simp [M.rises] <;> omega
  · rintro i s hi _ ih
    refine Ev.round ?_
    simp only [spec_IsBundle.l0, wrap_succ hi (by omega : l.length ≤ _), rd_Entry hi, spec_l1In.eq, bind_some_]
    rw [rises_at l i hi]
    refine Ev.yes (by omega) (Ev.yes (by omega) (Ev.ite (fun h1 => Ev.ite (fun h2 => Ev.ite (fun h3 => ?_) (fun h3 => ?_)) (fun h2 => ?_)) (fun h1 => ?_)))
    · have ho : M.okE l[i] = true := by simp [M.okE, h1, h2, h3]
      refine Ev.ite (fun h0 => ?_) (fun h0 => ?_)
      · have hp : wrap64 ((i : Int) - 1) = ((i - 1 : Nat) : Int) := wrap_pred (by omega) (by omega)
        simp only [hp, rd_Entry (by omega : i - 1 < l.length), spec_l17Less.eq, bind_some_]
        refine Ev.yes (by omega) (Ev.yes (by omega) (Ev.ite (fun h4 => ?_) (fun h4 => ?_)))
        · refine Ev.conv (ih () trivial) (by simp [ho, h4])
        · refine Ev.eq (by simp [ho, h4]; omega)
      · refine Ev.conv (ih () trivial) (by obtain rfl : i = 0 := (by omega); simp [ho])
    · exact Ev.eq (by simp [M.okE, h3])
    · exact Ev.eq (by simp [M.okE, h2])
    · exact Ev.eq (by simp [M.okE, h1])
/-! bits -/
theorem and127 (n : Int) : Go.bits .and .i64 n 127 = n % 128 := Go.i64_and127 n
theorem or128 {y : Int} (h0 : 0 ≤ y) (h1 : y < 128) : Go.bits .or .i64 y 128 = y + 128 := by
  have hc : Go.bits .or .i64 y 128 = Go.bits .or .i64 128 y := by simp only [Go.bits, BitVec.or_comm]
  rw [hc, Go.bits_join .i64 8 (by decide) (fun n h0 h1 => by rw [Go.IntKind.wrap_i64]; omega) 7 128 y (by decide) (by decide) (by decide) h0 (by omega) (by omega)]
  omega
/-! spec_AppendUvarint -/
theorem spec_AppendUvarint.loop (n : Nat) : ∀ (o : List Int), o.length + n ≤ 100000000000000 → Ev (fun k => spec_AppendUvarint.l0 k (n : Int) o) (o ++ M.uvl n) := by
  induction n using Nat.strongRecOn with
  | _ n ih =>
  intro o ho
  refine Ev.round ?_
  simp only [spec_AppendUvarint.l0, and127]
  refine Ev.ite (fun h => Ev.yes (by omega) ?_) (fun h => Ev.yes (by omega) (Ev.eq ?_))
  · rw [or128 (by omega) (by omega), uvl_ge (by omega), show ((n : Int) / 128) = ((n / 128 : Nat) : Int) by omega, show (((n : Int) % 128 + 128) % 256) = ((n % 128 + 128 : Nat) : Int) by omega]
    refine Ev.conv (ih (n / 128) (by omega) _ (by simp; omega)) (by simp)
  · rw [uvl_lt (by omega), show (n : Int) % 256 = n by omega]
theorem spec_AppendUvarint.ev (l : List Int) (n : Int) (hl : l.length ≤ 10000000000000) : Ev (fun k => spec_AppendUvarint.f k l n) (l ++ M.uv n) := by
  unfold spec_AppendUvarint.f
  simp only [bind_some_, spec_l1In.eq]
  refine Ev.yes (by simp; omega) ?_
  unfold M.uv
  refine Ev.ite (fun h => ?_) (fun h => ?_)
  · rw [inr_true] at h
    rw [if_pos h]
    obtain ⟨m, rfl⟩ := Int.eq_ofNat_of_zero_le h.1
    exact Ev.conv (spec_AppendUvarint.loop m _ (by simp; omega)) (by simp)
  · rw [inr_true] at h
    rw [if_neg h]; exact Ev.eq (by simp)
/-! spec_EncodeInts -/
theorem spec_EncodeInts.ev (l : List Int) (hl : l.length ≤ 1000000000) : Ev (fun k => spec_EncodeInts.f k l) (M.encInts l) := by
  unfold spec_EncodeInts.f
  refine Ev.conv (Ev.loop (fun k i o => spec_EncodeInts.l0 k l o (i : Int)) l.length (fun i o => o ++ M.encInts (l.drop i)) (fun i o => o.length ≤ 6 * i) ?_ ?_ 0 [] (by omega) (by simp)) (by simp)
  · intro o ho
    refine Ev.round ?_
    simp only [spec_EncodeInts.l0]
    exact Ev.no (by omega) (Ev.eq (by rw [drop_end]; simp [M.encInts]))
  · intro i o hi ho ih
    have := uv_len l[i]
    refine Ev.round ?_
    simp only [spec_EncodeInts.l0, rd_get hi, wrap_succ hi (by omega : l.length ≤ _)]
    rw [drop_get hi, encInts_cons, ← List.append_assoc]
    exact Ev.yes (by omega) (Ev.yes (by omega) (Ev.bind (spec_AppendUvarint.ev o _ (by omega)) (ih _ (by simp; omega))))
/-! spec_EncodeBundle -/
theorem spec_EncodeBundle.ev (l : List S143) (hl : l.length ≤ 1048576) : Ev (fun k => spec_EncodeBundle.f k l) (M.encB l) := by
  unfold spec_EncodeBundle.f
  refine Ev.bind (spec_IsBundle.ev l hl) (Ev.ite (fun h => ?_) (fun h => Ev.eq (by unfold M.encB; rw [if_neg h])))
  have h20 := isBundle_len h
  unfold M.encB; rw [if_pos h]
  refine Ev.conv (Ev.loop (fun k i o => spec_EncodeBundle.l0 k o (i : Int) l) l.length (fun i o => M.encInts (o ++ (l.drop i).flatMap M.entryInts)) (fun i o => o.length = 4 * i + 1) ?_ ?_ 0 [(l.length : Int)] (by omega) (by simp)) (by simp [M.bundleInts])
  · intro o ho
    refine Ev.round ?_
    simp only [spec_EncodeBundle.l0]
    refine Ev.no (by omega) (Ev.bind (spec_EncodeInts.ev o (by omega)) (Ev.eq (by rw [drop_end]; simp)))
  · intro i o hi ho ih
    refine Ev.round ?_
    simp only [spec_EncodeBundle.l0, rd_Entry hi, wrap_succ hi (by omega : l.length ≤ _), bind_some_]
    rw [drop_get hi, List.flatMap_cons, ← List.append_assoc]
    refine Ev.yes (by omega) (Ev.yes (by omega) (Ev.ite (fun h => Ev.yes (by simp; omega) ?_) (fun h => Ev.yes (by simp; omega) ?_)))
    · exact Ev.conv (ih _ (by simp; omega)) (by simp [M.entryInts, M.bit, h])
    · exact Ev.conv (ih _ (by simp; omega)) (by simp [M.entryInts, M.bit, h])
/-! spec_Encrypt -/
theorem spec_Encrypt.ev (key : Int) (l : List Int) (hl : l.length ≤ 1048576) (hb : M.byt l) : Ev (fun k => spec_Encrypt.f k key l) (M.enc key 0 l) := by
  unfold spec_Encrypt.f
  refine Ev.conv (Ev.loop (fun k i o => spec_Encrypt.l0 k key l o (i : Int)) l.length (fun i o => o ++ M.enc key i (l.drop i)) (fun i o => o.length = i) ?_ ?_ 0 [] (by omega) rfl) (by simp)
  · intro o ho
    refine Ev.round ?_
    simp only [spec_Encrypt.l0]
    exact Ev.no (by omega) (Ev.eq (by rw [drop_end]; simp [M.enc]))
  · intro i o hi ho ih
    refine Ev.round ?_
    simp only [spec_Encrypt.l0, rd_get hi, wrap_succ hi (by omega : l.length ≤ _)]
    rw [drop_get hi, M.enc]
    refine Ev.yes (by omega) (Ev.yes (by omega) (Ev.bind (spec_KeyedHash.ev key _ (by simp)) (Ev.yes (by omega) ?_)))
    rw [enc_s (byt_get hb hi) (keyed_bounds _ _)]
    exact Ev.conv (ih _ (by simp [ho])) (by simp)
/-! spec_BytesToInts -/
theorem spec_BytesToInts.ev (l : List Int) (hl : l.length ≤ 1048576) : Ev (fun k => spec_BytesToInts.f k l) (M.bytesInts l) := by
  unfold spec_BytesToInts.f
  refine Ev.conv (Ev.loop (fun k i x => spec_BytesToInts.l0 k l x (i : Int)) l.length (fun i x => x ++ (l.drop i).map wrap64) (fun i x => x.length = i + 1) ?_ ?_ 0 [(l.length : Int)] (by omega) (by simp)) (by simp [M.bytesInts])
  · intro x hx
    refine Ev.round ?_
    simp only [spec_BytesToInts.l0]
    exact Ev.no (by omega) (Ev.eq (by rw [drop_end]; simp))
  · intro i x hi hx ih
    refine Ev.round ?_
    simp only [spec_BytesToInts.l0, rd_get hi, wrap_succ hi (by omega : l.length ≤ _)]
    refine Ev.yes (by omega) (Ev.yes (by omega) (Ev.yes (by omega) ?_))
    refine Ev.conv (ih _ (by simp [hx])) (by rw [drop_get hi, List.map_cons, List.append_assoc]; rfl)
/-! spec_BundleMAC -/
theorem spec_BundleMAC.ev (key e v : Int) (l : List Int) (m : Int) (hl : l.length ≤ 1048576) : Ev (fun k => spec_BundleMAC.f k key e v l m) (M.bundleMAC key e v l) := by
  unfold spec_BundleMAC.f
  simp only [bind_some_]
  exact Ev.bind (spec_BytesToInts.ev l hl) (Ev.yes (by simp [bytesInts_len]; omega) (Ev.bind (spec_KeyedHash.ev _ _ (by simp [bytesInts_len]; omega)) (Ev.now _)))
/-! spec_SealBundle -/
theorem spec_SealBundle.ev (key e v : Int) (l : List S143) (hl : l.length ≤ 1048576) : Ev (fun k => spec_SealBundle.f k key e v l) (M.seal key e v l) := by
  unfold spec_SealBundle.f
  have no : ¬ (M.sealOk key e v = true ∧ M.isBundle l = true) → Ev (fun k => spec_SealBundle.j0 k key e v true l) (M.seal key e v l) := by
    intro h
    refine Ev.round ?_
    simp only [spec_SealBundle.j0]
    exact Ev.yes (by trivial) (Ev.eq (by unfold M.seal; rw [if_neg h]))
  refine Ev.bindc (spec_l18Range.eq ..) (Ev.ite (fun h => Ev.bind (spec_IsBundle.ev l hl) ?_) (fun h => no (fun hh => h hh.1)))
  cases h2 : M.isBundle l with
  | false => exact no (fun hh => by rw [h2] at hh; cases hh.2)
  | true =>
    have := encB_len l
    refine Ev.round ?_
    simp only [spec_SealBundle.j0]
    refine Ev.no (by simp) (Ev.bind (spec_l18Key.ev ..) (Ev.bind (spec_EncodeBundle.ev l hl) (Ev.bind (spec_Encrypt.ev _ _ (by omega) (encB_byt l)) (Ev.bind (spec_BundleMAC.ev _ _ _ _ _ (by rw [enc_len]; omega)) (Ev.eq ?_)))))
    unfold M.seal; rw [if_pos ⟨h, h2⟩]

/-! the law -/
theorem FnExactSealBundle : ∀ (a0 : Int) (a1 : Int) (a2 : Int) (l3_0 : List (S163)), l3_0.length ≤ 9223372036854775807 → ∃ k, laws_FnExactSealBundle.f k a0 a1 a2 l3_0 = some true := by
  intro key e v l h0
  apply Ev.rounds (r := true)
  unfold laws_FnExactSealBundle.f
  refine Ev.bindc (laws_szBundle.eq _ _ (by decide) (by decide) h0) (Ev.size fun g0 => ?_)
  have b0 : l.length ≤ 1048576 := by omega
  have c0 : (l.map M.toEntry).length ≤ 1048576 := by simpa using b0
  have t0 := laws_toBundle.ev l b0
  have hs := spec_SealBundle.ev key e v (l.map M.toEntry) c0
  have hi := impl_SealBundle.ev key e v (l.map M.toEntry) c0
  obtain ⟨⟨re, rv, rl, rm, rb⟩, hr⟩ : ∃ r, M.seal key e v (l.map M.toEntry) = r := ⟨_, rfl⟩
  have hl : rl.length ≤ 1048576 := by have := seal_len key e v (l.map M.toEntry); rw [hr] at this; exact this
  rw [hr] at hs hi
  clear hr
  refine Ev.bind t0 (Ev.bind hs (Ev.bind t0 (Ev.bind hi (Ev.bind (laws_eqSealedBundle.refl _ _ _ _ hl) (Ev.yes rfl ?_)))))
  refine Ev.round ?_
  simp only [laws_FnExactSealBundle.j0]
  refine Ev.no (by simp) (Ev.bind t0 (Ev.bind (laws_eqBundle.refl _ c0) (Ev.yes rfl (Ev.bind (laws_markBundle.ev _ 1 c0 (by omega) (by omega)) (Ev.no (by first | omega | (simp only; omega)) (Ev.bind (laws_eqSealedBundle.refl _ _ _ _ hl) (Ev.yes rfl ?_)))))))
  refine Ev.round ?_
  simp only [laws_FnExactSealBundle.j1]
  refine Ev.no (by simp) (Ev.bind (laws_markSealedBundle.ev _ _ _ _ 1 hl (by omega) (by omega)) (Ev.bind (laws_heldSealedBundle.ev _ _ _ _ 1 hl (by omega) (by omega)) (Ev.no (by first | omega | (simp only; omega)) (Ev.yes rfl (Ev.bind t0 (Ev.bind hi (Ev.bind (laws_eqSealedBundle.refl _ _ _ _ hl) (Ev.yes rfl ?_))))))))
  refine Ev.round ?_
  simp only [laws_FnExactSealBundle.j2]
  exact Ev.no (by simp) (Ev.bind (laws_heldSealedBundle.ev _ _ _ _ 1 hl (by omega) (by omega)) (Ev.no (by first | omega | (simp only; omega)) (Ev.yes rfl (Ev.now _))))
end Go.Proofs.Ytgcipecdaimjfaa.Pure
