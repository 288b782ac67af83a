/- Every beginning of a valid log is valid, and a changed entry is noticed. -/
import Derived.Test.YtgcipecdaimjfaaOpFnDeviceLogs
import Derived.Test.YtgcipecdaimjfaaPFnDeviceLogsx11
namespace Go.Proofs.Ytgcipecdaimjfaa.Pure
open Go.RowKit Go.Proofs.Ytgcipecdaimjfaa.PFnDeviceLogs Go.Proofs.YtgcipecdaimjfaaW.PrintWords Go.Proofs.YtgcipecdaimjfaaW.PrintLast
set_option linter.unusedVariables false
set_option linter.unusedSimpArgs false

/-! base -/
theorem wrap_in {n : Int} (h1 : -9223372036854775808 ≤ n) (h2 : n ≤ 9223372036854775807) : wrap64 n = n := by unfold wrap64; omega
theorem wrap_succ {i n : Nat} (h : i < n) (hn : n ≤ 1152921504606846976) : wrap64 ((i : Int) + 1) = ((i + 1 : Nat) : Int) := by unfold wrap64; omega
theorem wrap_pred {i : Nat} (h : 0 < i) (hn : i ≤ 1152921504606846976) : wrap64 ((i : Int) - 1) = ((i - 1 : Nat) : Int) := by unfold wrap64; omega
theorem Ev.eq {α : Type} {r s : α} (h : r = s) : Ev (fun _ => some r) s := h ▸ Ev.now r
theorem Ev.opt {α : Type} {o : Option α} {r : α} (h : o = some r) : Ev (fun _ => o) r := h ▸ Ev.now r
theorem Ev.yes {α : Type} {c : Prop} [Decidable c] {g f : Nat → Option α} {r : α} (h : c) (k : Ev g r) : Ev (fun n => if c then g n else f n) r := by simpa [h] using k
theorem Ev.no {α : Type} {c : Prop} [Decidable c] {g f : Nat → Option α} {r : α} (h : ¬ c) (k : Ev f r) : Ev (fun n => if c then g n else f n) r := by simpa [h] using k
theorem Ev.ite {α : Type} {c : Prop} [Decidable c] {g f : Nat → Option α} {r : α} (h : c → Ev g r) (k : ¬ c → Ev f r) : Ev (fun n => if c then g n else f n) r := by
  by_cases hc : c
  · exact Ev.yes hc (h hc)
  · exact Ev.no hc (k hc)
theorem Ev.bindc {α β : Type} {o : Option α} {a : α} {f : Nat → α → Option β} {r : β} (h : o = some a) (k : Ev (fun n => f n a) r) : Ev (fun n => o.bind (f n)) r := by subst h; exact k
theorem Ev.round {α : Type} {g : Nat → Option α} {r : α} (h : Ev (fun k => g (k + 1)) r) : Ev g r := Ev.step (fun _ => rfl) h
theorem Ev.conv {α : Type} {g : Nat → Option α} {r s : α} (k : Ev g r) (h : r = s) : Ev g s := h ▸ k
theorem bind_some_ {α β : Type} (a : α) (f : α → Option β) : (some a).bind f = f a := rfl
/-- A loop that counts: from each place on, the answer is what 'val' says. -/
theorem Ev.loop {σ β : Type} (g : Nat → Nat → σ → Option β) (n : Nat) (val : Nat → σ → β) (Inv : Nat → σ → Prop)
    (done : ∀ s, Inv n s → Ev (fun k => g k n s) (val n s))
    (step : ∀ i s, i < n → Inv i s → (∀ s', Inv (i + 1) s' → Ev (fun k => g k (i + 1) s') (val (i + 1) s')) → Ev (fun k => g k i s) (val i s)) :
    ∀ i s, i ≤ n → Inv i s → Ev (fun k => g k i s) (val i s) := by
  have : ∀ d i s, i + d = n → Inv i s → Ev (fun k => g k i s) (val i s) := by
    intro d
    induction d with
    | zero =>
      intro i s hi hs
      obtain rfl : i = n := by omega
      exact done s hs
    | succ d ih => intro i s hi hs; exact step i s (by omega) hs (fun s' hs' => ih (i + 1) s' (by omega) hs')
  intro i s hi hs
  exact this (n - i) i s (by omega) hs
theorem getD_lt {α : Type} {l : List α} {i : Nat} (h : i < l.length) (d : α) : l.getD i d = l[i] := by simp [List.getD_eq_getElem?_getD, h]
theorem rd_get {l : List Int} {i : Nat} (h : i < l.length) : rd l (i : Int) = l[i] := by unfold rd; exact getD_lt h _
theorem take_fill {α β : Type} (f : α → β) (l : List α) (z : β) {i : Nat} (h : i < l.length) :
    ((l.take i).map f ++ List.replicate (l.length - i) z).set i (f l[i]) = (l.take (i + 1)).map f ++ List.replicate (l.length - (i + 1)) z := by
  have e : l.length - i = (l.length - (i + 1)) + 1 := by omega
  rw [e, List.replicate_succ, List.set_append_right _ _ (by simp; omega)]
  have : i - (List.map f (List.take i l)).length = 0 := by simp; omega
  rw [this, List.set_cons_zero, List.take_succ_eq_append_getElem h, List.map_append]
  simp
theorem fill_len {α β : Type} (f : α → β) (l : List α) (z : β) {i : Nat} (h : i ≤ l.length) : ((l.take i).map f ++ List.replicate (l.length - i) z).length = l.length := by simp; omega
theorem fill_end {α β : Type} (f : α → β) (l : List α) (z : β) : (l.take l.length).map f ++ List.replicate (l.length - l.length) z = l.map f := by simp
theorem drop_get {α : Type} {l : List α} {i : Nat} (h : i < l.length) : l.drop i = l[i] :: l.drop (i + 1) := List.drop_eq_getElem_cons h
theorem drop_end {α : Type} (l : List α) : l.drop l.length = [] := List.drop_eq_nil_of_le (Nat.le_refl _)
/-! mod -/
def M.mod (a m : Int) : Int := if 1 ≤ m ∧ m ≤ 1000000000000 then a % m else 0
theorem tmod_bounds (a m : Int) (h : 1 ≤ m) : -m < Int.tmod a m ∧ Int.tmod a m < m := by
  have h1 := Int.tmod_lt_of_pos a (by omega : 0 < m)
  have h2 := Int.lt_tmod_of_pos a (by omega : 0 < m)
  exact ⟨h2, h1⟩
theorem tmod_emod (a m : Int) (h : 1 ≤ m) : Int.tmod a m = if Int.tmod a m < 0 then a % m - m else a % m := by
  rw [Int.tmod_eq_emod]
  have := Int.emod_nonneg a (by omega : m ≠ 0)
  have := Int.emod_lt_of_pos a (by omega : 0 < m)
  have e : ((m.natAbs : Nat) : Int) = m := by omega
  by_cases h0 : 0 ≤ a ∨ m ∣ a
  · rw [if_pos h0]
    split <;> omega
  · rw [if_neg h0, e]
    split <;> omega
theorem tmod_pos (a m : Int) (h : 0 ≤ a) : Int.tmod a m = a % m := Int.tmod_eq_emod_of_nonneg h
theorem mod_add_self (a m : Int) (h : 1 ≤ m) : Int.tmod (Int.tmod a m + m) m = a % m := by
  have hb := tmod_bounds a m h
  have := Int.emod_nonneg a (by omega : m ≠ 0)
  have := Int.emod_lt_of_pos a (by omega : 0 < m)
  rw [tmod_pos _ _ (by omega)]
  have e := tmod_emod a m h
  by_cases hn : Int.tmod a m < 0
  · rw [if_pos hn] at e; rw [e, show a % m - m + m = a % m by omega, Int.emod_emod_of_dvd _ (Int.dvd_refl m)]
  · rw [if_neg hn] at e; rw [e, Int.add_emod_right, Int.emod_emod_of_dvd _ (Int.dvd_refl m)]
/-! hash -/
def M.hstep (h v : Int) : Int := (h * 1000003 + v % 2147483647 + 13) % 2147483647
def M.hash (l : List Int) : Int := l.foldl M.hstep 11
theorem hstep_bounds (h v : Int) : 0 ≤ M.hstep h v ∧ M.hstep h v < 2147483647 := ⟨Int.emod_nonneg _ (by decide), Int.emod_lt_of_pos _ (by decide)⟩
theorem hstep_eq (h v : Int) (h0 : 0 ≤ h) (h1 : h < 2147483647) : Int.tmod (wrap64 ((wrap64 ((wrap64 (h * 1000003)) + M.mod v 2147483647)) + 13)) 2147483647 = M.hstep h v := by
  have e : M.mod v 2147483647 = v % 2147483647 := by unfold M.mod; rw [if_pos (by omega)]
  have := Int.emod_nonneg v (by decide : (2147483647 : Int) ≠ 0)
  have := Int.emod_lt_of_pos v (by decide : 0 < (2147483647 : Int))
  rw [e, wrap_in (n := h * 1000003) (by omega) (by omega), wrap_in (n := _ + v % 2147483647) (by omega) (by omega), wrap_in (by omega) (by omega), tmod_pos _ _ (by omega)]
  rfl
theorem hash_bounds (l : List Int) : 0 ≤ M.hash l ∧ M.hash l < 2147483647 := by
  unfold M.hash
  have : ∀ (l : List Int) (h : Int), 0 ≤ h ∧ h < 2147483647 → 0 ≤ l.foldl M.hstep h ∧ l.foldl M.hstep h < 2147483647 := by
    intro l
    induction l with
    | nil => intro h hh; exact hh
    | cons x l ih => intro h hh; exact ih _ (hstep_bounds _ _)
  exact this l 11 (by omega)
/-! keyed -/
def M.keyed (a : Int) (l : List Int) : Int := M.hash ([a] ++ l ++ [a])
theorem keyed_bounds (a : Int) (l : List Int) : 0 ≤ M.keyed a l ∧ M.keyed a l < 2147483647 := hash_bounds _
/-! derive -/
def M.orOne (a : Int) : Int := if a = 0 then 1 else a
def M.derive (a : Int) (l : List Int) : Int := M.orOne (M.keyed a ([151] ++ l))
theorem orOne_max (a : Int) (h : 0 ≤ a) : (if a > 1 then a else 1) = M.orOne a := by unfold M.orOne; split <;> split <;> omega
theorem orOne_bounds (a : Int) (h : 0 ≤ a ∧ a < 2147483647) : 1 ≤ M.orOne a ∧ M.orOne a < 2147483647 := by unfold M.orOne; split <;> omega
theorem derive_bounds (a : Int) (l : List Int) : 1 ≤ M.derive a l ∧ M.derive a l < 2147483647 := orOne_bounds _ (keyed_bounds _ _)
/-! inrange -/
def M.inr (a b c : Int) : Bool := decide (b ≤ a ∧ a ≤ c)
theorem inr_true {a b c : Int} : M.inr a b c = true ↔ b ≤ a ∧ a ≤ c := by simp [M.inr]
/-! validkey -/
def M.validKey (a : Int) : Bool := M.inr a 1 2147483646
def M.pub (a : Int) : Int := if M.validKey a = true then a * 48271 % 2147483647 else 0
def M.inv : Int := 1899818559
def M.priv (a : Int) : Int := if M.validKey a = true then a * M.inv % 2147483647 else 0
theorem priv_valid {a : Int} (h : M.validKey a = true) : M.validKey (M.priv a) = true ∧ M.pub (M.priv a) = a := by
  have h' := inr_true.1 h
  have e : M.priv a = a * 1899818559 % 2147483647 := by unfold M.priv M.inv; rw [if_pos h]
  have h2 : (a * 1899818559 % 2147483647) * 48271 % 2147483647 = a := by omega
  have h3 : M.validKey (M.priv a) = true := by rw [e]; exact inr_true.2 (by omega)
  refine ⟨h3, ?_⟩
  unfold M.pub; rw [if_pos h3, e]; exact h2
theorem pub_valid {a : Int} (h : M.validKey a = true) : M.validKey (M.pub a) = true ∧ M.priv (M.pub a) = a := by
  have h' := inr_true.1 h
  have e : M.pub a = a * 48271 % 2147483647 := by unfold M.pub; rw [if_pos h]
  have h2 : (a * 48271 % 2147483647) * 1899818559 % 2147483647 = a := by omega
  have h3 : M.validKey (M.pub a) = true := by rw [e]; exact inr_true.2 (by omega)
  refine ⟨h3, ?_⟩
  unfold M.priv M.inv; rw [if_pos h3, e]; exact h2
theorem priv_ne {a : Int} : M.priv a = 0 ↔ M.validKey a = false := by
  cases h : M.validKey a with
  | true =>
    have := inr_true.1 (priv_valid h).1
    constructor
    · intro h0; omega
    · intro h0; cases h0
  | false => simp [M.priv, h]
/-! sign -/
def M.sign (p : Int) (l : List Int) : Int := if M.validKey p = true then M.keyed p ([139, (l.length : Int)] ++ l) else 0
def M.verify (q : Int) (l : List Int) (s : Int) : Bool := decide (M.priv q ≠ 0) && decide (M.sign (M.priv q) l = s)
/-! devkey -/
def M.devKey (s : Int) : Int := M.derive s [181]
/-! has -/
def M.has (l : List Int) (x : Int) : Bool := l.any fun y => decide (y = x)
theorem has_iff (l : List Int) (x : Int) : M.has l x = true ↔ x ∈ l := by simp [M.has]
/-! rd-LogEntry -/
theorem rd_LogEntry {l : List S86} {i : Nat} (h : i < l.length) : rd_T86 l (i : Int) = l[i] := by unfold rd_T86; exact getD_lt h _
/-! devices -/
def M.devStep (out : List Int) (e : S86) : List Int :=
  if e.f1 = 1 then (if M.has out e.f2 = true then out else out ++ [e.f2]) else if e.f1 = 2 then out.filter (fun d => decide (d ≠ e.f2)) else out
def M.devices (l : List S86) : List Int := l.foldl M.devStep []
theorem devStep_len (out : List Int) (e : S86) : (M.devStep out e).length ≤ out.length + 1 := by
  unfold M.devStep
  have := List.length_filter_le (fun d => decide (d ≠ e.f2)) out
  split
  · split <;> simp
  · split <;> omega
theorem devices_len (l : List S86) : (M.devices l).length ≤ l.length := by
  have : ∀ (l : List S86) (o : List Int), (l.foldl M.devStep o).length ≤ o.length + l.length := by
    intro l
    induction l with
    | nil => intro o; simp
    | cons e l ih => intro o; have := ih (M.devStep o e); have := devStep_len o e; simp; omega
  have := this l []; simpa [M.devices] using this
theorem filter_cons_keep {l : List Int} {d x : Int} (h : x ≠ d) : (x :: l).filter (fun y => decide (y ≠ d)) = x :: l.filter (fun y => decide (y ≠ d)) := List.filter_cons_of_pos (by simpa using h)
theorem filter_cons_drop {l : List Int} {d x : Int} (h : x = d) : (x :: l).filter (fun y => decide (y ≠ d)) = l.filter (fun y => decide (y ≠ d)) := List.filter_cons_of_neg (by simpa using h)
/-! loghead -/
def M.entryHash (e : S86) : Int := M.hash [229, e.f0, e.f1, e.f2, e.f3, e.f4]
def M.logHead (l : List S86) : Int := match l.getLast? with | none => 0 | some e => M.entryHash e
theorem logHead_get (l : List S86) (h : 0 < l.length) : M.logHead l = M.entryHash l[l.length - 1] := by
  unfold M.logHead
  rw [List.getLast?_eq_getElem?, List.getElem?_eq_getElem (by omega)]
/-! stepok -/
def M.removed (l : List S86) (d : Int) : Bool := l.any fun e => decide (e.f1 = 2) && decide (e.f2 = d)
/-- Whether an entry may follow others. -/
def M.stepOk (b : List S86) (e : S86) : Bool :=
  decide (e.f0 = b.length) && (decide (e.f4 = M.logHead b) && ((M.has (M.devices b) e.f3 || (decide (b.length = 0) && decide (e.f3 = e.f2))) &&
    (M.verify e.f3 [M.entryHash e] e.f5 && ((decide (e.f1 = 2) && (M.has (M.devices b) e.f2 && decide (1 < (M.devices b).length))) || (decide (e.f1 = 1) && (!M.removed b e.f2 && (!M.has (M.devices b) e.f2 && decide ((M.devices b).length < 6))))))))
def M.verifyLog (l : List S86) : Bool := decide (1 ≤ l.length ∧ l.length ≤ 40) && decide (∀ i : Fin l.length, M.stepOk (l.take i.val) l[i.val] = true)
theorem verifyLog_iff (l : List S86) : M.verifyLog l = true ↔ (1 ≤ l.length ∧ l.length ≤ 40) ∧ ∀ (i : Nat) (h : i < l.length), M.stepOk (l.take i) l[i] = true := by
  unfold M.verifyLog
  rw [Bool.and_eq_true, decide_eq_true_eq, decide_eq_true_eq]
  exact ⟨fun h => ⟨h.1, fun i hi => h.2 ⟨i, hi⟩⟩, fun h => ⟨h.1, fun i => h.2 i.val i.isLt⟩⟩
theorem verifyLog_bad {l : List S86} {i : Nat} (h : i < l.length) (hs : M.stepOk (l.take i) l[i] = false) : M.verifyLog l = false := by
  rw [Bool.eq_false_iff]; intro hv
  have := ((verifyLog_iff l).1 hv).2 i h
  rw [hs] at this; cases this
/-! append -/
def M.newEntry (l : List S86) (a b s : Int) : S86 :=
  let e : S86 := ⟨(l.length : Int), a, b, M.pub (M.devKey s), M.logHead l, 0⟩
  ⟨(l.length : Int), a, b, M.pub (M.devKey s), M.logHead l, M.sign (M.devKey s) [M.entryHash e]⟩
def M.appendE (l : List S86) (a b s : Int) : List S86 × Bool :=
  if (0 < l.length → M.verifyLog l = true) ∧ M.verifyLog (l ++ [M.newEntry l a b s]) = true then (l ++ [M.newEntry l a b s], true) else (l, false)
theorem appendE_len (l : List S86) (a b s : Int) (hl : l.length ≤ 1048576) : (M.appendE l a b s).1.length ≤ 1048576 := by
  unfold M.appendE; split
  · rename_i h; have := ((verifyLog_iff _).1 h.2).1.2; simp only; omega
  · exact hl
/-! epochof -/
def M.epochOf (l : List S86) : Nat := (l.filter fun e => decide (e.f1 = 2)).length
theorem epochOf_cons (x : S86) (l : List S86) : M.epochOf (x :: l) = (if x.f1 = 2 then 1 else 0) + M.epochOf l := by
  unfold M.epochOf; by_cases h : x.f1 = 2
  · rw [List.filter_cons_of_pos (by simpa using h), if_pos h]; simp; omega
  · rw [List.filter_cons_of_neg (by simpa using h), if_neg h]; simp
theorem epochOf_le (l : List S86) : M.epochOf l ≤ l.length := List.length_filter_le _ _
/-! logfacts -/
theorem take_snoc {α : Type} (l : List α) (e : α) : (l ++ [e]).take l.length = l := by simp
theorem devices_snoc (l : List S86) (e : S86) : M.devices (l ++ [e]) = M.devStep (M.devices l) e := by simp [M.devices]
theorem epochOf_snoc (l : List S86) (e : S86) : M.epochOf (l ++ [e]) = M.epochOf l + (if e.f1 = 2 then 1 else 0) := by
  unfold M.epochOf; rw [List.filter_append, List.length_append]
  by_cases h : e.f1 = 2
  · simp [h]
  · simp [h]
theorem devStep_nodup {o : List Int} (h : o.Nodup) (e : S86) : (M.devStep o e).Nodup := by
  unfold M.devStep
  by_cases h1 : e.f1 = 1
  · rw [if_pos h1]
    by_cases h2 : M.has o e.f2 = true
    · rw [if_pos h2]; exact h
    · rw [if_neg h2]
      have h3 : e.f2 ∉ o := fun hh => h2 ((has_iff o e.f2).2 hh)
      rw [List.nodup_append]
      refine ⟨h, by simp, ?_⟩
      intro a ha b hb
      rw [List.mem_singleton.1 hb]; rintro rfl; exact h3 ha
  · rw [if_neg h1]
    by_cases h2 : e.f1 = 2
    · rw [if_pos h2]; exact h.filter _
    · rw [if_neg h2]; exact h
theorem devices_nodup (l : List S86) : (M.devices l).Nodup := by
  have : ∀ (l : List S86) (o : List Int), o.Nodup → (l.foldl M.devStep o).Nodup := by
    intro l
    induction l with
    | nil => intro o h; exact h
    | cons e l ih => intro o h; exact ih _ (devStep_nodup h e)
  exact this l [] List.nodup_nil
theorem filter_one : ∀ {l : List Int} {d : Int}, l.Nodup → d ∈ l → (l.filter (fun y => decide (y ≠ d))).length + 1 = l.length
  | [], _, _, h => by cases h
  | x :: l, d, hn, h => by
    have hn' := List.nodup_cons.1 hn
    by_cases hx : x = d
    · subst hx
      rw [filter_cons_drop rfl, List.filter_eq_self.2 (fun a ha => by simp; rintro rfl; exact hn'.1 ha)]; rfl
    · rw [filter_cons_keep hx]
      have := filter_one hn'.2 (List.mem_of_ne_of_mem (Ne.symm hx) h)
      simp only [List.length_cons]; omega
/-- The last step of a valid log. -/
theorem last_ok {l : List S86} {e : S86} (h : M.verifyLog (l ++ [e]) = true) : M.stepOk l e = true := by
  have := ((verifyLog_iff _).1 h).2 l.length (by simp)
  simpa using this
theorem step_kind {l : List S86} {e : S86} (h : M.stepOk l e = true) : (e.f1 = 2 ∧ e.f2 ∈ M.devices l ∧ 1 < (M.devices l).length) ∨ (e.f1 = 1 ∧ M.removed l e.f2 = false ∧ e.f2 ∉ M.devices l ∧ (M.devices l).length < 6) := by
  unfold M.stepOk at h
  simp only [Bool.and_eq_true, Bool.or_eq_true, decide_eq_true_eq, Bool.not_eq_true', has_iff] at h
  rcases h.2.2.2.2 with hh | hh
  · exact .inl ⟨hh.1, hh.2.1, hh.2.2⟩
  · refine .inr ⟨hh.1, hh.2.1, ?_, hh.2.2.2⟩
    intro hm
    have := (has_iff _ _).2 hm
    rw [this] at hh; exact absurd hh.2.2.1 (by simp)
/-! hashinj -/
theorem p_small {d s : Int} (h1 : -2147483647 < d) (h2 : d < 2147483647) (h : d = 2147483647 * s) : d = 0 := by
  have : s = 0 := by omega
  rw [h, this]; rfl
theorem k_free {d t : Int} (h1 : -2147483647 < d) (h2 : d < 2147483647) (h : d * 1000003 = 2147483647 * t) : d = 0 := by
  have e : (1000003 : Int) * 1523789695 = 2147483647 * 709572 + 1 := by decide
  have h4 : d * (1000003 * 1523789695) = 2147483647 * (t * 1523789695) := by rw [← Int.mul_assoc, h, Int.mul_assoc]
  rw [e, Int.mul_add, Int.mul_one, Int.mul_left_comm] at h4
  refine p_small (s := t * 1523789695 - d * 709572) h1 h2 ?_
  rw [Int.mul_sub, ← h4]
  generalize 2147483647 * (d * 709572) = z
  omega
theorem sub_same (x y w : Int) : (x + w + 13) - (y + w + 13) = x - y := by omega
theorem hstep_inj {a b v : Int} (ha : 0 ≤ a ∧ a < 2147483647) (hb : 0 ≤ b ∧ b < 2147483647) (h : M.hstep a v = M.hstep b v) : a = b := by
  unfold M.hstep at h
  have h1 := Int.emod_eq_emod_iff_emod_sub_eq_zero.1 h
  rw [sub_same, ← Int.sub_mul] at h1
  obtain ⟨t, ht⟩ := Int.dvd_of_emod_eq_zero h1
  clear h h1
  have := k_free (by omega) (by omega) ht
  clear ht
  omega
theorem hstep_val {a v w : Int} (hv : 0 ≤ v ∧ v < 2147483647) (hw : 0 ≤ w ∧ w < 2147483647) (h : M.hstep a v = M.hstep a w) : v = w := by
  unfold M.hstep at h
  rw [Int.emod_eq_of_lt hv.1 hv.2, Int.emod_eq_of_lt hw.1 hw.2] at h
  have h1 := Int.emod_eq_emod_iff_emod_sub_eq_zero.1 h
  obtain ⟨t, ht⟩ := Int.dvd_of_emod_eq_zero h1
  have h3 : v - w = 2147483647 * t := by rw [← ht]; generalize a * 1000003 = x; omega
  have := p_small (by omega) (by omega) h3
  omega
theorem hash_fold {l : List Int} : ∀ {a b : Int}, 0 ≤ a ∧ a < 2147483647 → 0 ≤ b ∧ b < 2147483647 → l.foldl M.hstep a = l.foldl M.hstep b → a = b := by
  induction l with
  | nil => intro a b _ _ h; exact h
  | cons x l ih => intro a b ha hb h; exact hstep_inj ha hb (ih (hstep_bounds _ _) (hstep_bounds _ _) h)
theorem hash_mid {pre post : List Int} {v w : Int} (hv : 0 ≤ v ∧ v < 2147483647) (hw : 0 ≤ w ∧ w < 2147483647) (h : M.hash (pre ++ v :: post) = M.hash (pre ++ w :: post)) : v = w := by
  unfold M.hash at h
  rw [List.foldl_append, List.foldl_append, List.foldl_cons, List.foldl_cons] at h
  exact hstep_val hv hw (hash_fold (hstep_bounds _ _) (hstep_bounds _ _) h)
theorem entryHash_dev {e : S86} {d : Int} (hd : 0 ≤ d ∧ d < 2147483647) (he : 0 ≤ e.f2 ∧ e.f2 < 2147483647) (h : M.entryHash e = M.entryHash ⟨e.f0, e.f1, d, e.f3, e.f4, e.f5⟩) : e.f2 = d :=
  hash_mid (pre := [229, e.f0, e.f1]) (post := [e.f3, e.f4]) he hd h
theorem sign_inj {p a b : Int} (hp : p ≠ 0) (ha : 0 ≤ a ∧ a < 2147483647) (hb : 0 ≤ b ∧ b < 2147483647) (hv : M.validKey p = true) (h : M.sign p [a] = M.sign p [b]) : a = b := by
  unfold M.sign at h
  rw [if_pos hv, if_pos hv] at h
  exact hash_mid (pre := [p, 139, 1]) (post := [p]) ha hb h
/-! extends -/
def M.eqLE (a b : S86) : Bool := (a.f0 == b.f0 && (a.f1 == b.f1 && (a.f2 == b.f2 && (a.f3 == b.f3 && (a.f4 == b.f4 && a.f5 == b.f5)))))
def M.extends : List S86 → List S86 → Bool
  | _, [] => true
  | [], _ :: _ => false
  | a :: l, b :: r => M.eqLE a b && M.extends l r
theorem extends_short : ∀ {l r : List S86}, l.length < r.length → M.extends l r = false
  | _, [], h => by simp at h
  | [], _ :: _, _ => rfl
  | a :: l, b :: r, h => by simp only [M.extends, extends_short (l := l) (r := r) (by simpa using h), Bool.and_false]
theorem neLE (a b : S86) : (!(a.f0 == b.f0) || (!(a.f1 == b.f1) || (!(a.f2 == b.f2) || (!(a.f3 == b.f3) || (!(a.f4 == b.f4) || (!(a.f5 == b.f5))))))) = !M.eqLE a b := by
  unfold M.eqLE; cases a.f0 == b.f0 <;> cases a.f1 == b.f1 <;> cases a.f2 == b.f2 <;> cases a.f3 == b.f3 <;> cases a.f4 == b.f4 <;> rfl
/-! evx -/
/-- From some number of rounds on the printed function answers, and its answer meets P. -/
def EvX {α : Type} (g : Nat → Option α) (P : α → Prop) : Prop := ∃ r, Ev g r ∧ P r
theorem EvX.of {α : Type} {g : Nat → Option α} {P : α → Prop} {r : α} (h : Ev g r) (p : P r) : EvX g P := ⟨r, h, p⟩
theorem EvX.now {α : Type} {P : α → Prop} {r : α} (p : P r) : EvX (fun _ => some r) P := ⟨r, Ev.now r, p⟩
theorem EvX.bind {α β : Type} {f : Nat → Option α} {g : Nat → α → Option β} {P : α → Prop} {Q : β → Prop} (h : EvX f P) (k : ∀ a, P a → EvX (fun n => g n a) Q) : EvX (fun n => (f n).bind (g n)) Q := by
  obtain ⟨a, ha, hp⟩ := h
  obtain ⟨b, hb, hq⟩ := k a hp
  exact ⟨b, Ev.bind ha hb, hq⟩
theorem EvX.bindv {α β : Type} {f : Nat → Option α} {g : Nat → α → Option β} {a : α} {Q : β → Prop} (h : Ev f a) (k : EvX (fun n => g n a) Q) : EvX (fun n => (f n).bind (g n)) Q := by
  obtain ⟨b, hb, hq⟩ := k
  exact ⟨b, Ev.bind h hb, hq⟩
theorem EvX.bindc {α β : Type} {o : Option α} {g : Nat → α → Option β} {P : α → Prop} {Q : β → Prop} (h : ∃ a, o = some a ∧ P a) (k : ∀ a, P a → EvX (fun n => g n a) Q) : EvX (fun n => o.bind (g n)) Q := by
  obtain ⟨a, rfl, hp⟩ := h
  exact k a hp
theorem EvX.yes {α : Type} {c : Prop} [Decidable c] {g f : Nat → Option α} {P : α → Prop} (h : c) (k : EvX g P) : EvX (fun n => if c then g n else f n) P := by simpa [h] using k
theorem EvX.no {α : Type} {c : Prop} [Decidable c] {g f : Nat → Option α} {P : α → Prop} (h : ¬ c) (k : EvX f P) : EvX (fun n => if c then g n else f n) P := by simpa [h] using k
theorem EvX.ite {α : Type} {c : Prop} [Decidable c] {g f : Nat → Option α} {P : α → Prop} (h : c → EvX g P) (k : ¬ c → EvX f P) : EvX (fun n => if c then g n else f n) P := by
  by_cases hc : c
  · exact EvX.yes hc (h hc)
  · exact EvX.no hc (k hc)
theorem EvX.round {α : Type} {g : Nat → Option α} {P : α → Prop} (h : EvX (fun k => g (k + 1)) P) : EvX g P := by
  obtain ⟨r, hr, hp⟩ := h
  exact ⟨r, Ev.round hr, hp⟩
theorem EvX.mono {α : Type} {g : Nat → Option α} {P Q : α → Prop} (h : EvX g P) (k : ∀ a, P a → Q a) : EvX g Q := by
  obtain ⟨r, hr, hp⟩ := h
  exact ⟨r, hr, k r hp⟩
theorem EvX.loop {σ β : Type} (g : Nat → Nat → σ → Option β) (n : Nat) (P : β → Prop) (Inv : Nat → σ → Prop)
    (done : ∀ s, Inv n s → EvX (fun k => g k n s) P)
    (step : ∀ i s, i < n → Inv i s → (∀ s', Inv (i + 1) s' → EvX (fun k => g k (i + 1) s') P) → EvX (fun k => g k i s) P) :
    ∀ i s, i ≤ n → Inv i s → EvX (fun k => g k i s) P := by
  have : ∀ d i s, i + d = n → Inv i s → EvX (fun k => g k i s) P := by
    intro d
    induction d with
    | zero =>
      intro i s hi hs
      obtain rfl : i = n := by omega
      exact done s hs
    | succ d ih => intro i s hi hs; exact step i s (by omega) hs (fun s' hs' => ih (i + 1) s' (by omega) hs')
  intro i s hi hs
  exact this (n - i) i s (by omega) hs
/-- What the law goes on with, whatever was drawn. -/
theorem Ev.drawn {α β : Type} {f : Nat → Option α} {g : Nat → α → Option β} {P : α → Prop} {r : β} (h : EvX f P) (k : ∀ a, P a → Ev (fun n => g n a) r) : Ev (fun n => (f n).bind (g n)) r := by
  obtain ⟨a, ha, hp⟩ := h
  exact Ev.bind ha (k a hp)
/-! drawlog -/
/-- A log as it is drawn: empty or valid, of the first six devices. -/
def M.drawn (l : List S86) : Prop := (l = [] ∨ M.verifyLog l = true) ∧ ∀ e ∈ l, ∃ i : Int, (0 ≤ i ∧ i < 6) ∧ e.f2 = M.pub (M.devKey (500 + i))
theorem drawn_len {l : List S86} (h : M.drawn l) : l.length ≤ 40 := by
  rcases h.1 with rfl | h
  · simp
  · exact ((verifyLog_iff l).1 h).1.2
theorem drawn_append {l : List S86} (h : M.drawn l) (a i s : Int) (hi : 0 ≤ i ∧ i < 6) : M.drawn (M.appendE l a (M.pub (M.devKey (500 + i))) s).1 := by
  unfold M.appendE; split
  · rename_i hv
    refine ⟨.inr hv.2, ?_⟩
    intro e he
    rcases List.mem_append.1 he with he | he
    · exact h.2 e he
    · rw [List.mem_singleton.1 he]; exact ⟨i, hi, rfl⟩
  · exact h
/-! logvalid -/
theorem verify_take {l : List S86} (h : M.verifyLog l = true) {n : Nat} (h1 : 1 ≤ n) (h2 : n ≤ l.length) : M.verifyLog (l.take n) = true := by
  obtain ⟨ha, hb⟩ := (verifyLog_iff l).1 h
  refine (verifyLog_iff _).2 ⟨⟨by simp; omega, by simp; omega⟩, ?_⟩
  intro i hi
  have hin : i < n := by simp at hi; omega
  have := hb i (by omega)
  rw [List.take_take, Nat.min_eq_left (by omega), List.getElem_take]
  exact this
theorem extends_take : ∀ (l : List S86) (n : Nat), M.extends l (l.take n) = true
  | l, 0 => by cases l <;> rfl
  | [], n + 1 => rfl
  | a :: l, n + 1 => by
    rw [List.take_succ_cons]
    simp only [M.extends, extends_take l n, Bool.and_true]
    unfold M.eqLE; simp
theorem devices_count {l : List S86} (h : M.verifyLog l = true) : ∀ n, n ≤ l.length → (M.devices (l.take n)).length + 2 * M.epochOf (l.take n) = n ∧ (1 ≤ n → 1 ≤ (M.devices (l.take n)).length)
  | 0, _ => by simp [M.devices, M.epochOf]
  | n + 1, hn => by
    have ih := devices_count h n (by omega)
    have hs := ((verifyLog_iff l).1 h).2 n (by omega)
    rw [List.take_succ_eq_append_getElem (by omega : n < l.length), devices_snoc, epochOf_snoc]
    rcases step_kind hs with ⟨h1, h2, h3⟩ | ⟨h1, h2, h3, h4⟩
    · have hf : M.devStep (M.devices (l.take n)) l[n] = (M.devices (l.take n)).filter (fun y => decide (y ≠ l[n].f2)) := by unfold M.devStep; rw [if_neg (by omega), if_pos h1]
      have := filter_one (devices_nodup (l.take n)) h2
      rw [hf, if_pos h1]; omega
    · have hf : M.devStep (M.devices (l.take n)) l[n] = M.devices (l.take n) ++ [l[n].f2] := by unfold M.devStep; rw [if_pos h1, if_neg (fun hh => h3 ((has_iff _ _).1 hh))]
      rw [hf, if_neg (by omega)]; simp; omega
theorem pub_bounds (a : Int) : 0 ≤ M.pub a ∧ M.pub a < 2147483647 := by
  unfold M.pub; split
  · exact ⟨Int.emod_nonneg _ (by decide), Int.emod_lt_of_pos _ (by decide)⟩
  · decide
theorem step_sig {b : List S86} {e : S86} (h : M.stepOk b e = true) : M.validKey e.f3 = true ∧ M.sign (M.priv e.f3) [M.entryHash e] = e.f5 := by
  unfold M.stepOk M.verify at h
  simp only [Bool.and_eq_true, decide_eq_true_eq] at h
  refine ⟨?_, h.2.2.2.1.2⟩
  cases hv : M.validKey e.f3 with
  | true => rfl
  | false => exact absurd (priv_ne.2 hv) h.2.2.2.1.1
theorem set_step {l : List S86} {n : Nat} (hn : n < l.length) (e : S86) (h : M.stepOk (l.take n) e = false) : M.verifyLog (l.set n e) = false := by
  refine verifyLog_bad (i := n) (by simpa using hn) ?_
  have e1 : (l.set n e).take n = l.take n := by rw [List.take_set_of_le (Nat.le_refl n)]
  rw [e1, List.getElem_set_self]
  exact h
theorem bad_device {l : List S86} (h : M.drawn l) {n : Nat} (hn : n < l.length) : M.verifyLog (l.set n ⟨l[n].f0, l[n].f1, M.pub (M.devKey 900), l[n].f3, l[n].f4, l[n].f5⟩) = false := by
  have hv : M.verifyLog l = true := by
    rcases h.1 with rfl | h
    · simp at hn
    · exact h
  have hs := step_sig (((verifyLog_iff l).1 hv).2 n hn)
  obtain ⟨i, hi, hd⟩ := h.2 l[n] (List.getElem_mem hn)
  have hne : l[n].f2 ≠ M.pub (M.devKey 900) := by
    rw [hd]
    have : i = 0 ∨ i = 1 ∨ i = 2 ∨ i = 3 ∨ i = 4 ∨ i = 5 := by omega
    rcases this with rfl | rfl | rfl | rfl | rfl | rfl <;> decide +kernel
  refine set_step hn _ ?_
  rw [Bool.eq_false_iff]; intro hb
  have hs2 := step_sig hb
  simp only at hs2
  have hpk := priv_valid hs.1
  have e1 := sign_inj (p := M.priv l[n].f3) (fun hz => by rw [hz] at hpk; exact absurd hpk.1 (by decide)) (hash_bounds _) (hash_bounds _) hpk.1 (hs.2.trans hs2.2.symm)
  exact hne (entryHash_dev (pub_bounds _) (by rw [hd]; exact pub_bounds _) e1)
theorem bad_sign {l : List S86} (hv : M.verifyLog l = true) {n : Nat} (hn : n < l.length) : M.verifyLog (l.set n ⟨l[n].f0, l[n].f1, l[n].f2, l[n].f3, l[n].f4, wrap64 (l[n].f5 + 1)⟩) = false := by
  have hs := step_sig (((verifyLog_iff l).1 hv).2 n hn)
  refine set_step hn _ ?_
  rw [Bool.eq_false_iff]; intro hb
  have hs2 := step_sig hb
  simp only at hs2
  have hpk := priv_valid hs.1
  have e1 : l[n].f5 = wrap64 (l[n].f5 + 1) := hs.2.symm.trans hs2.2
  have hk : M.sign (M.priv l[n].f3) [M.entryHash l[n]] = M.keyed (M.priv l[n].f3) ([139, 1] ++ [M.entryHash l[n]]) := by unfold M.sign; rw [if_pos hpk.1]; rfl
  have hbd := keyed_bounds (M.priv l[n].f3) ([139, 1] ++ [M.entryHash l[n]])
  rw [← hk, hs.2] at hbd
  rw [wrap_in (by omega) (by omega)] at e1
  omega
/-! impl_has -/
theorem impl_has.ev (l : List Int) (x : Int) (hl : l.length ≤ 2097152) : Ev (fun k => impl_has.f k l x) (M.has l x) := by
  unfold impl_has.f
  refine Ev.loop (fun k i (_ : Unit) => impl_has.l0 k x l l.length (i : Int)) l.length (fun i _ => M.has (l.drop i) x) (fun _ _ => True) ?_ ?_ 0 () (by omega) trivial
  · rintro s _
    refine Ev.round ?_
    simp only [impl_has.l0]
    exact Ev.no (by omega) (Ev.eq (by rw [drop_end]; rfl))
  · rintro i s hi _ ih
    refine Ev.round ?_
    simp only [impl_has.l0, wrap_succ hi (by omega : l.length ≤ _), rd_get hi]
    rw [drop_get hi]; unfold M.has; rw [List.any_cons]
    refine Ev.yes (by omega) (Ev.yes (by omega) (Ev.yes (by omega) (Ev.ite (fun h => Ev.eq (by rw [h]; simp)) (fun h => Ev.conv (ih () trivial) (by simp only [h, decide_false, Bool.false_or]; rfl)))))
/-! impl_DevicesOf -/
theorem impl_DevicesOf.ev (l : List S86) (hl : l.length ≤ 1048577) : Ev (fun k => impl_DevicesOf.f k l) (M.devices l) := by
  unfold impl_DevicesOf.f
  refine Ev.loop (fun k i o => impl_DevicesOf.l0 k o l l.length (i : Int)) l.length (fun i o => (l.drop i).foldl M.devStep o) (fun i o => o.length ≤ i) ?_ ?_ 0 [] (by omega) (by simp)
  · intro o ho
    refine Ev.round ?_
    simp only [impl_DevicesOf.l0]
    exact Ev.no (by omega) (Ev.eq (by rw [drop_end]; rfl))
  · intro i o hi ho ih
    have hsl := devStep_len o l[i]
    have nxt : ∀ o', M.devStep o l[i] = o' → Ev (fun k => impl_DevicesOf.l0 k o' l l.length ((i + 1 : Nat) : Int)) ((l.drop i).foldl M.devStep o) := by
      rintro o' rfl; rw [drop_get hi, List.foldl_cons]; exact ih _ (by omega)
    refine Ev.round ?_
    simp only [impl_DevicesOf.l0, rd_LogEntry hi, wrap_succ hi (by omega : l.length ≤ _)]
    refine Ev.yes (by omega) (Ev.yes (by omega) (Ev.yes (by omega) (Ev.ite (fun h1 => Ev.bind (impl_has.ev o _ (by omega)) (Ev.ite (fun h2 => nxt _ ?_) (fun h2 => Ev.yes (by omega) (nxt _ ?_)))) (fun h1 => Ev.ite (fun h2 => ?_) (fun h2 => nxt _ ?_)))))
    · unfold M.devStep; rw [if_pos h1, if_pos h2]
    · unfold M.devStep; rw [if_pos h1, if_neg h2]
    · refine Ev.loop (fun k j x => impl_DevicesOf.l1 k x l l.length (i : Int) o o.length (j : Int) l[i].f0 l[i].f1 l[i].f2 l[i].f3 l[i].f4 l[i].f5) o.length (fun _ _ => (l.drop i).foldl M.devStep o) (fun j x => x ++ (o.drop j).filter (fun d => decide (d ≠ l[i].f2)) = o.filter (fun d => decide (d ≠ l[i].f2)) ∧ x.length ≤ j) ?_ ?_ 0 [] (by omega) (by simp)
      · rintro x ⟨hx, _⟩
        rw [drop_end, List.filter_nil, List.append_nil] at hx
        refine Ev.round ?_
        simp only [impl_DevicesOf.l1, wrap_succ hi (by omega : l.length ≤ _)]
        exact Ev.no (by omega) (nxt _ (by unfold M.devStep; rw [if_neg h1, if_pos h2, hx]))
      · rintro j x hj ⟨hx, hxl⟩ ih2
        rw [drop_get hj] at hx
        refine Ev.round ?_
        simp only [impl_DevicesOf.l1, rd_get hj, wrap_succ hj (by omega : o.length ≤ _)]
        refine Ev.yes (by omega) (Ev.yes (by omega) (Ev.yes (by omega) (Ev.ite (fun h3 => ih2 _ ⟨?_, by omega⟩) (fun h3 => Ev.yes (by omega) (ih2 _ ⟨?_, by simp; omega⟩)))))
        · rw [filter_cons_drop h3] at hx; exact hx
        · rw [filter_cons_keep h3] at hx; rw [List.append_assoc]; exact hx
    · unfold M.devStep; rw [if_neg h1, if_neg h2]
/-! impl_Mod -/
theorem impl_Mod.eq (k : Nat) (a m : Int) : impl_Mod.f (k + 1) a m = some (M.mod a m) := by
  unfold impl_Mod.f M.mod
  by_cases h : m < 1
  · rw [if_pos h, if_neg (by omega)]; simp only [impl_Mod.j0]; simp
  · rw [if_neg h]; simp only [impl_Mod.j0]
    by_cases h2 : m > 1000000000000
    · rw [if_pos (by simp [h2]), if_neg (by omega)]
    · have e := tmod_emod a m (by omega)
      have hb := tmod_bounds a m (by omega)
      rw [if_neg (by simp [h2]), if_neg (by omega), if_pos (⟨by omega, by omega⟩ : 1 ≤ m ∧ m ≤ 1000000000000)]
      by_cases hn : Int.tmod a m < 0
      · rw [if_pos hn, wrap_in (by omega) (by omega)]; rw [if_pos hn] at e; rw [e]; congr 1; omega
      · rw [if_neg hn] at e; rw [if_neg hn, e]
theorem impl_Mod.ev (a m : Int) : Ev (fun k => impl_Mod.f k a m) (M.mod a m) := Ev.step (f := fun _ => some (M.mod a m)) (impl_Mod.eq · a m) (Ev.now _)
/-! impl_Hash -/
theorem impl_Hash.ev (l : List Int) (hl : l.length ≤ 140737488355328) : Ev (fun k => impl_Hash.f k l) (M.hash l) := by
  refine Ev.loop (fun k i h => impl_Hash.l0 k h l l.length (i : Int)) l.length (fun i h => (l.drop i).foldl M.hstep h) (fun _ h => 0 ≤ h ∧ h < 2147483647) ?_ ?_ 0 11 (by omega) (by omega)
  · intro h _
    refine Ev.round ?_
    simp only [impl_Hash.l0]
    refine Ev.no (by omega) (Ev.eq (by rw [drop_end]; rfl))
  · intro i h hi hh ih
    refine Ev.round ?_
    simp only [impl_Hash.l0, wrap_succ hi (by omega : l.length ≤ _)]
    refine Ev.yes (by omega) (Ev.yes (by omega) (Ev.yes (by omega) (Ev.bind (impl_Mod.ev _ _) ?_)))
    rw [drop_get hi, rd_get hi, hstep_eq _ _ hh.1 hh.2]
    exact ih _ (hstep_bounds _ _)
/-! impl_EntryHash -/
theorem impl_EntryHash.ev (e : S86) : Ev (fun k => impl_EntryHash.f k e.f0 e.f1 e.f2 e.f3 e.f4 e.f5) (M.entryHash e) := by
  unfold impl_EntryHash.f; exact Ev.bind (impl_Hash.ev _ (by simp)) (Ev.now _)
/-! impl_EpochOf -/
theorem impl_EpochOf.ev (l : List S86) (hl : l.length ≤ 1048576) : Ev (fun k => impl_EpochOf.f k l) (M.epochOf l) := by
  unfold impl_EpochOf.f
  refine Ev.conv (Ev.loop (fun k i n => impl_EpochOf.l0 k n l l.length (i : Int)) l.length (fun i n => n + (M.epochOf (l.drop i) : Int)) (fun i n => 0 ≤ n ∧ n ≤ i) ?_ ?_ 0 0 (by omega) (by omega)) (by simp)
  · intro n hn
    refine Ev.round ?_
    simp only [impl_EpochOf.l0]
    exact Ev.no (by omega) (Ev.eq (by rw [drop_end]; simp [M.epochOf]))
  · intro i n hi hn ih
    refine Ev.round ?_
    simp only [impl_EpochOf.l0, rd_LogEntry hi, wrap_succ hi (by omega : l.length ≤ _)]
    rw [drop_get hi]
    refine Ev.yes (by omega) (Ev.yes (by omega) (Ev.yes (by omega) (Ev.ite (fun h => ?_) (fun h => ?_))))
    · rw [wrap_in (by omega) (by omega)]
      refine Ev.conv (ih (n + 1) (by omega)) ?_
      rw [epochOf_cons, if_pos h]; omega
    · refine Ev.conv (ih n (by omega)) ?_
      rw [epochOf_cons, if_neg h]; omega
/-! impl_ExtendsLog -/
theorem impl_ExtendsLog.ev (l r : List S86) (hl : l.length ≤ 1048576) (hr : r.length ≤ 1048576) : Ev (fun k => impl_ExtendsLog.f k l r) (M.extends l r) := by
  unfold impl_ExtendsLog.f
  refine Ev.ite (fun h => Ev.eq (extends_short (by omega)).symm) (fun h => ?_)
  refine Ev.loop (fun k i (_ : Unit) => impl_ExtendsLog.l0 k l r r.length (i : Int)) r.length (fun i _ => M.extends (l.drop i) (r.drop i)) (fun _ _ => True) ?_ ?_ 0 () (by omega) trivial
  · rintro s _
    refine Ev.round ?_
    simp only [impl_ExtendsLog.l0]
    exact Ev.no (by omega) (Ev.eq (by rw [drop_end]; cases l.drop r.length <;> rfl))
  · rintro i s hi _ ih
    have hi2 : i < l.length := by omega
    refine Ev.round ?_
    simp only [impl_ExtendsLog.l0, wrap_succ hi (by omega : r.length ≤ _), rd_LogEntry hi, rd_LogEntry hi2, neLE]
    rw [drop_get hi, drop_get hi2]
    refine Ev.yes (by omega) (Ev.yes (by omega) (Ev.yes (by omega) (Ev.yes (by omega) (Ev.ite (fun h => ?_) (fun h => ?_)))))
    · exact Ev.eq (by simp at h; simp [M.extends, h])
    · refine Ev.conv (ih () trivial) (by simp at h; simp [M.extends, h])
/-! impl_LogHead -/
theorem impl_LogHead.ev (l : List S86) (hl : l.length ≤ 1048576) : Ev (fun k => impl_LogHead.f k l) (M.logHead l) := by
  unfold impl_LogHead.f
  refine Ev.ite (fun h => ?_) (fun h => ?_)
  · have : l = [] := List.eq_nil_of_length_eq_zero (by omega)
    subst this; exact Ev.now _
  · have hl' : 0 < l.length := by omega
    rw [logHead_get l hl']
    simp only [wrap_pred hl' (by omega : l.length ≤ _), rd_LogEntry (by omega : l.length - 1 < l.length), impl_EntryHash.f]
    refine Ev.yes (by omega) (Ev.yes (by omega) (Ev.bind (Ev.bind (impl_Hash.ev _ (by simp)) (Ev.now _)) (Ev.now _)))
/-! impl_InRange -/
theorem impl_InRange.eq (a b c : Int) : impl_InRange.f a b c = some (M.inr a b c) := by
  unfold impl_InRange.f M.inr
  by_cases h : b ≤ a
  · rw [if_pos h]; simp [h]
  · rw [if_neg h]
    simp [h]
/-! impl_IsValidKey -/
theorem impl_IsValidKey.eq (a : Int) : impl_IsValidKey.f a = some (M.validKey a) := by unfold impl_IsValidKey.f; rw [impl_InRange.eq]; rfl
/-! impl_power -/
theorem impl_power.ev : Ev (fun k => impl_power.f k 48271 2147483645 2147483647) M.inv := Ev.of (k := 40) (fun k => impl_power.mono _ _ _ k) (by decide +kernel)
/-! impl_PrivateKey -/
theorem impl_PrivateKey.ev (a : Int) : Ev (fun k => impl_PrivateKey.f k a) (M.priv a) := by
  unfold impl_PrivateKey.f
  refine Ev.bindc (impl_IsValidKey.eq ..) (Ev.ite (fun h => ?_) (fun h => ?_))
  · have h' := inr_true.1 h
    refine Ev.bind impl_power.ev ?_
    have e : Int.tmod (wrap64 (a * M.inv)) 2147483647 = M.priv a := by
      unfold M.priv M.inv; rw [if_pos (show M.validKey a = true from h), wrap_in (by omega) (by omega), Int.tmod_eq_emod_of_nonneg (by omega)]
    rw [e]; exact Ev.now _
  · exact Ev.eq (by unfold M.priv; rw [if_neg h])
/-! joined -/
def M.joined (l : List Int) (ls : List (List Int)) : List Int := l ++ ls.flatten
/-! impl_joined -/
theorem rdL_get {ls : List (List Int)} {i : Nat} (h : i < ls.length) : rd_L3 ls (i : Int) = ls[i] := by unfold rd_L3; exact getD_lt h _
theorem impl_joined.evl (ls : List (List Int)) (hn : ls.length ≤ 1000000) : ∀ (d i : Nat) (x : List Int), i + d = ls.length → x.length + ((ls.drop i).flatten).length < 17592186044416 →
    Ev (fun k => impl_joined.l0 k x ls ls.length i) (x ++ (ls.drop i).flatten) := by
  intro d
  induction d with
  | zero =>
    intro i x hi hx
    refine Ev.round ?_
    simp only [impl_joined.l0]
    exact Ev.no (by omega) (Ev.eq (by rw [List.drop_eq_nil_of_le (by omega)]; simp))
  | succ d ih =>
    intro i x hi hx
    rw [drop_get (by omega : i < ls.length)] at hx ⊢
    simp only [List.flatten_cons, List.length_append] at hx
    refine Ev.round ?_
    simp only [impl_joined.l0, rdL_get (by omega : i < ls.length), wrap_succ (by omega : i < ls.length) (by omega : ls.length ≤ _)]
    refine Ev.yes (by omega) (Ev.yes (by omega) (Ev.yes (by omega) (Ev.yes (by omega) ?_)))
    rw [List.flatten_cons, ← List.append_assoc]
    exact ih (i + 1) (x ++ ls[i]) (by omega) (by simp only [List.length_append]; omega)
theorem impl_joined.ev (l : List Int) (ls : List (List Int)) (hn : ls.length ≤ 1000000) (hl : l.length + (ls.flatten).length < 17592186044416) : Ev (fun k => impl_joined.f k l ls) (M.joined l ls) := by
  unfold impl_joined.f
  simp only [Option.bind_some]
  refine Ev.yes (by simp; omega) ?_
  have := impl_joined.evl ls hn ls.length 0 ([] ++ l) (by omega) (by simpa using hl)
  simpa [M.joined] using this
/-! impl_KeyedHash -/
theorem impl_KeyedHash.ev (a : Int) (l : List Int) (hl : l.length ≤ 1000000000000) : Ev (fun k => impl_KeyedHash.f k a l) (M.keyed a l) := by
  unfold impl_KeyedHash.f
  refine Ev.bind (impl_joined.ev _ _ (by simp) (by simp; omega)) (Ev.bind (impl_Hash.ev _ (by simp [M.joined]; omega)) (Ev.eq ?_))
  simp [M.joined, M.keyed]
/-! impl_SignMessage -/
theorem impl_SignMessage.ev (p : Int) (l : List Int) (hl : l.length ≤ 1000000) : Ev (fun k => impl_SignMessage.f k p l) (M.sign p l) := by
  unfold impl_SignMessage.f M.sign
  simp only [impl_IsValidKey.eq, bind_some_]
  refine Ev.ite (fun h => Ev.bind (impl_joined.ev _ _ (by simp) (by simp; omega)) (Ev.bind (impl_KeyedHash.ev _ _ (by simp [M.joined]; omega)) (Ev.eq ?_))) (fun h => Ev.eq ?_)
  · rw [if_pos h]; simp [M.joined]
  · rw [if_neg h]
/-! impl_VerifySignature -/
theorem impl_VerifySignature.ev (q : Int) (l : List Int) (s : Int) (hl : l.length ≤ 1000000) : Ev (fun k => impl_VerifySignature.f k q l s) (M.verify q l s) := by
  unfold impl_VerifySignature.f M.verify
  refine Ev.bind (impl_PrivateKey.ev q) (Ev.ite (fun h => Ev.eq (by simp [h])) (fun h => Ev.bind (impl_SignMessage.ev _ l hl) (Ev.eq ?_)))
  simp only [h, ne_eq, not_false_eq_true, decide_true, Bool.true_and]; rfl
/-! impl_wasRemoved -/
theorem impl_wasRemoved.ev (l : List S86) (d : Int) (hl : l.length ≤ 1048577) : Ev (fun k => impl_wasRemoved.f k l d) (M.removed l d) := by
  unfold impl_wasRemoved.f
  refine Ev.loop (fun k i (_ : Unit) => impl_wasRemoved.l0 k d l l.length (i : Int)) l.length (fun i _ => M.removed (l.drop i) d) (fun _ _ => True) ?_ ?_ 0 () (by omega) trivial
  · rintro _ _
    refine Ev.round ?_
    simp only [impl_wasRemoved.l0]
    exact Ev.no (by omega) (Ev.eq (by rw [drop_end]; rfl))
  · rintro i _ hi _ ih
    refine Ev.round ?_
    simp only [impl_wasRemoved.l0, rd_LogEntry hi, wrap_succ hi (by omega : l.length ≤ _)]
    rw [drop_get hi]
    have hr : M.removed (l[i] :: l.drop (i + 1)) d = ((decide (l[i].f1 = 2) && decide (l[i].f2 = d)) || M.removed (l.drop (i + 1)) d) := by unfold M.removed; rw [List.any_cons]
    rw [hr]
    refine Ev.yes (by omega) (Ev.yes (by omega) (Ev.yes (by omega) (Ev.ite (fun h6 => Ev.ite (fun h7 => Ev.eq ?_) (fun h7 => Ev.conv (ih () trivial) ?_)) (fun h6 => Ev.conv (ih () trivial) ?_))))
    · simp [h6, h7]
    · simp [h6, h7]
    · simp [h6]
/-! impl_VerifyLog -/
theorem impl_VerifyLog.ev (l : List S86) (hl : l.length ≤ 1048577) : Ev (fun k => impl_VerifyLog.f k l) (M.verifyLog l) := by
  unfold impl_VerifyLog.f
  have no : ¬ (1 ≤ l.length ∧ l.length ≤ 40) → Ev (fun k => impl_VerifyLog.j0 k l true) (M.verifyLog l) := by
    intro h
    refine Ev.round ?_
    simp only [impl_VerifyLog.j0]
    exact Ev.yes (by trivial) (Ev.eq (by unfold M.verifyLog; rw [decide_eq_false h]; rfl))
  refine Ev.ite (fun h => no (by omega)) (fun h => ?_)
  rcases Nat.lt_or_ge 40 l.length with h40 | h40
  · rw [decide_eq_true (by omega : (l.length : Int) > 40)]; exact no (by omega)
  rw [decide_eq_false (by omega : ¬ (l.length : Int) > 40)]
  refine Ev.round ?_
  simp only [impl_VerifyLog.j0]
  refine Ev.no (by simp) ?_
  refine Ev.loop (fun k i (_ : Unit) => impl_VerifyLog.l0 k l l l.length (i : Int)) l.length (fun _ _ => M.verifyLog l) (fun i _ => ∀ (j : Nat) (h : j < l.length), j < i → M.stepOk (l.take j) l[j] = true) ?_ ?_ 0 () (by omega) (fun j _ h => by omega)
  · rintro _ hinv
    refine Ev.round ?_
    simp only [impl_VerifyLog.l0]
    exact Ev.no (by omega) (Ev.eq ((verifyLog_iff l).2 ⟨by omega, fun j hj => hinv j hj hj⟩).symm)
  · rintro i _ hi hinv ih
    have htl : (l.take i).length = i := by simp; omega
    have hdl := devices_len (l.take i)
    have bad : M.stepOk (l.take i) l[i] = false → M.verifyLog l = false := verifyLog_bad hi
    generalize hb : l.take i = b at *
    generalize he : l[i] = e at *
    have out : M.stepOk b e = false → Ev (fun k => impl_VerifyLog.j2 k l b (M.devices b) l l.length (i : Int) true e.f0 e.f1 e.f2 e.f3 e.f4 e.f5) (M.verifyLog l) := by
      intro h
      refine Ev.round ?_
      simp only [impl_VerifyLog.j2]
      exact Ev.yes (by trivial) (Ev.eq (bad h).symm)
    have go : e.f0 = b.length → e.f4 = M.logHead b → (M.has (M.devices b) e.f3 || (decide (b.length = 0) && decide (e.f3 = e.f2))) = true → Ev (fun k => impl_VerifyLog.j2 k l b (M.devices b) l l.length (i : Int) false e.f0 e.f1 e.f2 e.f3 e.f4 e.f5) (M.verifyLog l) := by
      intro h1 h2 h3
      have hs : M.stepOk b e = (M.verify e.f3 [M.entryHash e] e.f5 && ((decide (e.f1 = 2) && (M.has (M.devices b) e.f2 && decide (1 < (M.devices b).length))) || (decide (e.f1 = 1) && (!M.removed b e.f2 && (!M.has (M.devices b) e.f2 && decide ((M.devices b).length < 6)))))) := by
        unfold M.stepOk; rw [h3, decide_eq_true h1, decide_eq_true h2]; simp
      have fin : ((decide (e.f1 = 2) && (M.has (M.devices b) e.f2 && decide (1 < (M.devices b).length))) || (decide (e.f1 = 1) && (!M.removed b e.f2 && (!M.has (M.devices b) e.f2 && decide ((M.devices b).length < 6))))) = true → Ev (fun k => impl_VerifyLog.j3 k l l l.length (i : Int) e.f0 e.f1 e.f2 e.f3 e.f4 e.f5) (M.verifyLog l) := by
        intro h4
        rw [h4, Bool.and_true] at hs
        refine Ev.round ?_
        simp only [impl_VerifyLog.j3, wrap_succ hi (by omega : l.length ≤ _)]
        refine Ev.bind (impl_EntryHash.ev e) (Ev.bind (impl_VerifySignature.ev _ _ _ (by simp)) (Ev.ite (fun h5 => ih () ?_) (fun h5 => Ev.eq (bad (by rw [hs]; exact Bool.eq_false_iff.2 h5)).symm)))
        intro j hj hji
        by_cases eji : j = i
        · subst eji; rw [hb, he, hs]; exact h5
        · exact hinv j hj (by omega)
      refine Ev.round ?_
      simp only [impl_VerifyLog.j2]
      refine Ev.no (by simp) (Ev.ite (fun h4 => Ev.bind (impl_has.ev _ _ (by omega)) (Ev.ite (fun h5 => Ev.eq (bad ?_).symm) (fun h5 => Ev.bind (impl_wasRemoved.ev _ _ (by omega)) (Ev.ite (fun h6 => Ev.eq (bad ?_).symm) (fun h6 => Ev.ite (fun h7 => Ev.eq (bad ?_).symm) (fun h7 => fin ?_)))))) (fun h4 => Ev.ite (fun h5 => Ev.bind (impl_has.ev _ _ (by omega)) (Ev.ite (fun h6 => Ev.ite (fun h7 => Ev.eq (bad ?_).symm) (fun h7 => fin ?_)) (fun h6 => Ev.eq (bad ?_).symm))) (fun h5 => Ev.eq (bad ?_).symm)))
      · rw [hs]; simp [h4, h5]
      · rw [hs]; simp [h4, h6]
      · rw [hs]; have : ¬ (M.devices b).length < 6 := by omega
        simp [h4, this]
      · have : (M.devices b).length < 6 := by omega
        simp at h5 h6; simp [h4, h5, h6, this]
      · rw [hs]; have : ¬ 1 < (M.devices b).length := by omega
        simp [h5, this]
      · have hm := (has_iff _ _).1 h6
        have hp : 0 < (M.devices b).length := List.length_pos_of_mem hm
        have : 1 < (M.devices b).length := by omega
        simp [h5, h6, this]
      · rw [hs]; simp [h5, h6]
      · rw [hs]; simp [h4, h5]
    have he2 : rd_T86 l (i : Int) = e := by rw [rd_LogEntry hi]; exact he
    refine Ev.round ?_
    simp only [impl_VerifyLog.l0, he2, Int.toNat_natCast, bind_some_, hb]
    refine Ev.yes (by omega) (Ev.yes (by omega) (Ev.yes (by omega) (Ev.yes (by omega) (Ev.bind (impl_DevicesOf.ev b (by omega)) (Ev.ite (fun h1 => Ev.bind (impl_LogHead.ev b (by omega)) (Ev.ite (fun h2 => Ev.bind (impl_has.ev _ _ (by omega)) (Ev.ite (fun h3 => go (by omega) h2 (by rw [h3]; rfl)) (fun h3 => Ev.ite (fun h4 => ?_) (fun h4 => out ?_)))) (fun h2 => out ?_))) (fun h1 => out ?_))))))
    · by_cases h5 : e.f3 = e.f2
      · rw [show (!(e.f3 == e.f2)) = false by simp [h5]]
        exact go (by omega) h2 (by rw [decide_eq_true (by omega : b.length = 0), decide_eq_true h5]; simp)
      · rw [show (!(e.f3 == e.f2)) = true by simp [h5]]
        exact out (by unfold M.stepOk; simp only [Bool.eq_false_iff.2 h3, h5, decide_false, Bool.and_false, Bool.or_false, Bool.false_and])
    · unfold M.stepOk; simp only [Bool.eq_false_iff.2 h3, decide_eq_false (by omega : ¬ b.length = 0), Bool.false_and, Bool.or_false, Bool.and_false]
    · unfold M.stepOk; simp only [h2, decide_false, Bool.false_and, Bool.and_false]
    · unfold M.stepOk; rw [decide_eq_false (by omega : ¬ e.f0 = b.length)]; rfl
/-! cur -/
theorem and255 (n : Int) : Go.bits .and .i64 n 255 = n % 256 := by
  have h : (BitVec.ofInt 64 255).toNat = 2 ^ 8 - 1 := by decide
  have key : (BitVec.ofInt 64 n &&& BitVec.ofInt 64 255).toNat = (n % ((2 ^ 64 : Nat) : Int)).toNat % 2 ^ 8 := by
    rw [BitVec.toNat_and, BitVec.toNat_ofInt, h, Nat.and_two_pow_sub_one_eq_mod]
  show Go.IntKind.i64.wrap ((BitVec.ofInt 64 n &&& BitVec.ofInt 64 255).toNat : Nat) = n % 256
  rw [key, Go.IntKind.wrap_i64]
  omega
/-! bytes -/
def M.byt (x : List Int) : Prop := ∀ v ∈ x, 0 ≤ v ∧ v ≤ 255
theorem byt_of {x : List Int} (h : ∀ v ∈ x, (Lit.int .u8 v).wf = true) : M.byt x := by
  intro v hv
  have := h v hv
  simp only [Lit.wf, Bool.and_eq_true, decide_eq_true_eq] at this
  exact ⟨Int.le_trans (by decide) this.1, Int.le_trans this.2 (by decide)⟩
theorem byt_drop {x : List Int} (h : M.byt x) (n : Nat) : M.byt (x.drop n) := fun v hv => h v (List.mem_of_mem_drop hv)
theorem byt_get {x : List Int} (h : M.byt x) {i : Nat} (hi : i < x.length) : 0 ≤ x[i] ∧ x[i] ≤ 255 := h _ (List.getElem_mem hi)
/-! laws_at -/
theorem laws_at.ex (l : List Int) (hb : M.byt l) : ∃ a, laws_at.f l 0 = some a ∧ 0 ≤ a ∧ a ≤ 255 := by
  unfold laws_at.f
  by_cases h : (0 : Int) < (l.length : Int)
  · rw [if_pos h, if_pos (Int.le_refl 0)]
    have h1 : 0 < l.length := by omega
    have h2 := byt_get hb h1
    have h3 : rd l 0 = l[0] := rd_get (i := 0) h1
    refine ⟨_, rfl, ?_⟩
    rw [h3, wrap_in (by omega) (by omega)]; exact h2
  · rw [if_neg h]
    have h1 : (l.length : Int) = 0 := by omega
    rw [h1]
    refine ⟨_, rfl, ?_⟩
    rw [wrap_in (n := 0 * 31) (by decide) (by decide), wrap_in (n := 0 * 7) (by decide) (by decide), wrap_in (by decide) (by decide)]
    decide
/-! laws_big -/
theorem laws_big.eq (l : List Int) : laws_big.f l = some (decide ((l.length : Int) > 1048576)) := rfl
/-! spec_l1In -/
theorem spec_l1In.eq (a b c : Int) : spec_l1In.f a b c = some (M.inr a b c) := by
  unfold spec_l1In.f M.inr
  by_cases h : a ≥ b
  · rw [if_pos h]; simp [h]
  · rw [if_neg h]; have : ¬ b ≤ a := by omega
    simp [this]
/-! spec_Mod -/
theorem spec_Mod.eq (a m : Int) : spec_Mod.f a m = some (M.mod a m) := by
  unfold spec_Mod.f M.mod
  rw [spec_l1In.eq]; simp only [Option.bind_some]
  by_cases h : 1 ≤ m ∧ m ≤ 1000000000000
  · have hb := tmod_bounds a m h.1
    rw [if_pos (inr_true.2 h), if_neg (by omega), if_pos h, wrap_in (by omega) (by omega), mod_add_self a m h.1]
  · rw [if_neg (fun h2 => h (inr_true.1 h2)), if_neg h]
/-! spec_Hash -/
theorem spec_Hash.ev (l : List Int) (hl : l.length ≤ 140737488355328) : Ev (fun k => spec_Hash.f k l) (M.hash l) := by
  refine Ev.loop (fun k i h => spec_Hash.l0 k l h (i : Int)) l.length (fun i h => (l.drop i).foldl M.hstep h) (fun _ h => 0 ≤ h ∧ h < 2147483647) ?_ ?_ 0 11 (by omega) (by omega)
  · intro h _
    refine Ev.round ?_
    simp only [spec_Hash.l0]
    refine Ev.no (by omega) (Ev.eq (by rw [drop_end]; rfl))
  · intro i h hi hh ih
    refine Ev.round ?_
    simp only [spec_Hash.l0, spec_Mod.eq, bind_some_, wrap_succ hi (by omega : l.length ≤ _), hstep_eq _ _ hh.1 hh.2]
    refine Ev.yes (by omega) (Ev.yes (by omega) ?_)
    rw [drop_get hi, rd_get hi]
    exact ih _ (hstep_bounds _ _)
/-! spec_KeyedHash -/
theorem spec_KeyedHash.ev (a : Int) (l : List Int) (hl : l.length ≤ 1000000000000) : Ev (fun k => spec_KeyedHash.f k a l) (M.keyed a l) := by
  unfold spec_KeyedHash.f
  simp only [Option.bind_some]
  exact Ev.yes (by simp; omega) (Ev.yes (by simp; omega) (Ev.bind (spec_Hash.ev _ (by simp; omega)) (Ev.now _)))
/-! spec_Max -/
theorem spec_Max.eq (a b : Int) : spec_Max.f a b = some (if b > a then b else a) := by unfold spec_Max.f; split <;> rfl
/-! spec_DeriveKey -/
theorem spec_DeriveKey.ev (a : Int) (l : List Int) (hl : l.length ≤ 100000000000) : Ev (fun k => spec_DeriveKey.f k a l) (M.derive a l) := by
  unfold spec_DeriveKey.f
  simp only [Option.bind_some]
  refine Ev.yes (by simp; omega) (Ev.bind (spec_KeyedHash.ev _ _ (by simp; omega)) ?_)
  simp only [spec_Max.eq, Option.bind_some]
  exact Ev.eq (orOne_max _ (hash_bounds _).1)
/-! spec_l10Device -/
theorem spec_l10Device.ev (a b s c : Int) : Ev (fun k => spec_l10Device.f k a b s c) (M.devKey s) := by
  unfold spec_l10Device.f; exact Ev.bind (spec_DeriveKey.ev s _ (by simp)) (Ev.now _)
/-! spec_IsValidKey -/
theorem spec_IsValidKey.eq (a : Int) : spec_IsValidKey.f a = some (M.validKey a) := by unfold spec_IsValidKey.f; rw [spec_l1In.eq]; rfl
/-! spec_PublicKey -/
theorem spec_PublicKey.eq (a : Int) : spec_PublicKey.f a = some (M.pub a) := by
  unfold spec_PublicKey.f M.pub; rw [spec_IsValidKey.eq, bind_some_]
  by_cases h : M.validKey a = true
  · have := inr_true.1 h
    rw [if_pos h, if_pos h, wrap_in (by omega) (by omega), Int.tmod_eq_emod_of_nonneg (by omega)]
  · rw [if_neg h, if_neg h]
/-! spec_DevicePublic -/
theorem spec_DevicePublic.ev (a b s c : Int) : Ev (fun k => spec_DevicePublic.f k a b s c) (M.pub (M.devKey s)) := by
  unfold spec_DevicePublic.f; exact Ev.bind (spec_l10Device.ev a b s c) (Ev.bindc (spec_PublicKey.eq _) (Ev.now _))
/-! spec_l1New -/
theorem spec_l1New.ex (l : List Int) (hl : l.length ≤ 1048576) : EvX (fun k => spec_l1New.f k l) (fun r => r.1 = l ∧ r.2.1 = 0) := by
  unfold spec_l1New.f
  refine EvX.loop (fun k i (s : Int) => spec_l1New.l0 k l s (i : Int)) l.length _ (fun _ _ => True) ?_ ?_ 0 _ (by omega) trivial
  · intro s _
    refine EvX.round ?_
    simp only [spec_l1New.l0]
    exact EvX.no (by omega) (EvX.now ⟨rfl, rfl⟩)
  · intro i s hi _ ih
    refine EvX.round ?_
    simp only [spec_l1New.l0, wrap_succ hi (by omega : l.length ≤ _)]
    exact EvX.yes (by omega) (EvX.ite (fun _ => EvX.yes (by omega) (ih _ trivial)) (fun _ => EvX.now ⟨rfl, rfl⟩))
/-! spec_l1Size -/
theorem spec_l1Size.ex (l : List Int) (hl : l.length ≤ 1048576) : ∃ a, spec_l1Size.f l 12 = some a ∧ 0 ≤ a ∧ a ≤ 12 := by
  unfold spec_l1Size.f
  rw [wrap_in (n := (l.length : Int) / 12) (by omega) (by omega), wrap_in (n := 3 + (l.length : Int) / 12) (by omega) (by omega)]
  by_cases h : 3 + (l.length : Int) / 12 > 12
  · rw [if_pos h]; exact ⟨_, rfl, by omega, by omega⟩
  · rw [if_neg h]; exact ⟨_, rfl, by omega, by omega⟩
/-! spec_l1Byte -/
theorem spec_l1Byte.ex (s : List Int) (p q : Int) (hs : s.length ≤ 1048576) (hp : 0 ≤ p) : ∃ a, spec_l1Byte.f s p q = some a ∧ (0 ≤ a.1 ∧ a.1 ≤ 255) ∧ 0 ≤ a.2.1 := by
  unfold spec_l1Byte.f
  by_cases h : p < (s.length : Int)
  · rw [if_pos h, if_pos hp]
    refine ⟨_, rfl, ?_, ?_⟩
    · simp only [and255]; omega
    · simp only; rw [wrap_in (by omega) (by omega)]; omega
  · rw [if_neg h]
    refine ⟨_, rfl, ?_, hp⟩
    simp only [and255]; omega
/-! spec_l1Below -/
theorem spec_l1Below.ex (s : List Int) (p q n : Int) (hs : s.length ≤ 1048576) (hp : 0 ≤ p) (hn : n ≤ 1000000) : ∃ a, spec_l1Below.f s p q n = some a ∧ (0 ≤ a.1 ∧ (a.1 < n ∨ (n ≤ 0 ∧ a.1 = 0))) ∧ 0 ≤ a.2.1 := by
  unfold spec_l1Below.f
  by_cases h0 : n ≤ 0
  · rw [if_pos h0]; exact ⟨_, rfl, ⟨by simp, .inr ⟨h0, rfl⟩⟩, hp⟩
  · rw [if_neg h0]
    by_cases h1 : n ≤ 256
    · rw [if_pos h1]
      obtain ⟨a, ha, hb, hc⟩ := spec_l1Byte.ex s p q hs hp
      rw [ha, bind_some_, if_neg (by omega)]
      refine ⟨_, rfl, ?_, hc⟩
      simp only; rw [tmod_pos _ _ hb.1]
      exact ⟨Int.emod_nonneg _ (by omega), .inl (Int.emod_lt_of_pos _ (by omega))⟩
    · rw [if_neg h1]
      obtain ⟨a, ha, hab, hap⟩ := spec_l1Byte.ex s p q hs hp
      obtain ⟨b, hb, hbb, hbp⟩ := spec_l1Byte.ex s a.2.1 a.2.2 hs hap
      obtain ⟨c, hc, hcb, hcp⟩ := spec_l1Byte.ex s b.2.1 b.2.2 hs hbp
      rw [ha, bind_some_, hb, bind_some_, hc, bind_some_, if_neg (by omega)]
      refine ⟨_, rfl, ?_, hcp⟩
      simp only
      rw [wrap_in (n := a.1 * 65536) (by omega) (by omega), wrap_in (n := b.1 * 256) (by omega) (by omega), wrap_in (n := a.1 * 65536 + b.1 * 256) (by omega) (by omega), wrap_in (by omega) (by omega), tmod_pos _ _ (by omega)]
      exact ⟨Int.emod_nonneg _ (by omega), .inl (Int.emod_lt_of_pos _ (by omega))⟩
/-! spec_l1Once -/
theorem spec_l1Once.ex (s : List Int) (p q n : Int) (hs : s.length ≤ 1048576) (hp : 0 ≤ p) (hn : n ≤ 1000000) : ∃ a, spec_l1Once.f s p q n = some a ∧ 0 ≤ a.2.1 := by
  unfold spec_l1Once.f
  obtain ⟨a, ha, _, hp2⟩ := spec_l1Below.ex s p q n hs hp hn
  rw [ha, bind_some_]
  exact ⟨_, rfl, hp2⟩
/-! spec_l19Store -/
theorem spec_l19Store.eq (n : Int) (h : 0 ≤ n ∧ n ≤ 1000) : spec_l19Store.f n = some (1, n, 500 + n, 0) := by
  unfold spec_l19Store.f; rw [wrap_in (by omega) (by omega)]
/-! spec_LogHead -/
theorem spec_LogHead.ev (l : List S86) (hl : l.length ≤ 1048576) : Ev (fun k => spec_LogHead.f k l) (M.logHead l) := by
  unfold spec_LogHead.f
  refine Ev.ite (fun h => ?_) (fun h => ?_)
  · have : l = [] := List.eq_nil_of_length_eq_zero (by omega)
    subst this; exact Ev.now _
  · have hl' : 0 < l.length := by omega
    rw [logHead_get l hl']
    simp only [wrap_pred hl' (by omega : l.length ≤ _), rd_LogEntry (by omega : l.length - 1 < l.length), spec_EntryHash.f]
    refine Ev.yes (by omega) (Ev.yes (by omega) (Ev.bind (Ev.bind (spec_Hash.ev _ (by simp)) (Ev.now _)) (Ev.now _)))
/-! spec_EntryHash -/
theorem spec_EntryHash.ev (e : S86) : Ev (fun k => spec_EntryHash.f k e.f0 e.f1 e.f2 e.f3 e.f4 e.f5) (M.entryHash e) := by
  unfold spec_EntryHash.f; exact Ev.bind (spec_Hash.ev _ (by simp)) (Ev.now _)
/-! spec_SignMessage -/
theorem spec_SignMessage.ev (p : Int) (l : List Int) (hl : l.length ≤ 1000000) : Ev (fun k => spec_SignMessage.f k p l) (M.sign p l) := by
  unfold spec_SignMessage.f M.sign
  simp only [spec_IsValidKey.eq, bind_some_]
  refine Ev.ite (fun h => Ev.yes (by simp; omega) (Ev.bind (spec_KeyedHash.ev _ _ (by simp; omega)) (Ev.eq ?_))) (fun h => Ev.eq ?_)
  · rw [if_pos h]
  · rw [if_neg h]
/-! spec_SignAsDevice -/
theorem spec_SignAsDevice.ev (a b s c : Int) (l : List Int) (hl : l.length ≤ 1000000) : Ev (fun k => spec_SignAsDevice.f k a b s c l) (M.sign (M.devKey s) l) := by
  unfold spec_SignAsDevice.f; exact Ev.bind (spec_l10Device.ev a b s c) (Ev.bind (spec_SignMessage.ev _ _ hl) (Ev.now _))
/-! spec_l19Copy -/
theorem spec_l19Copy.eq (l : List S86) (hl : l.length ≤ 1048577) : spec_l19Copy.f l = some l := by
  unfold spec_l19Copy.f; simp only [bind_some_]; rw [if_pos (by simp; omega)]; rfl
/-! spec_l19Has -/
theorem spec_l19Has.ev (l : List Int) (x : Int) (hl : l.length ≤ 2097152) : Ev (fun k => spec_l19Has.f k l x) (M.has l x) := by
  unfold spec_l19Has.f
  refine Ev.loop (fun k i (_ : Unit) => spec_l19Has.l0 k l x (i : Int)) l.length (fun i _ => M.has (l.drop i) x) (fun _ _ => True) ?_ ?_ 0 () (by omega) trivial
  · rintro s _
    refine Ev.round ?_
    simp only [spec_l19Has.l0]
    exact Ev.no (by omega) (Ev.eq (by rw [drop_end]; rfl))
  · rintro i s hi _ ih
    refine Ev.round ?_
    simp only [spec_l19Has.l0, wrap_succ hi (by omega : l.length ≤ _), rd_get hi]
    rw [drop_get hi]; unfold M.has; rw [List.any_cons]
    refine Ev.yes (by omega) (Ev.yes (by omega) (Ev.ite (fun h => Ev.eq (by rw [h]; simp)) (fun h => Ev.conv (ih () trivial) (by simp only [h, decide_false, Bool.false_or]; rfl))))
/-! spec_DevicesOf -/
theorem spec_DevicesOf.ev (l : List S86) (hl : l.length ≤ 1048577) : Ev (fun k => spec_DevicesOf.f k l) (M.devices l) := by
  unfold spec_DevicesOf.f
  refine Ev.loop (fun k i o => spec_DevicesOf.l0 k l o (i : Int)) l.length (fun i o => (l.drop i).foldl M.devStep o) (fun i o => o.length ≤ i) ?_ ?_ 0 [] (by omega) (by simp)
  · intro o ho
    refine Ev.round ?_
    simp only [spec_DevicesOf.l0]
    exact Ev.no (by omega) (Ev.eq (by rw [drop_end]; rfl))
  · intro i o hi ho ih
    have hsl := devStep_len o l[i]
    have nxt : ∀ o', M.devStep o l[i] = o' → Ev (fun k => spec_DevicesOf.l0 k l o' ((i + 1 : Nat) : Int)) ((l.drop i).foldl M.devStep o) := by
      rintro o' rfl; rw [drop_get hi, List.foldl_cons]; exact ih _ (by omega)
    have rest : l[i].f1 ≠ 1 ∨ M.has o l[i].f2 = true → Ev (fun k => spec_DevicesOf.j1 k l o (i : Int) l[i].f2 false) ((l.drop i).foldl M.devStep o) := by
      intro hc
      refine Ev.round ?_
      simp only [spec_DevicesOf.j1, rd_LogEntry hi, wrap_succ hi (by omega : l.length ≤ _)]
      refine Ev.no (by simp) (Ev.yes (by omega) (Ev.yes (by omega) (Ev.ite (fun h2 => ?_) (fun h2 => nxt _ ?_))))
      · have h1 : l[i].f1 ≠ 1 := by omega
        refine Ev.loop (fun k j x => spec_DevicesOf.l1 k l o (i : Int) l[i].f2 x (j : Int)) o.length (fun _ _ => (l.drop i).foldl M.devStep o) (fun j x => x ++ (o.drop j).filter (fun d => decide (d ≠ l[i].f2)) = o.filter (fun d => decide (d ≠ l[i].f2)) ∧ x.length ≤ j) ?_ ?_ 0 [] (by omega) (by simp)
        · rintro x ⟨hx, _⟩
          rw [drop_end, List.filter_nil, List.append_nil] at hx
          refine Ev.round ?_
          simp only [spec_DevicesOf.l1, wrap_succ hi (by omega : l.length ≤ _)]
          exact Ev.no (by omega) (nxt _ (by unfold M.devStep; rw [if_neg h1, if_pos h2, hx]))
        · rintro j x hj ⟨hx, hxl⟩ ih2
          rw [drop_get hj] at hx
          refine Ev.round ?_
          simp only [spec_DevicesOf.l1, rd_get hj, wrap_succ hj (by omega : o.length ≤ _)]
          refine Ev.yes (by omega) (Ev.yes (by omega) (Ev.ite (fun h3 => ih2 _ ⟨?_, by omega⟩) (fun h3 => Ev.yes (by omega) (ih2 _ ⟨?_, by simp; omega⟩))))
          · rw [filter_cons_drop h3] at hx; exact hx
          · rw [filter_cons_keep h3] at hx; rw [List.append_assoc]; exact hx
      · unfold M.devStep
        by_cases h1 : l[i].f1 = 1
        · rw [if_pos h1, if_pos (hc.resolve_left (fun h => h h1))]
        · rw [if_neg h1, if_neg h2]
    refine Ev.round ?_
    simp only [spec_DevicesOf.l0, rd_LogEntry hi]
    refine Ev.yes (by omega) (Ev.yes (by omega) (Ev.ite (fun h1 => Ev.bind (spec_l19Has.ev o _ (by omega)) ?_) (fun h1 => rest (.inl h1))))
    cases hh : M.has o l[i].f2 with
    | true => exact rest (.inr hh)
    | false =>
      refine Ev.round ?_
      simp only [spec_DevicesOf.j1, wrap_succ hi (by omega : l.length ≤ _)]
      refine Ev.yes (by trivial) (Ev.yes (by omega) (nxt _ ?_))
      unfold M.devStep; rw [if_pos h1, if_neg (by rw [hh]; simp)]
/-! spec_l6Power -/
theorem spec_l6Power.ev : Ev (fun k => spec_l6Power.f k 48271 2147483645) M.inv := Ev.of (k := 40) (fun k => spec_l6Power.mono _ _ k) (by decide +kernel)
/-! spec_PrivateKey -/
theorem spec_PrivateKey.ev (a : Int) : Ev (fun k => spec_PrivateKey.f k a) (M.priv a) := by
  unfold spec_PrivateKey.f
  refine Ev.bindc (spec_l1In.eq ..) (Ev.ite (fun h => ?_) (fun h => ?_))
  · have h' := inr_true.1 h
    refine Ev.bind spec_l6Power.ev ?_
    have e : Int.tmod (wrap64 (a * M.inv)) 2147483647 = M.priv a := by
      unfold M.priv M.inv; rw [if_pos (show M.validKey a = true from h), wrap_in (by omega) (by omega), Int.tmod_eq_emod_of_nonneg (by omega)]
    simp only [e, spec_PublicKey.eq, bind_some_]
    exact Ev.yes (priv_valid h).2 (Ev.now _)
  · exact Ev.eq (by unfold M.priv; rw [if_neg (show ¬ M.validKey a = true from h)])
/-! spec_VerifySignature -/
theorem spec_VerifySignature.ev (q : Int) (l : List Int) (s : Int) (hl : l.length ≤ 1000000) : Ev (fun k => spec_VerifySignature.f k q l s) (M.verify q l s) := by
  unfold spec_VerifySignature.f M.verify
  refine Ev.bind (spec_PrivateKey.ev q) (Ev.ite (fun h => Ev.eq (by simp [h])) (fun h => Ev.bind (spec_SignMessage.ev _ l hl) (Ev.eq ?_)))
  simp only [h, ne_eq, not_false_eq_true, decide_true, Bool.true_and]; rfl
/-! spec_l19Step -/
theorem spec_l19Step.ev (b : List S86) (e : S86) (hb : b.length ≤ 1048576) : Ev (fun k => spec_l19Step.f k b e.f0 e.f1 e.f2 e.f3 e.f4 e.f5) (M.stepOk b e) := by
  unfold spec_l19Step.f
  have hdl := devices_len b
  have no : M.stepOk b e = false → Ev (fun k => spec_l19Step.j1 k b (M.devices b) true e.f0 e.f1 e.f2 e.f3 e.f4 e.f5) (M.stepOk b e) := by
    intro h
    refine Ev.round ?_
    simp only [spec_l19Step.j1]
    exact Ev.yes (by trivial) (Ev.eq h.symm)
  have j0 : ∀ by_ : Bool, by_ = (M.has (M.devices b) e.f3 || (decide (b.length = 0) && decide (e.f3 = e.f2))) → Ev (fun k => spec_l19Step.j0 k b (M.devices b) by_ e.f0 e.f1 e.f2 e.f3 e.f4 e.f5) (M.stepOk b e) := by
    intro by_ hby
    refine Ev.round ?_
    simp only [spec_l19Step.j0]
    refine Ev.ite (fun h1 => Ev.bind (spec_LogHead.ev b hb) (Ev.ite (fun h2 => Ev.ite (fun h3 => Ev.bind (spec_EntryHash.ev e) (Ev.bind (spec_VerifySignature.ev _ _ _ (by simp)) ?_)) (fun h3 => no ?_)) (fun h2 => no ?_))) (fun h1 => no ?_)
    · cases h4 : M.verify e.f3 [M.entryHash e] e.f5 with
      | false => exact no (by unfold M.stepOk; simp [h4])
      | true =>
        have hs : M.stepOk b e = ((decide (e.f1 = 2) && (M.has (M.devices b) e.f2 && decide (1 < (M.devices b).length))) || (decide (e.f1 = 1) && (!M.removed b e.f2 && (!M.has (M.devices b) e.f2 && decide ((M.devices b).length < 6))))) := by
          unfold M.stepOk; rw [← hby, h3, h4, decide_eq_true h1, decide_eq_true h2]; simp
        rw [hs]
        refine Ev.round ?_
        simp only [spec_l19Step.j1]
        refine Ev.no (by simp) (Ev.ite (fun h5 => Ev.bind (spec_l19Has.ev _ _ (by omega)) (Ev.ite (fun h6 => Ev.eq ?_) (fun h6 => Ev.eq ?_))) (fun h5 => ?_))
        · have : decide (((M.devices b).length : Int) > 1) = decide (1 < (M.devices b).length) := by simp only [decide_eq_decide]; omega
          rw [this]; simp [h5, h6]
        · simp [h5, h6]
        · have hs2 : ((decide (e.f1 = 2) && (M.has (M.devices b) e.f2 && decide (1 < (M.devices b).length))) || (decide (e.f1 = 1) && (!M.removed b e.f2 && (!M.has (M.devices b) e.f2 && decide ((M.devices b).length < 6))))) = (!M.removed b e.f2 && (decide (e.f1 = 1) && (!M.has (M.devices b) e.f2 && decide ((M.devices b).length < 6)))) := by
            simp only [h5, decide_false, Bool.false_and, Bool.false_or]
            cases M.removed b e.f2 <;> simp
          rw [hs2]
          refine Ev.loop (fun k i (_ : Unit) => spec_l19Step.l0 k b (M.devices b) (i : Int) e.f0 e.f1 e.f2 e.f3 e.f4 e.f5) b.length (fun i _ => (!M.removed (b.drop i) e.f2 && (decide (e.f1 = 1) && (!M.has (M.devices b) e.f2 && decide ((M.devices b).length < 6))))) (fun _ _ => True) ?_ ?_ 0 () (by omega) trivial
          · rintro _ _
            refine Ev.round ?_
            simp only [spec_l19Step.l0]
            rw [drop_end]
            refine Ev.no (by omega) (Ev.ite (fun h6 => Ev.bind (spec_l19Has.ev _ _ (by omega)) (Ev.ite (fun h7 => Ev.eq ?_) (fun h7 => Ev.eq ?_))) (fun h6 => Ev.eq ?_))
            · simp [h7]
            · have : decide (((M.devices b).length : Int) < 6) = decide ((M.devices b).length < 6) := by simp only [decide_eq_decide]; omega
              rw [this]; simp [M.removed, h6, h7]
            · simp [h6]
          · rintro i _ hi _ ih
            refine Ev.round ?_
            simp only [spec_l19Step.l0, rd_LogEntry hi, wrap_succ hi (by omega : b.length ≤ _)]
            rw [drop_get hi]
            have hr : M.removed (b[i] :: b.drop (i + 1)) e.f2 = ((decide (b[i].f1 = 2) && decide (b[i].f2 = e.f2)) || M.removed (b.drop (i + 1)) e.f2) := by unfold M.removed; rw [List.any_cons]
            rw [hr]
            refine Ev.yes (by omega) (Ev.yes (by omega) (Ev.ite (fun h6 => Ev.ite (fun h7 => Ev.eq ?_) (fun h7 => Ev.conv (ih () trivial) ?_)) (fun h6 => Ev.conv (ih () trivial) ?_)))
            · simp [h6, h7]
            · simp [h6, h7]
            · simp [h6]
    · unfold M.stepOk; rw [← hby, Bool.eq_false_iff.2 h3]; simp
    · unfold M.stepOk; simp [h2]
    · unfold M.stepOk; simp [h1]
  refine Ev.bind (spec_DevicesOf.ev b (by omega)) (Ev.bind (spec_l19Has.ev _ _ (by omega)) (Ev.ite (fun h => j0 _ (by rw [h]; rfl)) (fun h => Ev.ite (fun h2 => j0 _ ?_) (fun h2 => j0 _ ?_))))
  · rw [Bool.eq_false_iff.2 h, decide_eq_true (by omega : b.length = 0)]; rfl
  · rw [Bool.eq_false_iff.2 h, decide_eq_false (by omega : ¬ b.length = 0)]; rfl
/-! spec_VerifyLog -/
theorem spec_VerifyLog.ev (l : List S86) (hl : l.length ≤ 1048577) : Ev (fun k => spec_VerifyLog.f k l) (M.verifyLog l) := by
  unfold spec_VerifyLog.f
  refine Ev.loop (fun k i (_ : Unit) => spec_VerifyLog.l0 k l (i : Int)) l.length (fun _ _ => M.verifyLog l) (fun i _ => ∀ (j : Nat) (h : j < l.length), j < i → M.stepOk (l.take j) l[j] = true) ?_ ?_ 0 () (by omega) (fun j _ h => by omega)
  · rintro _ hinv
    refine Ev.round ?_
    simp only [spec_VerifyLog.l0, spec_l1In.eq, bind_some_]
    refine Ev.no (by omega) (Ev.eq ?_)
    rw [Bool.eq_iff_iff, inr_true, verifyLog_iff]
    exact ⟨fun h => ⟨by omega, fun j hj => hinv j hj hj⟩, fun h => by omega⟩
  · rintro i _ hi hinv ih
    refine Ev.round ?_
    simp only [spec_VerifyLog.l0, rd_LogEntry hi, wrap_succ hi (by omega : l.length ≤ _), Int.toNat_natCast]
    refine Ev.yes (by omega) (Ev.yes (by omega) (Ev.yes (by omega) (Ev.bind (spec_l19Step.ev (l.take i) l[i] (by simp; omega)) (Ev.ite (fun h => ih () ?_) (fun h => Ev.eq (verifyLog_bad hi (Bool.eq_false_iff.2 h)).symm)))))
    intro j hj hji
    by_cases e : j = i
    · subst e; exact h
    · exact hinv j hj (by omega)
/-! spec_AppendEntry -/
theorem spec_AppendEntry.ev (l : List S86) (a b c d s f : Int) (hl : l.length ≤ 1048576) : Ev (fun k => spec_AppendEntry.f k l a b c d s f) (M.appendE l a b s) := by
  unfold spec_AppendEntry.f
  refine Ev.bind (spec_DevicePublic.ev ..) (Ev.bind (spec_LogHead.ev l hl) (Ev.bind (spec_EntryHash.ev ⟨(l.length : Int), a, b, M.pub (M.devKey s), M.logHead l, 0⟩) (Ev.bind (spec_SignAsDevice.ev _ _ _ _ _ (by simp)) (Ev.bindc (spec_l19Copy.eq l (by omega)) ?_))))
  simp only [bind_some_]
  have hv := spec_VerifyLog.ev (l ++ [M.newEntry l a b s]) (by simp; omega)
  refine Ev.yes (by simp; omega) (Ev.ite (fun h => Ev.bind (spec_VerifyLog.ev l (by omega)) (Ev.ite (fun h1 => Ev.bind hv (Ev.ite (fun h2 => ?_) (fun h2 => ?_))) (fun h1 => ?_))) (fun h => Ev.bind hv (Ev.ite (fun h2 => ?_) (fun h2 => ?_))))
  · exact Ev.eq (by unfold M.appendE; rw [if_pos ⟨fun _ => h1, h2⟩]; rfl)
  · rw [spec_l19Copy.eq l (by omega)]; exact Ev.eq (by unfold M.appendE; rw [if_neg (fun hh => h2 hh.2)])
  · rw [spec_l19Copy.eq l (by omega)]; exact Ev.eq (by unfold M.appendE; rw [if_neg (fun hh => h1 (hh.1 (by omega)))])
  · exact Ev.eq (by unfold M.appendE; rw [if_pos ⟨fun h3 => absurd h3 (by omega), h2⟩]; rfl)
  · rw [spec_l19Copy.eq l (by omega)]; exact Ev.eq (by unfold M.appendE; rw [if_neg (fun hh => h2 hh.2)])
/-! spec_l19Log -/
theorem spec_l19Log.ex (s : List Int) (p q n : Int) (hs : s.length ≤ 1048576) (hp : 0 ≤ p) (hn : n ≤ 1000) : EvX (fun k => spec_l19Log.f k s p q n) (fun r => M.drawn r.1 ∧ 0 ≤ r.2.1) := by
  unfold spec_l19Log.f
  refine EvX.bindc (spec_l1Below.ex s p q n hs hp (by omega)) ?_
  rintro ⟨c, p1, q1⟩ ⟨hc, hp1⟩
  simp only at hc hp1 ⊢
  obtain ⟨m, hm⟩ := Int.eq_ofNat_of_zero_le hc.1
  have hm2 : m ≤ 1000 := by omega
  rw [hm]
  have main : ∀ (m : Nat), m ≤ 1000 → ∀ (l : List S86) (p q : Int), M.drawn l → 0 ≤ p → EvX (fun k => spec_l19Log.l0 k l (m : Int) s p q) (fun r => M.drawn r.1 ∧ 0 ≤ r.2.1) := by
    intro m
    induction m with
    | zero =>
      intro _ l p q hl hp
      refine EvX.round ?_
      simp only [spec_l19Log.l0]
      exact EvX.no (by omega) (EvX.now ⟨hl, hp⟩)
    | succ m ih =>
      intro hm l p q hl hp
      have hll := drawn_len hl
      have hw : wrap64 (((m + 1 : Nat) : Int) - 1) = (m : Int) := by rw [wrap_in (by omega) (by omega)]; omega
      have h3 : ∀ (a b i p q : Int), 0 ≤ a ∧ a < 6 → 0 ≤ b ∧ b < 6 → 0 ≤ p → EvX (fun k => spec_l19Log.j3 k l ((m + 1 : Nat) : Int) a b i s p q) (fun r => M.drawn r.1 ∧ 0 ≤ r.2.1) := by
        intro a b i p q ha hb hp
        refine EvX.round ?_
        simp only [spec_l19Log.j3, spec_l19Store.eq a (by omega), spec_l19Store.eq b (by omega), bind_some_, hw]
        exact EvX.bindv (spec_DevicePublic.ev ..) (EvX.bindv (spec_AppendEntry.ev l i _ _ _ _ _ (by omega)) (ih (by omega) _ _ _ (drawn_append hl _ _ _ ha) hp))
      have h2 : ∀ (a b i p q : Int) (o : Bool), 0 ≤ a ∧ a < 6 → 0 ≤ b ∧ b < 6 → 0 ≤ p → EvX (fun k => spec_l19Log.j2 k l ((m + 1 : Nat) : Int) a b i o s p q) (fun r => M.drawn r.1 ∧ 0 ≤ r.2.1) := by
        intro a b i p q o ha hb hp
        refine EvX.round ?_
        simp only [spec_l19Log.j2]
        exact EvX.ite (fun _ => h3 _ _ _ _ _ ha hb hp) (fun _ => h3 _ _ _ _ _ ha hb hp)
      have h1 : ∀ (a b p q : Int), 0 ≤ a ∧ a < 6 → 0 ≤ b ∧ b < 6 → 0 ≤ p → EvX (fun k => spec_l19Log.j1 k l ((m + 1 : Nat) : Int) a b s p q) (fun r => M.drawn r.1 ∧ 0 ≤ r.2.1) := by
        intro a b p q ha hb hp
        refine EvX.round ?_
        simp only [spec_l19Log.j1]
        refine EvX.ite (fun _ => EvX.bindc (spec_l1Once.ex s p q 4 hs hp (by omega)) ?_) (fun _ => h2 _ _ _ _ _ _ ha hb hp)
        rintro ⟨o, p2, q2⟩ hp2
        exact h2 _ _ _ _ _ _ ha hb hp2
      refine EvX.round ?_
      simp only [spec_l19Log.l0]
      refine EvX.yes (by omega) (EvX.bindc (spec_l1Below.ex s p q 6 hs hp (by omega)) ?_)
      rintro ⟨a, p2, q2⟩ ⟨ha, hp2⟩
      refine EvX.bindc (spec_l1Below.ex s p2 q2 6 hs hp2 (by omega)) ?_
      rintro ⟨b, p3, q3⟩ ⟨hb, hp3⟩
      simp only at ha hb hp3 ⊢
      exact EvX.ite (fun _ => h1 _ _ _ _ (by omega) (by omega) hp3) (fun _ => h1 _ _ _ _ (by omega) (by omega) hp3)
  exact main m hm2 [] p1 q1 ⟨.inl rfl, by simp⟩ hp1
/-! spec_DrawLog -/
theorem spec_DrawLog.ex (l : List Int) (hl : l.length ≤ 1048576) : EvX (fun k => spec_DrawLog.f k l) M.drawn := by
  unfold spec_DrawLog.f
  refine EvX.bind (spec_l1New.ex l hl) ?_
  rintro ⟨s, p, q⟩ ⟨rfl, hp⟩
  have hp0 : 0 ≤ p := by simp only at hp; omega
  simp only at hl ⊢
  refine EvX.bindc (spec_l1Size.ex s hl) ?_
  rintro a ⟨ha, ha2⟩
  rw [wrap_in (by omega) (by omega)]
  refine EvX.bind (spec_l19Log.ex s p q _ hl hp0 (by omega)) ?_
  rintro ⟨x, p1, q1⟩ ⟨hx, _⟩
  exact EvX.now hx

/-! the law -/
theorem FnDeviceLogs : ∀ (l0 : List Int), (l0.length ≤ 9223372036854775807 ∧ ∀ x ∈ l0, (Lit.int .u8 x).wf = true) → ∃ k, laws_FnDeviceLogs.f k l0 = some true := by
  intro l h0
  have hb := byt_of h0.2
  apply Ev.rounds (r := true)
  unfold laws_FnDeviceLogs.f
  simp only [laws_big.eq, bind_some_]
  refine Ev.ite (fun _ => Ev.now _) (fun hbig => ?_)
  have hl : l.length ≤ 1048576 := by simp at hbig; omega
  refine Ev.drawn (spec_DrawLog.ex l hl) ?_
  intro x hx
  have hxl := drawn_len hx
  refine Ev.ite (fun h1 => ?_) (fun h1 => ?_)
  · have hnil : x = [] := List.length_eq_zero_iff.1 (by omega)
    subst hnil
    exact Ev.bind (impl_VerifyLog.ev [] (by simp)) (Ev.no (by decide) (Ev.bind (impl_LogHead.ev [] (by simp)) (Ev.yes rfl (Ev.bind (impl_DevicesOf.ev [] (by simp)) (Ev.now _)))))
  · have hv : M.verifyLog x = true := by
      rcases hx.1 with rfl | h
      · simp at h1
      · exact h
    have hpos : 0 < x.length := by omega
    obtain ⟨a, ha, ha0, ha1⟩ := laws_at.ex l hb
    rw [ha]
    simp only [bind_some_, List.nil_append]
    rw [tmod_pos _ _ ha0]
    have hk0 := Int.emod_nonneg a (by omega : (x.length : Int) ≠ 0)
    have hk1 := Int.emod_lt_of_pos a (by omega : 0 < (x.length : Int))
    obtain ⟨n, hn⟩ := Int.eq_ofNat_of_zero_le hk0
    rw [hn] at hk1 ⊢
    have hnx : n < x.length := by omega
    simp only [Int.toNat_natCast, rd_LogEntry hnx]
    refine Ev.yes (by simp; omega) (Ev.bind (spec_DevicePublic.ev ..) (Ev.yes (by omega) (Ev.yes (by omega) (Ev.yes (by simp; omega) (Ev.yes (by omega) ?_)))))
    have hB := impl_VerifyLog.ev (x.set n ⟨x[n].f0, x[n].f1, M.pub (M.devKey 900), x[n].f3, x[n].f4, x[n].f5⟩) (by simp; omega)
    have hS := impl_VerifyLog.ev (x.set n ⟨x[n].f0, x[n].f1, x[n].f2, x[n].f3, x[n].f4, wrap64 (x[n].f5 + 1)⟩) (by simp; omega)
    rw [bad_device hx hnx] at hB
    rw [bad_sign hv hnx] at hS
    generalize x.set n ⟨x[n].f0, x[n].f1, M.pub (M.devKey 900), x[n].f3, x[n].f4, x[n].f5⟩ = xb at hB
    generalize x.set n ⟨x[n].f0, x[n].f1, x[n].f2, x[n].f3, x[n].f4, wrap64 (x[n].f5 + 1)⟩ = xs at hS
    have hc := devices_count hv x.length (Nat.le_refl _)
    rw [List.take_length] at hc
    have hel := epochOf_le x
    have hdl := devices_len x
    refine Ev.loop (fun k i (_ : Unit) => laws_FnDeviceLogs.l0 k x xb xs (((i + 1 : Nat) : Int))) x.length (fun _ _ => true) (fun _ _ => True) ?_ ?_ 0 () (by omega) trivial
    · rintro _ _
      refine Ev.round ?_
      simp only [laws_FnDeviceLogs.l0]
      have hw : wrap64 ((x.length : Int) - 1) = ((x.length - 1 : Nat) : Int) := wrap_pred hpos (by omega)
      simp only [hw, rd_LogEntry (by omega : x.length - 1 < x.length)]
      refine Ev.no (by omega) (Ev.bind hB (Ev.no (by simp) (Ev.bind hS (Ev.no (by simp) (Ev.bind (impl_LogHead.ev x (by omega)) (Ev.yes (by omega) (Ev.yes (by omega) (Ev.bind (impl_EntryHash.ev x[x.length - 1]) (Ev.yes (logHead_get x hpos) (Ev.bind (impl_DevicesOf.ev x (by omega)) (Ev.yes (by omega) (Ev.bind (impl_DevicesOf.ev x (by omega)) (Ev.bind (impl_EpochOf.ev x (by omega)) (Ev.eq ?_))))))))))))))
      rw [wrap_in (n := 2 * (M.epochOf x : Int)) (by omega) (by omega), wrap_in (by omega) (by omega), beq_iff_eq]; omega
    · rintro i _ hi _ ih
      have hw1 : wrap64 (((i + 1 : Nat) : Int) - 1) = (i : Int) := by rw [wrap_in (by omega) (by omega)]; omega
      have hw2 : wrap64 (((i + 1 : Nat) : Int) + 1) = ((i + 1 + 1 : Nat) : Int) := by rw [wrap_in (by omega) (by omega)]; omega
      have hV := impl_VerifyLog.ev (x.take (i + 1)) (by simp; omega)
      rw [verify_take hv (by omega) (by omega)] at hV
      have hE := impl_ExtendsLog.ev x (x.take (i + 1)) (by omega) (by simp; omega)
      rw [extends_take] at hE
      have hE2 := impl_ExtendsLog.ev (x.take i) (x.take (i + 1)) (by simp; omega) (by simp; omega)
      rw [extends_short (by simp; omega)] at hE2
      refine Ev.round ?_
      simp only [laws_FnDeviceLogs.l0, hw1, hw2, Int.toNat_natCast]
      exact Ev.yes (by omega) (Ev.yes (by omega) (Ev.bind hV (Ev.yes rfl (Ev.bind hE (Ev.yes rfl (Ev.yes (by omega) (Ev.yes (by omega) (Ev.bind hE2 (Ev.no (by simp) (ih () trivial))))))))))
end Go.Proofs.Ytgcipecdaimjfaa.Pure
