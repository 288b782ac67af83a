/- The program's AppendEntry returns what the reference's returns, for all arguments. -/
import Derived.Test.YtpgjecknkmmnhaaOpFnExactAppendEntry
import Derived.Test.YtpgjecknkmmnhaaTFnExactAppendEntry
namespace Go.Proofs.Ytpgjecknkmmnhaa.Pure
open Go.RowKit Go.Proofs.Ytpgjecknkmmnhaa.PFnExactAppendEntry Go.Proofs.YtpgjecknkmmnhaaW.PrintWords Go.Proofs.YtpgjecknkmmnhaaW.PrintLast
set_option linter.unusedVariables false
set_option linter.unusedSimpArgs false

/-! base -/
theorem wrap_in {n : Int} (h1 : -9223372036854775808 ≤ n) (h2 : n ≤ 9223372036854775807) : wrap64 n = n := by unfold wrap64; omega
theorem wrap_succ {i n : Nat} (h : i < n) (hn : n ≤ 1152921504606846976) : wrap64 ((i : Int) + 1) = ((i + 1 : Nat) : Int) := by unfold wrap64; omega
theorem wrap_pred {i : Nat} (h : 0 < i) (hn : i ≤ 1152921504606846976) : wrap64 ((i : Int) - 1) = ((i - 1 : Nat) : Int) := by unfold wrap64; omega
theorem Ev.eq {α : Type} {r s : α} (h : r = s) : Ev (fun _ => some r) s := h ▸ Ev.now r
theorem Ev.opt {α : Type} {o : Option α} {r : α} (h : o = some r) : Ev (fun _ => o) r := h ▸ Ev.now r
theorem Ev.yes {α : Type} {c : Prop} [Decidable c] {g f : Nat → Option α} {r : α} (h : c) (k : Ev g r) : Ev (fun n => if c then g n else f n) r := by simpa [h] using k
theorem Ev.no {α : Type} {c : Prop} [Decidable c] {g f : Nat → Option α} {r : α} (h : ¬ c) (k : Ev f r) : Ev (fun n => if c then g n else f n) r := by simpa [h] using k
theorem Ev.ite {α : Type} {c : Prop} [Decidable c] {g f : Nat → Option α} {r : α} (h : c → Ev g r) (k : ¬ c → Ev f r) : Ev (fun n => if c then g n else f n) r := by
  by_cases hc : c
  · exact Ev.yes hc (h hc)
  · exact Ev.no hc (k hc)
theorem Ev.bindc {α β : Type} {o : Option α} {a : α} {f : Nat → α → Option β} {r : β} (h : o = some a) (k : Ev (fun n => f n a) r) : Ev (fun n => o.bind (f n)) r := by subst h; exact k
theorem Ev.round {α : Type} {g : Nat → Option α} {r : α} (h : Ev (fun k => g (k + 1)) r) : Ev g r := Ev.step (fun _ => rfl) h
theorem Ev.conv {α : Type} {g : Nat → Option α} {r s : α} (k : Ev g r) (h : r = s) : Ev g s := h ▸ k
theorem bind_some_ {α β : Type} (a : α) (f : α → Option β) : (some a).bind f = f a := rfl
/-- A loop that counts: from each place on, the answer is what 'val' says. -/
theorem Ev.loop {σ β : Type} (g : Nat → Nat → σ → Option β) (n : Nat) (val : Nat → σ → β) (Inv : Nat → σ → Prop)
    (done : ∀ s, Inv n s → Ev (fun k => g k n s) (val n s))
    (step : ∀ i s, i < n → Inv i s → (∀ s', Inv (i + 1) s' → Ev (fun k => g k (i + 1) s') (val (i + 1) s')) → Ev (fun k => g k i s) (val i s)) :
    ∀ i s, i ≤ n → Inv i s → Ev (fun k => g k i s) (val i s) := by
  have : ∀ d i s, i + d = n → Inv i s → Ev (fun k => g k i s) (val i s) := by
    intro d
    induction d with
    | zero =>
      intro i s hi hs
      obtain rfl : i = n := by omega
      exact done s hs
    | succ d ih => intro i s hi hs; exact step i s (by omega) hs (fun s' hs' => ih (i + 1) s' (by omega) hs')
  intro i s hi hs
  exact this (n - i) i s (by omega) hs
theorem getD_lt {α : Type} {l : List α} {i : Nat} (h : i < l.length) (d : α) : l.getD i d = l[i] := by simp [List.getD_eq_getElem?_getD, h]
theorem rd_get {l : List Int} {i : Nat} (h : i < l.length) : rd l (i : Int) = l[i] := by unfold rd; exact getD_lt h _
theorem take_fill {α β : Type} (f : α → β) (l : List α) (z : β) {i : Nat} (h : i < l.length) :
    ((l.take i).map f ++ List.replicate (l.length - i) z).set i (f l[i]) = (l.take (i + 1)).map f ++ List.replicate (l.length - (i + 1)) z := by
  have e : l.length - i = (l.length - (i + 1)) + 1 := by omega
  rw [e, List.replicate_succ, List.set_append_right _ _ (by simp; omega)]
  have : i - (List.map f (List.take i l)).length = 0 := by simp; omega
  rw [this, List.set_cons_zero, List.take_succ_eq_append_getElem h, List.map_append]
  simp
theorem fill_len {α β : Type} (f : α → β) (l : List α) (z : β) {i : Nat} (h : i ≤ l.length) : ((l.take i).map f ++ List.replicate (l.length - i) z).length = l.length := by simp; omega
theorem fill_end {α β : Type} (f : α → β) (l : List α) (z : β) : (l.take l.length).map f ++ List.replicate (l.length - l.length) z = l.map f := by simp
theorem drop_get {α : Type} {l : List α} {i : Nat} (h : i < l.length) : l.drop i = l[i] :: l.drop (i + 1) := List.drop_eq_getElem_cons h
theorem drop_end {α : Type} (l : List α) : l.drop l.length = [] := List.drop_eq_nil_of_le (Nat.le_refl _)
/-! mod -/
def M.mod (a m : Int) : Int := if 1 ≤ m ∧ m ≤ 1000000000000 then a % m else 0
theorem tmod_bounds (a m : Int) (h : 1 ≤ m) : -m < Int.tmod a m ∧ Int.tmod a m < m := by
  have h1 := Int.tmod_lt_of_pos a (by omega : 0 < m)
  have h2 := Int.lt_tmod_of_pos a (by omega : 0 < m)
  exact ⟨h2, h1⟩
theorem tmod_emod (a m : Int) (h : 1 ≤ m) : Int.tmod a m = if Int.tmod a m < 0 then a % m - m else a % m := by
  rw [Int.tmod_eq_emod]
  have := Int.emod_nonneg a (by omega : m ≠ 0)
  have := Int.emod_lt_of_pos a (by omega : 0 < m)
  have e : ((m.natAbs : Nat) : Int) = m := by omega
  by_cases h0 : 0 ≤ a ∨ m ∣ a
  · rw [if_pos h0]
    split <;> omega
  · rw [if_neg h0, e]
    split <;> omega
theorem tmod_pos (a m : Int) (h : 0 ≤ a) : Int.tmod a m = a % m := Int.tmod_eq_emod_of_nonneg h
theorem mod_add_self (a m : Int) (h : 1 ≤ m) : Int.tmod (Int.tmod a m + m) m = a % m := by
  have hb := tmod_bounds a m h
  have := Int.emod_nonneg a (by omega : m ≠ 0)
  have := Int.emod_lt_of_pos a (by omega : 0 < m)
  rw [tmod_pos _ _ (by omega)]
  have e := tmod_emod a m h
  by_cases hn : Int.tmod a m < 0
  · rw [if_pos hn] at e; rw [e, show a % m - m + m = a % m by omega, Int.emod_emod_of_dvd _ (Int.dvd_refl m)]
  · rw [if_neg hn] at e; rw [e, Int.add_emod_right, Int.emod_emod_of_dvd _ (Int.dvd_refl m)]
/-! hash -/
def M.hstep (h v : Int) : Int := (h * 1000003 + v % 2147483647 + 13) % 2147483647
def M.hash (l : List Int) : Int := l.foldl M.hstep 11
theorem hstep_bounds (h v : Int) : 0 ≤ M.hstep h v ∧ M.hstep h v < 2147483647 := ⟨Int.emod_nonneg _ (by decide), Int.emod_lt_of_pos _ (by decide)⟩
theorem hstep_eq (h v : Int) (h0 : 0 ≤ h) (h1 : h < 2147483647) : Int.tmod (wrap64 ((wrap64 ((wrap64 (h * 1000003)) + M.mod v 2147483647)) + 13)) 2147483647 = M.hstep h v := by
  have e : M.mod v 2147483647 = v % 2147483647 := by unfold M.mod; rw [if_pos (by omega)]
  have := Int.emod_nonneg v (by decide : (2147483647 : Int) ≠ 0)
  have := Int.emod_lt_of_pos v (by decide : 0 < (2147483647 : Int))
  rw [e, wrap_in (n := h * 1000003) (by omega) (by omega), wrap_in (n := _ + v % 2147483647) (by omega) (by omega), wrap_in (by omega) (by omega), tmod_pos _ _ (by omega)]
  rfl
theorem hash_bounds (l : List Int) : 0 ≤ M.hash l ∧ M.hash l < 2147483647 := by
  unfold M.hash
  have : ∀ (l : List Int) (h : Int), 0 ≤ h ∧ h < 2147483647 → 0 ≤ l.foldl M.hstep h ∧ l.foldl M.hstep h < 2147483647 := by
    intro l
    induction l with
    | nil => intro h hh; exact hh
    | cons x l ih => intro h hh; exact ih _ (hstep_bounds _ _)
  exact this l 11 (by omega)
/-! keyed -/
def M.keyed (a : Int) (l : List Int) : Int := M.hash ([a] ++ l ++ [a])
theorem keyed_bounds (a : Int) (l : List Int) : 0 ≤ M.keyed a l ∧ M.keyed a l < 2147483647 := hash_bounds _
/-! derive -/
def M.orOne (a : Int) : Int := if a = 0 then 1 else a
def M.derive (a : Int) (l : List Int) : Int := M.orOne (M.keyed a ([151] ++ l))
theorem orOne_max (a : Int) (h : 0 ≤ a) : (if a > 1 then a else 1) = M.orOne a := by unfold M.orOne; split <;> split <;> omega
theorem orOne_bounds (a : Int) (h : 0 ≤ a ∧ a < 2147483647) : 1 ≤ M.orOne a ∧ M.orOne a < 2147483647 := by unfold M.orOne; split <;> omega
theorem derive_bounds (a : Int) (l : List Int) : 1 ≤ M.derive a l ∧ M.derive a l < 2147483647 := orOne_bounds _ (keyed_bounds _ _)
/-! inrange -/
def M.inr (a b c : Int) : Bool := decide (b ≤ a ∧ a ≤ c)
theorem inr_true {a b c : Int} : M.inr a b c = true ↔ b ≤ a ∧ a ≤ c := by simp [M.inr]
/-! validkey -/
def M.validKey (a : Int) : Bool := M.inr a 1 2147483646
def M.pub (a : Int) : Int := if M.validKey a = true then a * 48271 % 2147483647 else 0
def M.inv : Int := 1899818559
def M.priv (a : Int) : Int := if M.validKey a = true then a * M.inv % 2147483647 else 0
theorem priv_valid {a : Int} (h : M.validKey a = true) : M.validKey (M.priv a) = true ∧ M.pub (M.priv a) = a := by
  have h' := inr_true.1 h
  have e : M.priv a = a * 1899818559 % 2147483647 := by unfold M.priv M.inv; rw [if_pos h]
  have h2 : (a * 1899818559 % 2147483647) * 48271 % 2147483647 = a := by omega
  have h3 : M.validKey (M.priv a) = true := by rw [e]; exact inr_true.2 (by omega)
  refine ⟨h3, ?_⟩
  unfold M.pub; rw [if_pos h3, e]; exact h2
theorem pub_valid {a : Int} (h : M.validKey a = true) : M.validKey (M.pub a) = true ∧ M.priv (M.pub a) = a := by
  have h' := inr_true.1 h
  have e : M.pub a = a * 48271 % 2147483647 := by unfold M.pub; rw [if_pos h]
  have h2 : (a * 48271 % 2147483647) * 1899818559 % 2147483647 = a := by omega
  have h3 : M.validKey (M.pub a) = true := by rw [e]; exact inr_true.2 (by omega)
  refine ⟨h3, ?_⟩
  unfold M.priv M.inv; rw [if_pos h3, e]; exact h2
theorem priv_ne {a : Int} : M.priv a = 0 ↔ M.validKey a = false := by
  cases h : M.validKey a with
  | true =>
    have := inr_true.1 (priv_valid h).1
    constructor
    · intro h0; omega
    · intro h0; cases h0
  | false => simp [M.priv, h]
/-! sign -/
def M.sign (p : Int) (l : List Int) : Int := if M.validKey p = true then M.keyed p ([139, (l.length : Int)] ++ l) else 0
def M.verify (q : Int) (l : List Int) (s : Int) : Bool := decide (M.priv q ≠ 0) && decide (M.sign (M.priv q) l = s)
/-! devkey -/
def M.devKey (s : Int) : Int := M.derive s [181]
/-! has -/
def M.has (l : List Int) (x : Int) : Bool := l.any fun y => decide (y = x)
theorem has_iff (l : List Int) (x : Int) : M.has l x = true ↔ x ∈ l := by simp [M.has]
/-! rd-LogEntry -/
theorem rd_LogEntry {l : List S74} {i : Nat} (h : i < l.length) : rd_T74 l (i : Int) = l[i] := by unfold rd_T74; exact getD_lt h _
/-! devices -/
def M.devStep (out : List Int) (e : S74) : List Int :=
  if e.f1 = 1 then (if M.has out e.f2 = true then out else out ++ [e.f2]) else if e.f1 = 2 then out.filter (fun d => decide (d ≠ e.f2)) else out
def M.devices (l : List S74) : List Int := l.foldl M.devStep []
theorem devStep_len (out : List Int) (e : S74) : (M.devStep out e).length ≤ out.length + 1 := by
  unfold M.devStep
  have := List.length_filter_le (fun d => decide (d ≠ e.f2)) out
  split
  · split <;> simp
  · split <;> omega
theorem devices_len (l : List S74) : (M.devices l).length ≤ l.length := by
  have : ∀ (l : List S74) (o : List Int), (l.foldl M.devStep o).length ≤ o.length + l.length := by
    intro l
    induction l with
    | nil => intro o; simp
    | cons e l ih => intro o; have := ih (M.devStep o e); have := devStep_len o e; simp; omega
  have := this l []; simpa [M.devices] using this
theorem filter_cons_keep {l : List Int} {d x : Int} (h : x ≠ d) : (x :: l).filter (fun y => decide (y ≠ d)) = x :: l.filter (fun y => decide (y ≠ d)) := List.filter_cons_of_pos (by simpa using h)
theorem filter_cons_drop {l : List Int} {d x : Int} (h : x = d) : (x :: l).filter (fun y => decide (y ≠ d)) = l.filter (fun y => decide (y ≠ d)) := List.filter_cons_of_neg (by simpa using h)
/-! loghead -/
def M.entryHash (e : S74) : Int := M.hash [229, e.f0, e.f1, e.f2, e.f3, e.f4]
def M.logHead (l : List S74) : Int := match l.getLast? with | none => 0 | some e => M.entryHash e
theorem logHead_get (l : List S74) (h : 0 < l.length) : M.logHead l = M.entryHash l[l.length - 1] := by
  unfold M.logHead
  rw [List.getLast?_eq_getElem?, List.getElem?_eq_getElem (by omega)]
/-! stepok -/
def M.removed (l : List S74) (d : Int) : Bool := l.any fun e => decide (e.f1 = 2) && decide (e.f2 = d)
/-- Whether an entry may follow others. -/
def M.stepOk (b : List S74) (e : S74) : Bool :=
  decide (e.f0 = b.length) && (decide (e.f4 = M.logHead b) && ((M.has (M.devices b) e.f3 || (decide (b.length = 0) && decide (e.f3 = e.f2))) &&
    (M.verify e.f3 [M.entryHash e] e.f5 && ((decide (e.f1 = 2) && (M.has (M.devices b) e.f2 && decide (1 < (M.devices b).length))) || (decide (e.f1 = 1) && (!M.removed b e.f2 && (!M.has (M.devices b) e.f2 && decide ((M.devices b).length < 6))))))))
def M.verifyLog (l : List S74) : Bool := decide (1 ≤ l.length ∧ l.length ≤ 40) && decide (∀ i : Fin l.length, M.stepOk (l.take i.val) l[i.val] = true)
theorem verifyLog_iff (l : List S74) : M.verifyLog l = true ↔ (1 ≤ l.length ∧ l.length ≤ 40) ∧ ∀ (i : Nat) (h : i < l.length), M.stepOk (l.take i) l[i] = true := by
  unfold M.verifyLog
  rw [Bool.and_eq_true, decide_eq_true_eq, decide_eq_true_eq]
  exact ⟨fun h => ⟨h.1, fun i hi => h.2 ⟨i, hi⟩⟩, fun h => ⟨h.1, fun i => h.2 i.val i.isLt⟩⟩
theorem verifyLog_bad {l : List S74} {i : Nat} (h : i < l.length) (hs : M.stepOk (l.take i) l[i] = false) : M.verifyLog l = false := by
  rw [Bool.eq_false_iff]; intro hv
  have := ((verifyLog_iff l).1 hv).2 i h
  rw [hs] at this; cases this
/-! append -/
def M.newEntry (l : List S74) (a b s : Int) : S74 :=
  let e : S74 := ⟨(l.length : Int), a, b, M.pub (M.devKey s), M.logHead l, 0⟩
  ⟨(l.length : Int), a, b, M.pub (M.devKey s), M.logHead l, M.sign (M.devKey s) [M.entryHash e]⟩
def M.appendE (l : List S74) (a b s : Int) : List S74 × Bool :=
  if (0 < l.length → M.verifyLog l = true) ∧ M.verifyLog (l ++ [M.newEntry l a b s]) = true then (l ++ [M.newEntry l a b s], true) else (l, false)
theorem appendE_len (l : List S74) (a b s : Int) (hl : l.length ≤ 1048576) : (M.appendE l a b s).1.length ≤ 1048576 := by
  unfold M.appendE; split
  · rename_i h; have := ((verifyLog_iff _).1 h.2).1.2; simp only; omega
  · exact hl
/-! joined -/
def M.joined (l : List Int) (ls : List (List Int)) : List Int := l ++ ls.flatten
/-! impl_joined -/
theorem rdL_get {ls : List (List Int)} {i : Nat} (h : i < ls.length) : rd_L2 ls (i : Int) = ls[i] := by unfold rd_L2; exact getD_lt h _
theorem impl_joined.evl (ls : List (List Int)) (hn : ls.length ≤ 1000000) : ∀ (d i : Nat) (x : List Int), i + d = ls.length → x.length + ((ls.drop i).flatten).length < 17592186044416 →
    Ev (fun k => impl_joined.l0 k x ls ls.length i) (x ++ (ls.drop i).flatten) := by
  intro d
  induction d with
  | zero =>
    intro i x hi hx
    refine Ev.round ?_
    simp only [impl_joined.l0]
    exact Ev.no (by omega) (Ev.eq (by rw [List.drop_eq_nil_of_le (by omega)]; simp))
  | succ d ih =>
    intro i x hi hx
    rw [drop_get (by omega : i < ls.length)] at hx ⊢
    simp only [List.flatten_cons, List.length_append] at hx
    refine Ev.round ?_
    simp only [impl_joined.l0, rdL_get (by omega : i < ls.length), wrap_succ (by omega : i < ls.length) (by omega : ls.length ≤ _)]
    refine Ev.yes (by omega) (Ev.yes (by omega) (Ev.yes (by omega) (Ev.yes (by omega) ?_)))
    rw [List.flatten_cons, ← List.append_assoc]
    exact ih (i + 1) (x ++ ls[i]) (by omega) (by simp only [List.length_append]; omega)
theorem impl_joined.ev (l : List Int) (ls : List (List Int)) (hn : ls.length ≤ 1000000) (hl : l.length + (ls.flatten).length < 17592186044416) : Ev (fun k => impl_joined.f k l ls) (M.joined l ls) := by
  unfold impl_joined.f
  simp only [Option.bind_some]
  refine Ev.yes (by simp; omega) ?_
  have := impl_joined.evl ls hn ls.length 0 ([] ++ l) (by omega) (by simpa using hl)
  simpa [M.joined] using this
/-! impl_Mod -/
theorem impl_Mod.eq (k : Nat) (a m : Int) : impl_Mod.f (k + 1) a m = some (M.mod a m) := by
  unfold impl_Mod.f M.mod
  by_cases h : m < 1
  · rw [if_pos h, if_neg (by omega)]; simp only [impl_Mod.j0]; simp
  · rw [if_neg h]; simp only [impl_Mod.j0]
    by_cases h2 : m > 1000000000000
    · rw [if_pos (by simp [h2]), if_neg (by omega)]
    · have e := tmod_emod a m (by omega)
      have hb := tmod_bounds a m (by omega)
      rw [if_neg (by simp [h2]), if_neg (by omega), if_pos (⟨by omega, by omega⟩ : 1 ≤ m ∧ m ≤ 1000000000000)]
      by_cases hn : Int.tmod a m < 0
      · rw [if_pos hn, wrap_in (by omega) (by omega)]; rw [if_pos hn] at e; rw [e]; congr 1; omega
      · rw [if_neg hn] at e; rw [if_neg hn, e]
theorem impl_Mod.ev (a m : Int) : Ev (fun k => impl_Mod.f k a m) (M.mod a m) := Ev.step (f := fun _ => some (M.mod a m)) (impl_Mod.eq · a m) (Ev.now _)
/-! impl_Hash -/
theorem impl_Hash.ev (l : List Int) (hl : l.length ≤ 140737488355328) : Ev (fun k => impl_Hash.f k l) (M.hash l) := by
  refine Ev.loop (fun k i h => impl_Hash.l0 k h l l.length (i : Int)) l.length (fun i h => (l.drop i).foldl M.hstep h) (fun _ h => 0 ≤ h ∧ h < 2147483647) ?_ ?_ 0 11 (by omega) (by omega)
  · intro h _
    refine Ev.round ?_
    simp only [impl_Hash.l0]
    refine Ev.no (by omega) (Ev.eq (by rw [drop_end]; rfl))
  · intro i h hi hh ih
    refine Ev.round ?_
    simp only [impl_Hash.l0, wrap_succ hi (by omega : l.length ≤ _)]
    refine Ev.yes (by omega) (Ev.yes (by omega) (Ev.yes (by omega) (Ev.bind (impl_Mod.ev _ _) ?_)))
    rw [drop_get hi, rd_get hi, hstep_eq _ _ hh.1 hh.2]
    exact ih _ (hstep_bounds _ _)
/-! impl_KeyedHash -/
theorem impl_KeyedHash.ev (a : Int) (l : List Int) (hl : l.length ≤ 1000000000000) : Ev (fun k => impl_KeyedHash.f k a l) (M.keyed a l) := by
  unfold impl_KeyedHash.f
  refine Ev.bind (impl_joined.ev _ _ (by simp) (by simp; omega)) (Ev.bind (impl_Hash.ev _ (by simp [M.joined]; omega)) (Ev.eq ?_))
  simp [M.joined, M.keyed]
/-! impl_orOne -/
theorem impl_orOne.eq (a : Int) : impl_orOne.f a = some (M.orOne a) := by unfold impl_orOne.f M.orOne; split <;> rfl
/-! impl_DeriveKey -/
theorem impl_DeriveKey.ev (a : Int) (l : List Int) (hl : l.length ≤ 100000000000) : Ev (fun k => impl_DeriveKey.f k a l) (M.derive a l) := by
  unfold impl_DeriveKey.f
  refine Ev.bind (impl_joined.ev _ _ (by simp) (by simp; omega)) (Ev.bind (impl_KeyedHash.ev _ _ (by simp [M.joined]; omega)) ?_)
  simp only [impl_orOne.eq, Option.bind_some]
  exact Ev.eq (by simp [M.derive, M.joined])
/-! impl_InRange -/
theorem impl_InRange.eq (a b c : Int) : impl_InRange.f a b c = some (M.inr a b c) := by
  unfold impl_InRange.f M.inr
  by_cases h : b ≤ a
  · rw [if_pos h]; simp [h]
  · rw [if_neg h]
    simp [h]
/-! impl_IsValidKey -/
theorem impl_IsValidKey.eq (a : Int) : impl_IsValidKey.f a = some (M.validKey a) := by unfold impl_IsValidKey.f; rw [impl_InRange.eq]; rfl
/-! impl_PublicKey -/
theorem impl_PublicKey.eq (a : Int) : impl_PublicKey.f a = some (M.pub a) := by
  unfold impl_PublicKey.f M.pub; rw [impl_IsValidKey.eq, bind_some_]
  by_cases h : M.validKey a = true
  · have := inr_true.1 h
    rw [if_pos h, if_pos h, wrap_in (by omega) (by omega), Int.tmod_eq_emod_of_nonneg (by omega)]
  · rw [if_neg h, if_neg h]
/-! impl_DevicePublic -/
theorem impl_DevicePublic.ev (a b s c : Int) : Ev (fun k => impl_DevicePublic.f k a b s c) (M.pub (M.devKey s)) := by
  unfold impl_DevicePublic.f; exact Ev.bind (impl_DeriveKey.ev s _ (by simp)) (Ev.bindc (impl_PublicKey.eq _) (Ev.now _))
/-! impl_LogHead -/
theorem impl_LogHead.ev (l : List S74) (hl : l.length ≤ 1048576) : Ev (fun k => impl_LogHead.f k l) (M.logHead l) := by
  unfold impl_LogHead.f
  refine Ev.ite (fun h => ?_) (fun h => ?_)
  · have : l = [] := List.eq_nil_of_length_eq_zero (by omega)
    subst this; exact Ev.now _
  · have hl' : 0 < l.length := by omega
    rw [logHead_get l hl']
    simp only [wrap_pred hl' (by omega : l.length ≤ _), rd_LogEntry (by omega : l.length - 1 < l.length), impl_EntryHash.f]
    refine Ev.yes (by omega) (Ev.yes (by omega) (Ev.bind (Ev.bind (impl_Hash.ev _ (by simp)) (Ev.now _)) (Ev.now _)))
/-! impl_EntryHash -/
theorem impl_EntryHash.ev (e : S74) : Ev (fun k => impl_EntryHash.f k e.f0 e.f1 e.f2 e.f3 e.f4 e.f5) (M.entryHash e) := by
  unfold impl_EntryHash.f; exact Ev.bind (impl_Hash.ev _ (by simp)) (Ev.now _)
/-! impl_SignMessage -/
theorem impl_SignMessage.ev (p : Int) (l : List Int) (hl : l.length ≤ 1000000) : Ev (fun k => impl_SignMessage.f k p l) (M.sign p l) := by
  unfold impl_SignMessage.f M.sign
  simp only [impl_IsValidKey.eq, bind_some_]
  refine Ev.ite (fun h => Ev.bind (impl_joined.ev _ _ (by simp) (by simp; omega)) (Ev.bind (impl_KeyedHash.ev _ _ (by simp [M.joined]; omega)) (Ev.eq ?_))) (fun h => Ev.eq ?_)
  · rw [if_pos h]; simp [M.joined]
  · rw [if_neg h]
/-! impl_SignAsDevice -/
theorem impl_SignAsDevice.ev (a b s c : Int) (l : List Int) (hl : l.length ≤ 1000000) : Ev (fun k => impl_SignAsDevice.f k a b s c l) (M.sign (M.devKey s) l) := by
  unfold impl_SignAsDevice.f; exact Ev.bind (impl_DeriveKey.ev s _ (by simp)) (Ev.bind (impl_SignMessage.ev _ _ hl) (Ev.now _))
/-! impl_copyLog -/
theorem impl_copyLog.eq (l : List S74) (hl : l.length ≤ 1048577) : impl_copyLog.f l = some l := by
  unfold impl_copyLog.f; simp only [bind_some_]; rw [if_pos (by simp; omega)]; rfl
/-! impl_has -/
theorem impl_has.ev (l : List Int) (x : Int) (hl : l.length ≤ 2097152) : Ev (fun k => impl_has.f k l x) (M.has l x) := by
  unfold impl_has.f
  refine Ev.loop (fun k i (_ : Unit) => impl_has.l0 k x l l.length (i : Int)) l.length (fun i _ => M.has (l.drop i) x) (fun _ _ => True) ?_ ?_ 0 () (by omega) trivial
  · rintro s _
    refine Ev.round ?_
    simp only [impl_has.l0]
    exact Ev.no (by omega) (Ev.eq (by rw [drop_end]; rfl))
  · rintro i s hi _ ih
    refine Ev.round ?_
    simp only [impl_has.l0, wrap_succ hi (by omega : l.length ≤ _), rd_get hi]
    rw [drop_get hi]; unfold M.has; rw [List.any_cons]
    refine Ev.yes (by omega) (Ev.yes (by omega) (Ev.yes (by omega) (Ev.ite (fun h => Ev.eq (by rw [h]; simp)) (fun h => Ev.conv (ih () trivial) (by simp only [h, decide_false, Bool.false_or]; rfl)))))
/-! impl_DevicesOf -/
theorem impl_DevicesOf.ev (l : List S74) (hl : l.length ≤ 1048577) : Ev (fun k => impl_DevicesOf.f k l) (M.devices l) := by
  unfold impl_DevicesOf.f
  refine Ev.loop (fun k i o => impl_DevicesOf.l0 k o l l.length (i : Int)) l.length (fun i o => (l.drop i).foldl M.devStep o) (fun i o => o.length ≤ i) ?_ ?_ 0 [] (by omega) (by simp)
  · intro o ho
    refine Ev.round ?_
    simp only [impl_DevicesOf.l0]
    exact Ev.no (by omega) (Ev.eq (by rw [drop_end]; rfl))
  · intro i o hi ho ih
    have hsl := devStep_len o l[i]
    have nxt : ∀ o', M.devStep o l[i] = o' → Ev (fun k => impl_DevicesOf.l0 k o' l l.length ((i + 1 : Nat) : Int)) ((l.drop i).foldl M.devStep o) := by
      rintro o' rfl; rw [drop_get hi, List.foldl_cons]; exact ih _ (by omega)
    refine Ev.round ?_
    simp only [impl_DevicesOf.l0, rd_LogEntry hi, wrap_succ hi (by omega : l.length ≤ _)]
    refine Ev.yes (by omega) (Ev.yes (by omega) (Ev.yes (by omega) (Ev.ite (fun h1 => Ev.bind (impl_has.ev o _ (by omega)) (Ev.ite (fun h2 => nxt _ ?_) (fun h2 => Ev.yes (by omega) (nxt _ ?_)))) (fun h1 => Ev.ite (fun h2 => ?_) (fun h2 => nxt _ ?_)))))
    · unfold M.devStep; rw [if_pos h1, if_pos h2]
    · unfold M.devStep; rw [if_pos h1, if_neg h2]
    · refine Ev.loop (fun k j x => impl_DevicesOf.l1 k x l l.length (i : Int) o o.length (j : Int) l[i].f0 l[i].f1 l[i].f2 l[i].f3 l[i].f4 l[i].f5) o.length (fun _ _ => (l.drop i).foldl M.devStep o) (fun j x => x ++ (o.drop j).filter (fun d => decide (d ≠ l[i].f2)) = o.filter (fun d => decide (d ≠ l[i].f2)) ∧ x.length ≤ j) ?_ ?_ 0 [] (by omega) (by simp)
      · rintro x ⟨hx, _⟩
        rw [drop_end, List.filter_nil, List.append_nil] at hx
        refine Ev.round ?_
        simp only [impl_DevicesOf.l1, wrap_succ hi (by omega : l.length ≤ _)]
        exact Ev.no (by omega) (nxt _ (by unfold M.devStep; rw [if_neg h1, if_pos h2, hx]))
      · rintro j x hj ⟨hx, hxl⟩ ih2
        rw [drop_get hj] at hx
        refine Ev.round ?_
        simp only [impl_DevicesOf.l1, rd_get hj, wrap_succ hj (by omega : o.length ≤ _)]
        refine Ev.yes (by omega) (Ev.yes (by omega) (Ev.yes (by omega) (Ev.ite (fun h3 => ih2 _ ⟨?_, by omega⟩) (fun h3 => Ev.yes (by omega) (ih2 _ ⟨?_, by simp; omega⟩)))))
        · rw [filter_cons_drop h3] at hx; exact hx
        · rw [filter_cons_keep h3] at hx; rw [List.append_assoc]; exact hx
    · unfold M.devStep; rw [if_neg h1, if_neg h2]
/-! impl_power -/
theorem impl_power.ev : Ev (fun k => impl_power.f k 48271 2147483645 2147483647) M.inv := Ev.of (k := 40) (fun k => impl_power.mono _ _ _ k) (by decide +kernel)
/-! impl_PrivateKey -/
theorem impl_PrivateKey.ev (a : Int) : Ev (fun k => impl_PrivateKey.f k a) (M.priv a) := by
  unfold impl_PrivateKey.f
  refine Ev.bindc (impl_IsValidKey.eq ..) (Ev.ite (fun h => ?_) (fun h => ?_))
  · have h' := inr_true.1 h
    refine Ev.bind impl_power.ev ?_
    have e : Int.tmod (wrap64 (a * M.inv)) 2147483647 = M.priv a := by
      unfold M.priv M.inv; rw [if_pos (show M.validKey a = true from h), wrap_in (by omega) (by omega), Int.tmod_eq_emod_of_nonneg (by omega)]
    rw [e]; exact Ev.now _
  · exact Ev.eq (by unfold M.priv; rw [if_neg h])
/-! impl_VerifySignature -/
theorem impl_VerifySignature.ev (q : Int) (l : List Int) (s : Int) (hl : l.length ≤ 1000000) : Ev (fun k => impl_VerifySignature.f k q l s) (M.verify q l s) := by
  unfold impl_VerifySignature.f M.verify
  refine Ev.bind (impl_PrivateKey.ev q) (Ev.ite (fun h => Ev.eq (by simp [h])) (fun h => Ev.bind (impl_SignMessage.ev _ l hl) (Ev.eq ?_)))
  simp only [h, ne_eq, not_false_eq_true, decide_true, Bool.true_and]; rfl
/-! impl_wasRemoved -/
theorem impl_wasRemoved.ev (l : List S74) (d : Int) (hl : l.length ≤ 1048577) : Ev (fun k => impl_wasRemoved.f k l d) (M.removed l d) := by
  unfold impl_wasRemoved.f
  refine Ev.loop (fun k i (_ : Unit) => impl_wasRemoved.l0 k d l l.length (i : Int)) l.length (fun i _ => M.removed (l.drop i) d) (fun _ _ => True) ?_ ?_ 0 () (by omega) trivial
  · rintro _ _
    refine Ev.round ?_
    simp only [impl_wasRemoved.l0]
    exact Ev.no (by omega) (Ev.eq (by rw [drop_end]; rfl))
  · rintro i _ hi _ ih
    refine Ev.round ?_
    simp only [impl_wasRemoved.l0, rd_LogEntry hi, wrap_succ hi (by omega : l.length ≤ _)]
    rw [drop_get hi]
    have hr : M.removed (l[i] :: l.drop (i + 1)) d = ((decide (l[i].f1 = 2) && decide (l[i].f2 = d)) || M.removed (l.drop (i + 1)) d) := by unfold M.removed; rw [List.any_cons]
    rw [hr]
    refine Ev.yes (by omega) (Ev.yes (by omega) (Ev.yes (by omega) (Ev.ite (fun h6 => Ev.ite (fun h7 => Ev.eq ?_) (fun h7 => Ev.conv (ih () trivial) ?_)) (fun h6 => Ev.conv (ih () trivial) ?_))))
    · simp [h6, h7]
    · simp [h6, h7]
    · simp [h6]
/-! impl_VerifyLog -/
theorem impl_VerifyLog.ev (l : List S74) (hl : l.length ≤ 1048577) : Ev (fun k => impl_VerifyLog.f k l) (M.verifyLog l) := by
  unfold impl_VerifyLog.f
  have no : ¬ (1 ≤ l.length ∧ l.length ≤ 40) → Ev (fun k => impl_VerifyLog.j0 k l true) (M.verifyLog l) := by
    intro h
    refine Ev.round ?_
    simp only [impl_VerifyLog.j0]
    exact Ev.yes (by trivial) (Ev.eq (by unfold M.verifyLog; rw [decide_eq_false h]; rfl))
  refine Ev.ite (fun h => no (by omega)) (fun h => ?_)
  rcases Nat.lt_or_ge 40 l.length with h40 | h40
  · rw [decide_eq_true (by omega : (l.length : Int) > 40)]; exact no (by omega)
  rw [decide_eq_false (by omega : ¬ (l.length : Int) > 40)]
  refine Ev.round ?_
  simp only [impl_VerifyLog.j0]
  refine Ev.no (by simp) ?_
  refine Ev.loop (fun k i (_ : Unit) => impl_VerifyLog.l0 k l l l.length (i : Int)) l.length (fun _ _ => M.verifyLog l) (fun i _ => ∀ (j : Nat) (h : j < l.length), j < i → M.stepOk (l.take j) l[j] = true) ?_ ?_ 0 () (by omega) (fun j _ h => by omega)
  · rintro _ hinv
    refine Ev.round ?_
    simp only [impl_VerifyLog.l0]
    exact Ev.no (by omega) (Ev.eq ((verifyLog_iff l).2 ⟨by omega, fun j hj => hinv j hj hj⟩).symm)
  · rintro i _ hi hinv ih
    have htl : (l.take i).length = i := by simp; omega
    have hdl := devices_len (l.take i)
    have bad : M.stepOk (l.take i) l[i] = false → M.verifyLog l = false := verifyLog_bad hi
    generalize hb : l.take i = b at *
    generalize he : l[i] = e at *
    have out : M.stepOk b e = false → Ev (fun k => impl_VerifyLog.j2 k l b (M.devices b) l l.length (i : Int) true e.f0 e.f1 e.f2 e.f3 e.f4 e.f5) (M.verifyLog l) := by
      intro h
      refine Ev.round ?_
      simp only [impl_VerifyLog.j2]
      exact Ev.yes (by trivial) (Ev.eq (bad h).symm)
    have go : e.f0 = b.length → e.f4 = M.logHead b → (M.has (M.devices b) e.f3 || (decide (b.length = 0) && decide (e.f3 = e.f2))) = true → Ev (fun k => impl_VerifyLog.j2 k l b (M.devices b) l l.length (i : Int) false e.f0 e.f1 e.f2 e.f3 e.f4 e.f5) (M.verifyLog l) := by
      intro h1 h2 h3
      have hs : M.stepOk b e = (M.verify e.f3 [M.entryHash e] e.f5 && ((decide (e.f1 = 2) && (M.has (M.devices b) e.f2 && decide (1 < (M.devices b).length))) || (decide (e.f1 = 1) && (!M.removed b e.f2 && (!M.has (M.devices b) e.f2 && decide ((M.devices b).length < 6)))))) := by
        unfold M.stepOk; rw [h3, decide_eq_true h1, decide_eq_true h2]; simp
      have fin : ((decide (e.f1 = 2) && (M.has (M.devices b) e.f2 && decide (1 < (M.devices b).length))) || (decide (e.f1 = 1) && (!M.removed b e.f2 && (!M.has (M.devices b) e.f2 && decide ((M.devices b).length < 6))))) = true → Ev (fun k => impl_VerifyLog.j3 k l l l.length (i : Int) e.f0 e.f1 e.f2 e.f3 e.f4 e.f5) (M.verifyLog l) := by
        intro h4
        rw [h4, Bool.and_true] at hs
        refine Ev.round ?_
        simp only [impl_VerifyLog.j3, wrap_succ hi (by omega : l.length ≤ _)]
        refine Ev.bind (impl_EntryHash.ev e) (Ev.bind (impl_VerifySignature.ev _ _ _ (by simp)) (Ev.ite (fun h5 => ih () ?_) (fun h5 => Ev.eq (bad (by rw [hs]; exact Bool.eq_false_iff.2 h5)).symm)))
        intro j hj hji
        by_cases eji : j = i
        · subst eji; rw [hb, he, hs]; exact h5
        · exact hinv j hj (by omega)
      refine Ev.round ?_
      simp only [impl_VerifyLog.j2]
      refine Ev.no (by simp) (Ev.ite (fun h4 => Ev.bind (impl_has.ev _ _ (by omega)) (Ev.ite (fun h5 => Ev.eq (bad ?_).symm) (fun h5 => Ev.bind (impl_wasRemoved.ev _ _ (by omega)) (Ev.ite (fun h6 => Ev.eq (bad ?_).symm) (fun h6 => Ev.ite (fun h7 => Ev.eq (bad ?_).symm) (fun h7 => fin ?_)))))) (fun h4 => Ev.ite (fun h5 => Ev.bind (impl_has.ev _ _ (by omega)) (Ev.ite (fun h6 => Ev.ite (fun h7 => Ev.eq (bad ?_).symm) (fun h7 => fin ?_)) (fun h6 => Ev.eq (bad ?_).symm))) (fun h5 => Ev.eq (bad ?_).symm)))
      · rw [hs]; simp [h4, h5]
      · rw [hs]; simp [h4, h6]
      · rw [hs]; have : ¬ (M.devices b).length < 6 := by omega
        simp [h4, this]
      · have : (M.devices b).length < 6 := by omega
        simp at h5 h6; simp [h4, h5, h6, this]
      · rw [hs]; have : ¬ 1 < (M.devices b).length := by omega
        simp [h5, this]
      · have hm := (has_iff _ _).1 h6
        have hp : 0 < (M.devices b).length := List.length_pos_of_mem hm
        have : 1 < (M.devices b).length := by omega
        simp [h5, h6, this]
      · rw [hs]; simp [h5, h6]
      · rw [hs]; simp [h4, h5]
    have he2 : rd_T74 l (i : Int) = e := by rw [rd_LogEntry hi]; exact he
    refine Ev.round ?_
    simp only [impl_VerifyLog.l0, he2, Int.toNat_natCast, bind_some_, hb]
    refine Ev.yes (by omega) (Ev.yes (by omega) (Ev.yes (by omega) (Ev.yes (by omega) (Ev.bind (impl_DevicesOf.ev b (by omega)) (Ev.ite (fun h1 => Ev.bind (impl_LogHead.ev b (by omega)) (Ev.ite (fun h2 => Ev.bind (impl_has.ev _ _ (by omega)) (Ev.ite (fun h3 => go (by omega) h2 (by rw [h3]; rfl)) (fun h3 => Ev.ite (fun h4 => ?_) (fun h4 => out ?_)))) (fun h2 => out ?_))) (fun h1 => out ?_))))))
    · by_cases h5 : e.f3 = e.f2
      · rw [show (!(e.f3 == e.f2)) = false by simp [h5]]
        exact go (by omega) h2 (by rw [decide_eq_true (by omega : b.length = 0), decide_eq_true h5]; simp)
      · rw [show (!(e.f3 == e.f2)) = true by simp [h5]]
        exact out (by unfold M.stepOk; simp only [Bool.eq_false_iff.2 h3, h5, decide_false, Bool.and_false, Bool.or_false, Bool.false_and])
    · unfold M.stepOk; simp only [Bool.eq_false_iff.2 h3, decide_eq_false (by omega : ¬ b.length = 0), Bool.false_and, Bool.or_false, Bool.and_false]
    · unfold M.stepOk; simp only [h2, decide_false, Bool.false_and, Bool.and_false]
    · unfold M.stepOk; rw [decide_eq_false (by omega : ¬ e.f0 = b.length)]; rfl
/-! impl_AppendEntry -/
theorem impl_AppendEntry.ev (l : List S74) (a b c d s f : Int) (hl : l.length ≤ 1048576) : Ev (fun k => impl_AppendEntry.f k l a b c d s f) (M.appendE l a b s) := by
  unfold impl_AppendEntry.f
  have go : (0 < l.length → M.verifyLog l = true) → Ev (fun k => impl_AppendEntry.j0 k l a b false c d s f) (M.appendE l a b s) := by
    intro h1
    refine Ev.round ?_
    simp only [impl_AppendEntry.j0]
    refine Ev.no (by simp) (Ev.bind (impl_DevicePublic.ev ..) (Ev.bind (impl_LogHead.ev l hl) (Ev.bind (impl_EntryHash.ev ⟨(l.length : Int), a, b, M.pub (M.devKey s), M.logHead l, 0⟩) (Ev.bind (impl_SignAsDevice.ev _ _ _ _ _ (by simp)) (Ev.bindc (impl_copyLog.eq l (by omega)) ?_)))))
    simp only [bind_some_]
    have hv := impl_VerifyLog.ev (l ++ [M.newEntry l a b s]) (by simp; omega)
    refine Ev.yes (by simp; omega) (Ev.bind hv (Ev.ite (fun h2 => ?_) (fun h2 => ?_)))
    · exact Ev.eq (by unfold M.appendE; rw [if_pos ⟨h1, h2⟩]; rfl)
    · rw [impl_copyLog.eq l (by omega)]; exact Ev.eq (by unfold M.appendE; rw [if_neg (fun hh => h2 hh.2)])
  refine Ev.ite (fun h => Ev.bind (impl_VerifyLog.ev l (by omega)) ?_) (fun h => go (fun h3 => absurd h3 (by omega)))
  cases h1 : M.verifyLog l with
  | true => exact go (fun _ => h1)
  | false =>
    refine Ev.round ?_
    simp only [impl_AppendEntry.j0, impl_copyLog.eq l (by omega), bind_some_]
    exact Ev.yes (by trivial) (Ev.eq (by unfold M.appendE; rw [if_neg (fun hh => by have := hh.1 (by omega); rw [h1] at this; cases this)]))
/-! laws_eqLogEntryS -/
theorem laws_eqLogEntryS.refl (l : List S74) (hl : l.length ≤ 1048576) : Ev (fun k => laws_eqLogEntryS.f k l l) true := by
  unfold laws_eqLogEntryS.f
  refine Ev.yes rfl ?_
  refine Ev.loop (fun k i (_ : Unit) => laws_eqLogEntryS.l0 k l l (i : Int)) l.length (fun _ _ => true) (fun _ _ => True) ?_ ?_ 0 () (by omega) trivial
  · rintro s _
    refine Ev.round ?_
    simp only [laws_eqLogEntryS.l0]
    exact Ev.no (by omega) (Ev.now _)
  · rintro i s hi _ ih
    refine Ev.round ?_
    simp only [laws_eqLogEntryS.l0, wrap_succ hi (by omega : l.length ≤ _), laws_eqLogEntry.f, if_true, bind_some_]
    exact Ev.yes (by omega) (Ev.yes (by omega) (Ev.yes (by omega) (ih () trivial)))
/-! mark-LogEntry -/
def M.markLogEntry (x : Int) : S74 := ⟨x, x + 1, x + 1 + 1, x + 1 + 1 + 1, x + 1 + 1 + 1 + 1, x + 1 + 1 + 1 + 1 + 1⟩
def M.markedLogEntry (m : Nat) (n : Int) : List S74 := (List.range m).map fun (i : Nat) => M.markLogEntry (n + 6 * (i : Int))
theorem markedLogEntry_len (m : Nat) (n : Int) : (M.markedLogEntry m n).length = m := by simp [M.markedLogEntry]
theorem markedLogEntry_get {m i : Nat} (n : Int) (h : i < (M.markedLogEntry m n).length) : (M.markedLogEntry m n)[i] = M.markLogEntry (n + 6 * (i : Int)) := by simp [M.markedLogEntry]
theorem markedLogEntry_succ (m : Nat) (n : Int) : M.markedLogEntry (m + 1) n = M.markedLogEntry m n ++ [M.markLogEntry (n + 6 * (m : Int))] := by simp [M.markedLogEntry, List.range_succ]
/-! laws_heldLogEntryS -/
theorem laws_heldLogEntryS.ev (m : Nat) (n : Int) (hl : m ≤ 1048576) (hn : 0 ≤ n) (hn2 : n ≤ 1000000000) : Ev (fun k => laws_heldLogEntryS.f k (M.markedLogEntry m n) n) (n + 6 * (m : Int)) := by
  unfold laws_heldLogEntryS.f
  refine Ev.loop (fun k i x => laws_heldLogEntryS.l0 k (M.markedLogEntry m n) x (i : Int)) m (fun _ _ => n + 6 * (m : Int)) (fun i x => x = n + 6 * (i : Int)) ?_ ?_ 0 n (by omega) (by simp)
  · rintro x rfl
    refine Ev.round ?_
    simp only [laws_heldLogEntryS.l0, markedLogEntry_len]
    exact Ev.no (by omega) (Ev.now _)
  · rintro i x hi hx ih
    have w0 : wrap64 (x + 1) = x + 1 := wrap_in (by omega) (by omega)
    have w1 : wrap64 (x + 1 + 1) = x + 1 + 1 := wrap_in (by omega) (by omega)
    have w2 : wrap64 (x + 1 + 1 + 1) = x + 1 + 1 + 1 := wrap_in (by omega) (by omega)
    have w3 : wrap64 (x + 1 + 1 + 1 + 1) = x + 1 + 1 + 1 + 1 := wrap_in (by omega) (by omega)
    have w4 : wrap64 (x + 1 + 1 + 1 + 1 + 1) = x + 1 + 1 + 1 + 1 + 1 := wrap_in (by omega) (by omega)
    have w5 : wrap64 (x + 1 + 1 + 1 + 1 + 1 + 1) = x + 1 + 1 + 1 + 1 + 1 + 1 := wrap_in (by omega) (by omega)
    have e : rd_T74 (M.markedLogEntry m n) (i : Int) = M.markLogEntry x := by rw [rd_LogEntry (by rw [markedLogEntry_len]; exact hi), markedLogEntry_get, ← hx]
    refine Ev.round ?_
    simp only [laws_heldLogEntryS.l0, markedLogEntry_len, wrap_succ hi (by omega : m ≤ _), e, M.markLogEntry, w0, w1, w2, w3, w4, w5, if_true, bne_self_eq_false, Bool.false_eq_true, if_false]
    exact Ev.yes (by omega) (Ev.yes (by omega) (ih _ (by omega)))
/-! laws_markLogEntryS -/
theorem laws_markLogEntryS.ev (l : List S74) (n : Int) (hl : l.length ≤ 1048576) (hn : 0 ≤ n) (hn2 : n ≤ 1000000000) : Ev (fun k => laws_markLogEntryS.f k l n) (n + 6 * (l.length : Int), M.markedLogEntry l.length n) := by
  unfold laws_markLogEntryS.f
  refine Ev.loop (fun k i (s : List S74 × Int) => laws_markLogEntryS.l0 k s.1 s.2 (i : Int)) l.length (fun _ _ => (n + 6 * (l.length : Int), M.markedLogEntry l.length n)) (fun i s => s.1 = M.markedLogEntry i n ++ l.drop i ∧ s.2 = n + 6 * (i : Int)) ?_ ?_ 0 (l, n) (by omega) (by simp [M.markedLogEntry])
  · rintro ⟨s, x⟩ ⟨rfl, rfl⟩
    refine Ev.round ?_
    simp only [laws_markLogEntryS.l0]
    refine Ev.no (by simp [markedLogEntry_len]) (Ev.eq (by simp))
  · rintro i ⟨s, x⟩ hi ⟨hs, hx⟩ ih
    simp only at hs hx ih
    have hsl : s.length = l.length := by rw [hs]; simp [markedLogEntry_len]; omega
    have rdset : ∀ v : S74, rd_T74 (s.set i v) (i : Int) = v := fun v => by rw [rd_LogEntry (by simp; omega)]; simp
    have w0 : wrap64 (x + 1) = x + 1 := wrap_in (by omega) (by omega)
    have w1 : wrap64 (x + 1 + 1) = x + 1 + 1 := wrap_in (by omega) (by omega)
    have w2 : wrap64 (x + 1 + 1 + 1) = x + 1 + 1 + 1 := wrap_in (by omega) (by omega)
    have w3 : wrap64 (x + 1 + 1 + 1 + 1) = x + 1 + 1 + 1 + 1 := wrap_in (by omega) (by omega)
    have w4 : wrap64 (x + 1 + 1 + 1 + 1 + 1) = x + 1 + 1 + 1 + 1 + 1 := wrap_in (by omega) (by omega)
    have w5 : wrap64 (x + 1 + 1 + 1 + 1 + 1 + 1) = x + 1 + 1 + 1 + 1 + 1 + 1 := wrap_in (by omega) (by omega)
    refine Ev.round ?_
    simp only [laws_markLogEntryS.l0, wrap_succ hi (by omega : l.length ≤ _), Int.toNat_natCast, bind_some_, rdset, List.set_set, w0, w1, w2, w3, w4, w5]
    refine Ev.yes (by omega) (Ev.yes (by omega) (ih (_, _) ⟨?_, by simp only; omega⟩))
    rw [markedLogEntry_succ, ← hx, hs, List.set_append_right _ _ (by simp [markedLogEntry_len]), markedLogEntry_len, drop_get hi, Nat.sub_self, List.set_cons_zero, List.append_assoc]
    rfl
/-! sz -/
def M.sz (n : Nat) (a : Int) : Int := if a - n < 0 then -1 else a - n
theorem sz_eq (n : Nat) (a : Int) (ha : 0 ≤ a) (ha2 : a ≤ 1048576) (hn : n ≤ 9223372036854775807) : (if (wrap64 (a - (n : Int))) < 0 then (some (-1)) else (some (wrap64 (a - (n : Int)))) : Option Int) = some (M.sz n a) := by
  rw [wrap_in (by omega) (by omega)]; unfold M.sz; split <;> rfl
theorem sz_over {n : Nat} {a : Int} (h : a < n) : M.sz n a = -1 := by unfold M.sz; rw [if_pos (by omega)]
theorem sz_fits {n : Nat} {a : Int} (h : (n : Int) ≤ a) : M.sz n a = a - n := by unfold M.sz; rw [if_neg (by omega)]
theorem sz_wrap (n : Nat) (a : Int) : (if M.sz n a < 0 then (some (-1)) else (some (M.sz n a)) : Option Int) = some (M.sz n a) := by
  unfold M.sz; split <;> simp_all
theorem sz_add (n m : Nat) (a : Int) : (if M.sz n a < 0 then -1 else M.sz m (M.sz n a)) = M.sz (n + m) a := by
  unfold M.sz; split <;> split <;> simp_all <;> omega
theorem sz_sub (m n : Nat) (x : Int) : M.sz m (x - n) = M.sz (n + m) x := by
  unfold M.sz; rw [show x - n - m = x - ((n + m : Nat) : Int) by omega]
/-- A law's own look at the size of an argument. -/
theorem Ev.size {n : Nat} {a : Int} {f : Nat → Option Bool} (h : (n : Int) ≤ a → Ev f true) : Ev (fun k => if M.sz n a < 0 then some true else f k) true := by
  by_cases hn : (n : Int) ≤ a
  · exact Ev.no (by rw [sz_fits hn]; omega) (h hn)
  · exact Ev.yes (by rw [sz_over (by omega)]; omega) (Ev.now _)
/-! laws_szLogEntryS -/
theorem laws_szLogEntryS.eq (l : List S78) (a : Int) (ha : 0 ≤ a) (ha2 : a ≤ 1048576) (hl : l.length ≤ 9223372036854775807) : laws_szLogEntryS.f l a = some (M.sz l.length a) := by
  unfold laws_szLogEntryS.f; exact sz_eq _ _ ha ha2 hl
/-! rd-lLogEntry -/
theorem rd_lLogEntry {l : List S78} {i : Nat} (h : i < l.length) : rd_T78 l (i : Int) = l[i] := by unfold rd_T78; exact getD_lt h _
/-! laws_toLogEntryS -/
def M.toLogEntry (e : S78) : S74 := ⟨e.f0, e.f1, e.f2, e.f3, e.f4, e.f5⟩
theorem laws_toLogEntryS.ev (l : List S78) (hl : l.length ≤ 1048576) : Ev (fun k => laws_toLogEntryS.f k l) (l.map M.toLogEntry) := by
  unfold laws_toLogEntryS.f
  refine Ev.yes (by omega) (Ev.yes (by omega) ?_)
  refine Ev.loop (fun k i x => laws_toLogEntryS.l0 k l x (i : Int)) l.length (fun _ _ => l.map M.toLogEntry) (fun i x => x = (l.take i).map M.toLogEntry ++ List.replicate (l.length - i) z74) ?_ ?_ 0 _ (by omega) (by simp)
  · rintro s rfl
    refine Ev.round ?_
    simp only [laws_toLogEntryS.l0]
    exact Ev.no (by omega) (Ev.eq (fill_end _ _ _))
  · rintro i s hi rfl ih
    refine Ev.round ?_
    simp only [laws_toLogEntryS.l0, rd_lLogEntry hi, laws_toLogEntry.f, bind_some_, wrap_succ hi (by omega : l.length ≤ _), Int.toNat_natCast]
    refine Ev.yes (by omega) (Ev.yes (by omega) (Ev.yes (by rw [fill_len _ _ _ (by omega)]; omega) ?_))
    exact ih _ (take_fill M.toLogEntry l z74 hi)
/-! spec_l1In -/
theorem spec_l1In.eq (a b c : Int) : spec_l1In.f a b c = some (M.inr a b c) := by
  unfold spec_l1In.f M.inr
  by_cases h : a ≥ b
  · rw [if_pos h]; simp [h]
  · rw [if_neg h]; have : ¬ b ≤ a := by omega
    simp [this]
/-! spec_Mod -/
theorem spec_Mod.eq (a m : Int) : spec_Mod.f a m = some (M.mod a m) := by
  unfold spec_Mod.f M.mod
  rw [spec_l1In.eq]; simp only [Option.bind_some]
  by_cases h : 1 ≤ m ∧ m ≤ 1000000000000
  · have hb := tmod_bounds a m h.1
    rw [if_pos (inr_true.2 h), if_neg (by omega), if_pos h, wrap_in (by omega) (by omega), mod_add_self a m h.1]
  · rw [if_neg (fun h2 => h (inr_true.1 h2)), if_neg h]
/-! spec_Hash -/
theorem spec_Hash.ev (l : List Int) (hl : l.length ≤ 140737488355328) : Ev (fun k => spec_Hash.f k l) (M.hash l) := by
  refine Ev.loop (fun k i h => spec_Hash.l0 k l h (i : Int)) l.length (fun i h => (l.drop i).foldl M.hstep h) (fun _ h => 0 ≤ h ∧ h < 2147483647) ?_ ?_ 0 11 (by omega) (by omega)
  · intro h _
    refine Ev.round ?_
    simp only [spec_Hash.l0]
    refine Ev.no (by omega) (Ev.eq (by rw [drop_end]; rfl))
  · intro i h hi hh ih
    refine Ev.round ?_
    simp only [spec_Hash.l0, spec_Mod.eq, bind_some_, wrap_succ hi (by omega : l.length ≤ _), hstep_eq _ _ hh.1 hh.2]
    refine Ev.yes (by omega) (Ev.yes (by omega) ?_)
    rw [drop_get hi, rd_get hi]
    exact ih _ (hstep_bounds _ _)
/-! spec_KeyedHash -/
theorem spec_KeyedHash.ev (a : Int) (l : List Int) (hl : l.length ≤ 1000000000000) : Ev (fun k => spec_KeyedHash.f k a l) (M.keyed a l) := by
  unfold spec_KeyedHash.f
  simp only [Option.bind_some]
  exact Ev.yes (by simp; omega) (Ev.yes (by simp; omega) (Ev.bind (spec_Hash.ev _ (by simp; omega)) (Ev.now _)))
/-! spec_Max -/
theorem spec_Max.eq (a b : Int) : spec_Max.f a b = some (if b > a then b else a) := by unfold spec_Max.f; split <;> rfl
/-! spec_DeriveKey -/
theorem spec_DeriveKey.ev (a : Int) (l : List Int) (hl : l.length ≤ 100000000000) : Ev (fun k => spec_DeriveKey.f k a l) (M.derive a l) := by
  unfold spec_DeriveKey.f
  simp only [Option.bind_some]
  refine Ev.yes (by simp; omega) (Ev.bind (spec_KeyedHash.ev _ _ (by simp; omega)) ?_)
  simp only [spec_Max.eq, Option.bind_some]
  exact Ev.eq (orOne_max _ (hash_bounds _).1)
/-! spec_l10Device -/
theorem spec_l10Device.ev (a b s c : Int) : Ev (fun k => spec_l10Device.f k a b s c) (M.devKey s) := by
  unfold spec_l10Device.f; exact Ev.bind (spec_DeriveKey.ev s _ (by simp)) (Ev.now _)
/-! spec_IsValidKey -/
theorem spec_IsValidKey.eq (a : Int) : spec_IsValidKey.f a = some (M.validKey a) := by unfold spec_IsValidKey.f; rw [spec_l1In.eq]; rfl
/-! spec_PublicKey -/
theorem spec_PublicKey.eq (a : Int) : spec_PublicKey.f a = some (M.pub a) := by
  unfold spec_PublicKey.f M.pub; rw [spec_IsValidKey.eq, bind_some_]
  by_cases h : M.validKey a = true
  · have := inr_true.1 h
    rw [if_pos h, if_pos h, wrap_in (by omega) (by omega), Int.tmod_eq_emod_of_nonneg (by omega)]
  · rw [if_neg h, if_neg h]
/-! spec_DevicePublic -/
theorem spec_DevicePublic.ev (a b s c : Int) : Ev (fun k => spec_DevicePublic.f k a b s c) (M.pub (M.devKey s)) := by
  unfold spec_DevicePublic.f; exact Ev.bind (spec_l10Device.ev a b s c) (Ev.bindc (spec_PublicKey.eq _) (Ev.now _))
/-! spec_LogHead -/
theorem spec_LogHead.ev (l : List S74) (hl : l.length ≤ 1048576) : Ev (fun k => spec_LogHead.f k l) (M.logHead l) := by
  unfold spec_LogHead.f
  refine Ev.ite (fun h => ?_) (fun h => ?_)
  · have : l = [] := List.eq_nil_of_length_eq_zero (by omega)
    subst this; exact Ev.now _
  · have hl' : 0 < l.length := by omega
    rw [logHead_get l hl']
    simp only [wrap_pred hl' (by omega : l.length ≤ _), rd_LogEntry (by omega : l.length - 1 < l.length), spec_EntryHash.f]
    refine Ev.yes (by omega) (Ev.yes (by omega) (Ev.bind (Ev.bind (spec_Hash.ev _ (by simp)) (Ev.now _)) (Ev.now _)))
/-! spec_EntryHash -/
theorem spec_EntryHash.ev (e : S74) : Ev (fun k => spec_EntryHash.f k e.f0 e.f1 e.f2 e.f3 e.f4 e.f5) (M.entryHash e) := by
  unfold spec_EntryHash.f; exact Ev.bind (spec_Hash.ev _ (by simp)) (Ev.now _)
/-! spec_SignMessage -/
theorem spec_SignMessage.ev (p : Int) (l : List Int) (hl : l.length ≤ 1000000) : Ev (fun k => spec_SignMessage.f k p l) (M.sign p l) := by
  unfold spec_SignMessage.f M.sign
  simp only [spec_IsValidKey.eq, bind_some_]
  refine Ev.ite (fun h => Ev.yes (by simp; omega) (Ev.bind (spec_KeyedHash.ev _ _ (by simp; omega)) (Ev.eq ?_))) (fun h => Ev.eq ?_)
  · rw [if_pos h]
  · rw [if_neg h]
/-! spec_SignAsDevice -/
theorem spec_SignAsDevice.ev (a b s c : Int) (l : List Int) (hl : l.length ≤ 1000000) : Ev (fun k => spec_SignAsDevice.f k a b s c l) (M.sign (M.devKey s) l) := by
  unfold spec_SignAsDevice.f; exact Ev.bind (spec_l10Device.ev a b s c) (Ev.bind (spec_SignMessage.ev _ _ hl) (Ev.now _))
/-! spec_l19Copy -/
theorem spec_l19Copy.eq (l : List S74) (hl : l.length ≤ 1048577) : spec_l19Copy.f l = some l := by
  unfold spec_l19Copy.f; simp only [bind_some_]; rw [if_pos (by simp; omega)]; rfl
/-! spec_l19Has -/
theorem spec_l19Has.ev (l : List Int) (x : Int) (hl : l.length ≤ 2097152) : Ev (fun k => spec_l19Has.f k l x) (M.has l x) := by
  unfold spec_l19Has.f
  refine Ev.loop (fun k i (_ : Unit) => spec_l19Has.l0 k l x (i : Int)) l.length (fun i _ => M.has (l.drop i) x) (fun _ _ => True) ?_ ?_ 0 () (by omega) trivial
  · rintro s _
    refine Ev.round ?_
    simp only [spec_l19Has.l0]
    exact Ev.no (by omega) (Ev.eq (by rw [drop_end]; rfl))
  · rintro i s hi _ ih
    refine Ev.round ?_
    simp only [spec_l19Has.l0, wrap_succ hi (by omega : l.length ≤ _), rd_get hi]
    rw [drop_get hi]; unfold M.has; rw [List.any_cons]
    refine Ev.yes (by omega) (Ev.yes (by omega) (Ev.ite (fun h => Ev.eq (by rw [h]; simp)) (fun h => Ev.conv (ih () trivial) (by simp only [h, decide_false, Bool.false_or]; rfl))))
/-! spec_DevicesOf -/
theorem spec_DevicesOf.ev (l : List S74) (hl : l.length ≤ 1048577) : Ev (fun k => spec_DevicesOf.f k l) (M.devices l) := by
  unfold spec_DevicesOf.f
  refine Ev.loop (fun k i o => spec_DevicesOf.l0 k l o (i : Int)) l.length (fun i o => (l.drop i).foldl M.devStep o) (fun i o => o.length ≤ i) ?_ ?_ 0 [] (by omega) (by simp)
  · intro o ho
    refine Ev.round ?_
    simp only [spec_DevicesOf.l0]
    exact Ev.no (by omega) (Ev.eq (by rw [drop_end]; rfl))
  · intro i o hi ho ih
    have hsl := devStep_len o l[i]
    have nxt : ∀ o', M.devStep o l[i] = o' → Ev (fun k => spec_DevicesOf.l0 k l o' ((i + 1 : Nat) : Int)) ((l.drop i).foldl M.devStep o) := by
      rintro o' rfl; rw [drop_get hi, List.foldl_cons]; exact ih _ (by omega)
    have rest : l[i].f1 ≠ 1 ∨ M.has o l[i].f2 = true → Ev (fun k => spec_DevicesOf.j1 k l o (i : Int) l[i].f2 false) ((l.drop i).foldl M.devStep o) := by
      intro hc
      refine Ev.round ?_
      simp only [spec_DevicesOf.j1, rd_LogEntry hi, wrap_succ hi (by omega : l.length ≤ _)]
      refine Ev.no (by simp) (Ev.yes (by omega) (Ev.yes (by omega) (Ev.ite (fun h2 => ?_) (fun h2 => nxt _ ?_))))
      · have h1 : l[i].f1 ≠ 1 := by omega
        refine Ev.loop (fun k j x => spec_DevicesOf.l1 k l o (i : Int) l[i].f2 x (j : Int)) o.length (fun _ _ => (l.drop i).foldl M.devStep o) (fun j x => x ++ (o.drop j).filter (fun d => decide (d ≠ l[i].f2)) = o.filter (fun d => decide (d ≠ l[i].f2)) ∧ x.length ≤ j) ?_ ?_ 0 [] (by omega) (by simp)
        · rintro x ⟨hx, _⟩
          rw [drop_end, List.filter_nil, List.append_nil] at hx
          refine Ev.round ?_
          simp only [spec_DevicesOf.l1, wrap_succ hi (by omega : l.length ≤ _)]
          exact Ev.no (by omega) (nxt _ (by unfold M.devStep; rw [if_neg h1, if_pos h2, hx]))
        · rintro j x hj ⟨hx, hxl⟩ ih2
          rw [drop_get hj] at hx
          refine Ev.round ?_
          simp only [spec_DevicesOf.l1, rd_get hj, wrap_succ hj (by omega : o.length ≤ _)]
          refine Ev.yes (by omega) (Ev.yes (by omega) (Ev.ite (fun h3 => ih2 _ ⟨?_, by omega⟩) (fun h3 => Ev.yes (by omega) (ih2 _ ⟨?_, by simp; omega⟩))))
          · rw [filter_cons_drop h3] at hx; exact hx
          · rw [filter_cons_keep h3] at hx; rw [List.append_assoc]; exact hx
      · unfold M.devStep
        by_cases h1 : l[i].f1 = 1
        · rw [if_pos h1, if_pos (hc.resolve_left (fun h => h h1))]
        · rw [if_neg h1, if_neg h2]
    refine Ev.round ?_
    simp only [spec_DevicesOf.l0, rd_LogEntry hi]
    refine Ev.yes (by omega) (Ev.yes (by omega) (Ev.ite (fun h1 => Ev.bind (spec_l19Has.ev o _ (by omega)) ?_) (fun h1 => rest (.inl h1))))
    cases hh : M.has o l[i].f2 with
    | true => exact rest (.inr hh)
    | false =>
      refine Ev.round ?_
      simp only [spec_DevicesOf.j1, wrap_succ hi (by omega : l.length ≤ _)]
      refine Ev.yes (by trivial) (Ev.yes (by omega) (nxt _ ?_))
      unfold M.devStep; rw [if_pos h1, if_neg (by rw [hh]; simp)]
/-! spec_l6Power -/
theorem spec_l6Power.ev : Ev (fun k => spec_l6Power.f k 48271 2147483645) M.inv := Ev.of (k := 40) (fun k => spec_l6Power.mono _ _ k) (by decide +kernel)
/-! spec_PrivateKey -/
theorem spec_PrivateKey.ev (a : Int) : Ev (fun k => spec_PrivateKey.f k a) (M.priv a) := by
  unfold spec_PrivateKey.f
  refine Ev.bindc (spec_l1In.eq ..) (Ev.ite (fun h => ?_) (fun h => ?_))
  · have h' := inr_true.1 h
    refine Ev.bind spec_l6Power.ev ?_
    have e : Int.tmod (wrap64 (a * M.inv)) 2147483647 = M.priv a := by
      unfold M.priv M.inv; rw [if_pos (show M.validKey a = true from h), wrap_in (by omega) (by omega), Int.tmod_eq_emod_of_nonneg (by omega)]
    simp only [e, spec_PublicKey.eq, bind_some_]
    exact Ev.yes (priv_valid h).2 (Ev.now _)
  · exact Ev.eq (by unfold M.priv; rw [if_neg (show ¬ M.validKey a = true from h)])
/-! spec_VerifySignature -/
theorem spec_VerifySignature.ev (q : Int) (l : List Int) (s : Int) (hl : l.length ≤ 1000000) : Ev (fun k => spec_VerifySignature.f k q l s) (M.verify q l s) := by
  unfold spec_VerifySignature.f M.verify
  refine Ev.bind (spec_PrivateKey.ev q) (Ev.ite (fun h => Ev.eq (by simp [h])) (fun h => Ev.bind (spec_SignMessage.ev _ l hl) (Ev.eq ?_)))
  simp only [h, ne_eq, not_false_eq_true, decide_true, Bool.true_and]; rfl
/-! spec_l19Step -/
theorem spec_l19Step.ev (b : List S74) (e : S74) (hb : b.length ≤ 1048576) : Ev (fun k => spec_l19Step.f k b e.f0 e.f1 e.f2 e.f3 e.f4 e.f5) (M.stepOk b e) := by
  unfold spec_l19Step.f
  have hdl := devices_len b
  have no : M.stepOk b e = false → Ev (fun k => spec_l19Step.j1 k b (M.devices b) true e.f0 e.f1 e.f2 e.f3 e.f4 e.f5) (M.stepOk b e) := by
    intro h
    refine Ev.round ?_
    simp only [spec_l19Step.j1]
    exact Ev.yes (by trivial) (Ev.eq h.symm)
  have j0 : ∀ by_ : Bool, by_ = (M.has (M.devices b) e.f3 || (decide (b.length = 0) && decide (e.f3 = e.f2))) → Ev (fun k => spec_l19Step.j0 k b (M.devices b) by_ e.f0 e.f1 e.f2 e.f3 e.f4 e.f5) (M.stepOk b e) := by
    intro by_ hby
    refine Ev.round ?_
    simp only [spec_l19Step.j0]
    refine Ev.ite (fun h1 => Ev.bind (spec_LogHead.ev b hb) (Ev.ite (fun h2 => Ev.ite (fun h3 => Ev.bind (spec_EntryHash.ev e) (Ev.bind (spec_VerifySignature.ev _ _ _ (by simp)) ?_)) (fun h3 => no ?_)) (fun h2 => no ?_))) (fun h1 => no ?_)
    · cases h4 : M.verify e.f3 [M.entryHash e] e.f5 with
      | false => exact no (by unfold M.stepOk; simp [h4])
      | true =>
        have hs : M.stepOk b e = ((decide (e.f1 = 2) && (M.has (M.devices b) e.f2 && decide (1 < (M.devices b).length))) || (decide (e.f1 = 1) && (!M.removed b e.f2 && (!M.has (M.devices b) e.f2 && decide ((M.devices b).length < 6))))) := by
          unfold M.stepOk; rw [← hby, h3, h4, decide_eq_true h1, decide_eq_true h2]; simp
        rw [hs]
        refine Ev.round ?_
        simp only [spec_l19Step.j1]
        refine Ev.no (by simp) (Ev.ite (fun h5 => Ev.bind (spec_l19Has.ev _ _ (by omega)) (Ev.ite (fun h6 => Ev.eq ?_) (fun h6 => Ev.eq ?_))) (fun h5 => ?_))
        · have : decide (((M.devices b).length : Int) > 1) = decide (1 < (M.devices b).length) := by simp only [decide_eq_decide]; omega
          rw [this]; simp [h5, h6]
        · simp [h5, h6]
        · have hs2 : ((decide (e.f1 = 2) && (M.has (M.devices b) e.f2 && decide (1 < (M.devices b).length))) || (decide (e.f1 = 1) && (!M.removed b e.f2 && (!M.has (M.devices b) e.f2 && decide ((M.devices b).length < 6))))) = (!M.removed b e.f2 && (decide (e.f1 = 1) && (!M.has (M.devices b) e.f2 && decide ((M.devices b).length < 6)))) := by
            simp only [h5, decide_false, Bool.false_and, Bool.false_or]
            cases M.removed b e.f2 <;> simp
          rw [hs2]
          refine Ev.loop (fun k i (_ : Unit) => spec_l19Step.l0 k b (M.devices b) (i : Int) e.f0 e.f1 e.f2 e.f3 e.f4 e.f5) b.length (fun i _ => (!M.removed (b.drop i) e.f2 && (decide (e.f1 = 1) && (!M.has (M.devices b) e.f2 && decide ((M.devices b).length < 6))))) (fun _ _ => True) ?_ ?_ 0 () (by omega) trivial
          · rintro _ _
            refine Ev.round ?_
            simp only [spec_l19Step.l0]
            rw [drop_end]
            refine Ev.no (by omega) (Ev.ite (fun h6 => Ev.bind (spec_l19Has.ev _ _ (by omega)) (Ev.ite (fun h7 => Ev.eq ?_) (fun h7 => Ev.eq ?_))) (fun h6 => Ev.eq ?_))
            · simp [h7]
            · have : decide (((M.devices b).length : Int) < 6) = decide ((M.devices b).length < 6) := by simp only [decide_eq_decide]; omega
              rw [this]; simp [M.removed, h6, h7]
            · simp [h6]
          · rintro i _ hi _ ih
            refine Ev.round ?_
            simp only [spec_l19Step.l0, rd_LogEntry hi, wrap_succ hi (by omega : b.length ≤ _)]
            rw [drop_get hi]
            have hr : M.removed (b[i] :: b.drop (i + 1)) e.f2 = ((decide (b[i].f1 = 2) && decide (b[i].f2 = e.f2)) || M.removed (b.drop (i + 1)) e.f2) := by unfold M.removed; rw [List.any_cons]
            rw [hr]
            refine Ev.yes (by omega) (Ev.yes (by omega) (Ev.ite (fun h6 => Ev.ite (fun h7 => Ev.eq ?_) (fun h7 => Ev.conv (ih () trivial) ?_)) (fun h6 => Ev.conv (ih () trivial) ?_)))
            · simp [h6, h7]
            · simp [h6, h7]
            · simp [h6]
    · unfold M.stepOk; rw [← hby, Bool.eq_false_iff.2 h3]; simp
    · unfold M.stepOk; simp [h2]
    · unfold M.stepOk; simp [h1]
  refine Ev.bind (spec_DevicesOf.ev b (by omega)) (Ev.bind (spec_l19Has.ev _ _ (by omega)) (Ev.ite (fun h => j0 _ (by rw [h]; rfl)) (fun h => Ev.ite (fun h2 => j0 _ ?_) (fun h2 => j0 _ ?_))))
  · rw [Bool.eq_false_iff.2 h, decide_eq_true (by omega : b.length = 0)]; rfl
  · rw [Bool.eq_false_iff.2 h, decide_eq_false (by omega : ¬ b.length = 0)]; rfl
/-! spec_VerifyLog -/
theorem spec_VerifyLog.ev (l : List S74) (hl : l.length ≤ 1048577) : Ev (fun k => spec_VerifyLog.f k l) (M.verifyLog l) := by
  unfold spec_VerifyLog.f
  refine Ev.loop (fun k i (_ : Unit) => spec_VerifyLog.l0 k l (i : Int)) l.length (fun _ _ => M.verifyLog l) (fun i _ => ∀ (j : Nat) (h : j < l.length), j < i → M.stepOk (l.take j) l[j] = true) ?_ ?_ 0 () (by omega) (fun j _ h => by omega)
  · rintro _ hinv
    refine Ev.round ?_
    simp only [spec_VerifyLog.l0, spec_l1In.eq, bind_some_]
    refine Ev.no (by omega) (Ev.eq ?_)
    rw [Bool.eq_iff_iff, inr_true, verifyLog_iff]
    exact ⟨fun h => ⟨by omega, fun j hj => hinv j hj hj⟩, fun h => by omega⟩
  · rintro i _ hi hinv ih
    refine Ev.round ?_
    simp only [spec_VerifyLog.l0, rd_LogEntry hi, wrap_succ hi (by omega : l.length ≤ _), Int.toNat_natCast]
    refine Ev.yes (by omega) (Ev.yes (by omega) (Ev.yes (by omega) (Ev.bind (spec_l19Step.ev (l.take i) l[i] (by simp; omega)) (Ev.ite (fun h => ih () ?_) (fun h => Ev.eq (verifyLog_bad hi (Bool.eq_false_iff.2 h)).symm)))))
    intro j hj hji
    by_cases e : j = i
    · subst e; exact h
    · exact hinv j hj (by omega)
/-! spec_AppendEntry -/
theorem spec_AppendEntry.ev (l : List S74) (a b c d s f : Int) (hl : l.length ≤ 1048576) : Ev (fun k => spec_AppendEntry.f k l a b c d s f) (M.appendE l a b s) := by
  unfold spec_AppendEntry.f
  refine Ev.bind (spec_DevicePublic.ev ..) (Ev.bind (spec_LogHead.ev l hl) (Ev.bind (spec_EntryHash.ev ⟨(l.length : Int), a, b, M.pub (M.devKey s), M.logHead l, 0⟩) (Ev.bind (spec_SignAsDevice.ev _ _ _ _ _ (by simp)) (Ev.bindc (spec_l19Copy.eq l (by omega)) ?_))))
  simp only [bind_some_]
  have hv := spec_VerifyLog.ev (l ++ [M.newEntry l a b s]) (by simp; omega)
  refine Ev.yes (by simp; omega) (Ev.ite (fun h => Ev.bind (spec_VerifyLog.ev l (by omega)) (Ev.ite (fun h1 => Ev.bind hv (Ev.ite (fun h2 => ?_) (fun h2 => ?_))) (fun h1 => ?_))) (fun h => Ev.bind hv (Ev.ite (fun h2 => ?_) (fun h2 => ?_))))
  · exact Ev.eq (by unfold M.appendE; rw [if_pos ⟨fun _ => h1, h2⟩]; rfl)
  · rw [spec_l19Copy.eq l (by omega)]; exact Ev.eq (by unfold M.appendE; rw [if_neg (fun hh => h2 hh.2)])
  · rw [spec_l19Copy.eq l (by omega)]; exact Ev.eq (by unfold M.appendE; rw [if_neg (fun hh => h1 (hh.1 (by omega)))])
  · exact Ev.eq (by unfold M.appendE; rw [if_pos ⟨fun h3 => absurd h3 (by omega), h2⟩]; rfl)
  · rw [spec_l19Copy.eq l (by omega)]; exact Ev.eq (by unfold M.appendE; rw [if_neg (fun hh => h2 hh.2)])

/-! the law -/
theorem FnExactAppendEntry : ∀ (l0 : List (S78)) (a1 : Int) (a2 : Int) (a3_0 : Int) (a3_1 : Int) (a3_2 : Int) (a3_3 : Int), l0.length ≤ 9223372036854775807 → ∃ k, laws_FnExactAppendEntry.f k l0 a1 a2 a3_0 a3_1 a3_2 a3_3 = some true := by
  intro l a b c d s f h0
  apply Ev.rounds (r := true)
  unfold laws_FnExactAppendEntry.f
  refine Ev.bindc (laws_szLogEntryS.eq _ _ (by decide) (by decide) h0) (Ev.size fun g0 => ?_)
  have b0 : l.length ≤ 1048576 := by omega
  have c0 : (l.map M.toLogEntry).length ≤ 1048576 := by simpa using b0
  have t0 := laws_toLogEntryS.ev l b0
  have hs := spec_AppendEntry.ev (l.map M.toLogEntry) a b c d s f c0
  have hi := impl_AppendEntry.ev (l.map M.toLogEntry) a b c d s f c0
  obtain ⟨⟨rl, rb⟩, hr⟩ : ∃ r, M.appendE (l.map M.toLogEntry) a b s = r := ⟨_, rfl⟩
  have hl : rl.length ≤ 1048576 := by have := appendE_len (l.map M.toLogEntry) a b s c0; rw [hr] at this; exact this
  rw [hr] at hs hi
  clear hr
  refine Ev.bind t0 (Ev.bindc rfl (Ev.bind hs (Ev.bind t0 (Ev.bindc rfl (Ev.bind hi (Ev.bind (laws_eqLogEntryS.refl _ hl) (Ev.yes rfl ?_)))))))
  refine Ev.round ?_
  simp only [laws_FnExactAppendEntry.j0]
  refine Ev.no (by simp) (Ev.bind t0 (Ev.bind (laws_eqLogEntryS.refl _ c0) (Ev.yes rfl (Ev.bind (laws_markLogEntryS.ev _ 1 c0 (by omega) (by omega)) (Ev.no (by first | omega | (simp only; omega)) (Ev.bind (laws_eqLogEntryS.refl _ hl) (Ev.yes rfl ?_)))))))
  refine Ev.round ?_
  simp only [laws_FnExactAppendEntry.j1]
  refine Ev.no (by simp) (Ev.bind (laws_markLogEntryS.ev _ 1 hl (by omega) (by omega)) (Ev.bind (laws_heldLogEntryS.ev _ 1 hl (by omega) (by omega)) (Ev.no (by first | omega | (simp only; omega)) (Ev.yes rfl (Ev.bind t0 (Ev.bindc rfl (Ev.bind hi (Ev.bind (laws_eqLogEntryS.refl _ hl) (Ev.yes rfl ?_)))))))))
  refine Ev.round ?_
  simp only [laws_FnExactAppendEntry.j2]
  exact Ev.no (by simp) (Ev.bind (laws_heldLogEntryS.ev _ 1 hl (by omega) (by omega)) (Ev.no (by first | omega | (simp only; omega)) (Ev.yes rfl (Ev.now _))))
end Go.Proofs.Ytpgjecknkmmnhaa.Pure
