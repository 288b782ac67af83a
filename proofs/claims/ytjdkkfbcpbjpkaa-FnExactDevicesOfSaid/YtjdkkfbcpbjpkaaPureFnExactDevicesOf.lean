/- The program's DevicesOf returns what the reference's returns, for all arguments. -/
import Derived.Test.YtjdkkfbcpbjpkaaOpFnExactDevicesOf
import Derived.Test.YtjdkkfbcpbjpkaaPFnExactDevicesOfx4
namespace Go.Proofs.Ytjdkkfbcpbjpkaa.Pure
open Go.RowKit Go.Proofs.Ytjdkkfbcpbjpkaa.PFnExactDevicesOf Go.Proofs.YtjdkkfbcpbjpkaaW.PrintWords Go.Proofs.YtjdkkfbcpbjpkaaW.PrintLast
set_option linter.unusedVariables false
set_option linter.unusedSimpArgs false

/-! base -/
theorem wrap_in {n : Int} (h1 : -9223372036854775808 ≤ n) (h2 : n ≤ 9223372036854775807) : wrap64 n = n := by unfold wrap64; omega
theorem wrap_succ {i n : Nat} (h : i < n) (hn : n ≤ 1152921504606846976) : wrap64 ((i : Int) + 1) = ((i + 1 : Nat) : Int) := by unfold wrap64; omega
theorem wrap_pred {i : Nat} (h : 0 < i) (hn : i ≤ 1152921504606846976) : wrap64 ((i : Int) - 1) = ((i - 1 : Nat) : Int) := by unfold wrap64; omega
theorem Ev.eq {α : Type} {r s : α} (h : r = s) : Ev (fun _ => some r) s := h ▸ Ev.now r
theorem Ev.opt {α : Type} {o : Option α} {r : α} (h : o = some r) : Ev (fun _ => o) r := h ▸ Ev.now r
theorem Ev.yes {α : Type} {c : Prop} [Decidable c] {g f : Nat → Option α} {r : α} (h : c) (k : Ev g r) : Ev (fun n => if c then g n else f n) r := by simpa [h] using k
theorem Ev.no {α : Type} {c : Prop} [Decidable c] {g f : Nat → Option α} {r : α} (h : ¬ c) (k : Ev f r) : Ev (fun n => if c then g n else f n) r := by simpa [h] using k
theorem Ev.ite {α : Type} {c : Prop} [Decidable c] {g f : Nat → Option α} {r : α} (h : c → Ev g r) (k : ¬ c → Ev f r) : Ev (fun n => if c then g n else f n) r := by
  by_cases hc : c
  · exact Ev.yes hc (h hc)
  · exact Ev.no hc (k hc)
theorem Ev.bindc {α β : Type} {o : Option α} {a : α} {f : Nat → α → Option β} {r : β} (h : o = some a) (k : Ev (fun n => f n a) r) : Ev (fun n => o.bind (f n)) r := by subst h; exact k
theorem Ev.round {α : Type} {g : Nat → Option α} {r : α} (h : Ev (fun k => g (k + 1)) r) : Ev g r := Ev.step (fun _ => rfl) h
theorem Ev.conv {α : Type} {g : Nat → Option α} {r s : α} (k : Ev g r) (h : r = s) : Ev g s := h ▸ k
theorem bind_some_ {α β : Type} (a : α) (f : α → Option β) : (some a).bind f = f a := rfl
/-- A loop that counts: from each place on, the answer is what 'val' says. -/
theorem Ev.loop {σ β : Type} (g : Nat → Nat → σ → Option β) (n : Nat) (val : Nat → σ → β) (Inv : Nat → σ → Prop)
    (done : ∀ s, Inv n s → Ev (fun k => g k n s) (val n s))
    (step : ∀ i s, i < n → Inv i s → (∀ s', Inv (i + 1) s' → Ev (fun k => g k (i + 1) s') (val (i + 1) s')) → Ev (fun k => g k i s) (val i s)) :
    ∀ i s, i ≤ n → Inv i s → Ev (fun k => g k i s) (val i s) := by
  have : ∀ d i s, i + d = n → Inv i s → Ev (fun k => g k i s) (val i s) := by
    intro d
    induction d with
    | zero =>
      intro i s hi hs
      obtain rfl : i = n := by omega
      exact done s hs
    | succ d ih => intro i s hi hs; exact step i s (by omega) hs (fun s' hs' => ih (i + 1) s' (by omega) hs')
  intro i s hi hs
  exact this (n - i) i s (by omega) hs
theorem getD_lt {α : Type} {l : List α} {i : Nat} (h : i < l.length) (d : α) : l.getD i d = l[i] := by simp [List.getD_eq_getElem?_getD, h]
theorem rd_get {l : List Int} {i : Nat} (h : i < l.length) : rd l (i : Int) = l[i] := by unfold rd; exact getD_lt h _
theorem take_fill {α β : Type} (f : α → β) (l : List α) (z : β) {i : Nat} (h : i < l.length) :
    ((l.take i).map f ++ List.replicate (l.length - i) z).set i (f l[i]) = (l.take (i + 1)).map f ++ List.replicate (l.length - (i + 1)) z := by
  have e : l.length - i = (l.length - (i + 1)) + 1 := by omega
  rw [e, List.replicate_succ, List.set_append_right _ _ (by simp; omega)]
  have : i - (List.map f (List.take i l)).length = 0 := by simp; omega
  rw [this, List.set_cons_zero, List.take_succ_eq_append_getElem h, List.map_append]
  simp
theorem fill_len {α β : Type} (f : α → β) (l : List α) (z : β) {i : Nat} (h : i ≤ l.length) : ((l.take i).map f ++ List.replicate (l.length - i) z).length = l.length := by simp; omega
theorem fill_end {α β : Type} (f : α → β) (l : List α) (z : β) : (l.take l.length).map f ++ List.replicate (l.length - l.length) z = l.map f := by simp
theorem drop_get {α : Type} {l : List α} {i : Nat} (h : i < l.length) : l.drop i = l[i] :: l.drop (i + 1) := List.drop_eq_getElem_cons h
theorem drop_end {α : Type} (l : List α) : l.drop l.length = [] := List.drop_eq_nil_of_le (Nat.le_refl _)
/-! has -/
def M.has (l : List Int) (x : Int) : Bool := l.any fun y => decide (y = x)
theorem has_iff (l : List Int) (x : Int) : M.has l x = true ↔ x ∈ l := by simp [M.has]
/-! rd-LogEntry -/
theorem rd_LogEntry {l : List S103} {i : Nat} (h : i < l.length) : rd_T103 l (i : Int) = l[i] := by unfold rd_T103; exact getD_lt h _
/-! devices -/
def M.devStep (out : List Int) (e : S103) : List Int :=
  if e.f1 = 1 then (if M.has out e.f2 = true then out else out ++ [e.f2]) else if e.f1 = 2 then out.filter (fun d => decide (d ≠ e.f2)) else out
def M.devices (l : List S103) : List Int := l.foldl M.devStep []
theorem devStep_len (out : List Int) (e : S103) : (M.devStep out e).length ≤ out.length + 1 := by
  unfold M.devStep
  have := List.length_filter_le (fun d => decide (d ≠ e.f2)) out
  split
  · split <;> simp
  · split <;> omega
theorem devices_len (l : List S103) : (M.devices l).length ≤ l.length := by
  have : ∀ (l : List S103) (o : List Int), (l.foldl M.devStep o).length ≤ o.length + l.length := by
    intro l
    induction l with
    | nil => intro o; simp
    | cons e l ih => intro o; have := ih (M.devStep o e); have := devStep_len o e; simp; omega
  have := this l []; simpa [M.devices] using this
theorem filter_cons_keep {l : List Int} {d x : Int} (h : x ≠ d) : (x :: l).filter (fun y => decide (y ≠ d)) = x :: l.filter (fun y => decide (y ≠ d)) := List.filter_cons_of_pos (by simpa using h)
theorem filter_cons_drop {l : List Int} {d x : Int} (h : x = d) : (x :: l).filter (fun y => decide (y ≠ d)) = l.filter (fun y => decide (y ≠ d)) := List.filter_cons_of_neg (by simpa using h)
/-! impl_has -/
theorem impl_has.ev (l : List Int) (x : Int) (hl : l.length ≤ 2097152) : Ev (fun k => impl_has.f k l x) (M.has l x) := by
  unfold impl_has.f
  refine Ev.loop (fun k i (_ : Unit) => impl_has.l0 k x l l.length (i : Int)) l.length (fun i _ => M.has (l.drop i) x) (fun _ _ => True) ?_ ?_ 0 () (by omega) trivial
  · rintro s _
    refine Ev.round ?_
    simp only [impl_has.l0]
    exact Ev.no (by omega) (Ev.eq (by rw [drop_end]; rfl))
  · rintro i s hi _ ih
    refine Ev.round ?_
    simp only [impl_has.l0, wrap_succ hi (by omega : l.length ≤ _), rd_get hi]
    rw [drop_get hi]; unfold M.has; rw [List.any_cons]
    refine Ev.yes (by omega) (Ev.yes (by omega) (Ev.yes (by omega) (Ev.ite (fun h => Ev.eq (by rw [h]; simp)) (fun h => Ev.conv (ih () trivial) (by simp only [h, decide_false, Bool.false_or]; rfl)))))
/-! impl_DevicesOf -/
theorem impl_DevicesOf.ev (l : List S103) (hl : l.length ≤ 1048577) : Ev (fun k => impl_DevicesOf.f k l) (M.devices l) := by
  unfold impl_DevicesOf.f
  refine Ev.loop (fun k i o => impl_DevicesOf.l0 k o l l.length (i : Int)) l.length (fun i o => (l.drop i).foldl M.devStep o) (fun i o => o.length ≤ i) ?_ ?_ 0 [] (by omega) (by simp)
  · intro o ho
    refine Ev.round ?_
    simp only [impl_DevicesOf.l0]
    exact Ev.no (by omega) (Ev.eq (by rw [drop_end]; rfl))
  · intro i o hi ho ih
    have hsl := devStep_len o l[i]
    have nxt : ∀ o', M.devStep o l[i] = o' → Ev (fun k => impl_DevicesOf.l0 k o' l l.length ((i + 1 : Nat) : Int)) ((l.drop i).foldl M.devStep o) := by
      rintro o' rfl; rw [drop_get hi, List.foldl_cons]; exact ih _ (by omega)
    refine Ev.round ?_
    simp only [impl_DevicesOf.l0, rd_LogEntry hi, wrap_succ hi (by omega : l.length ≤ _)]
    refine Ev.yes (by omega) (Ev.yes (by omega) (Ev.yes (by omega) (Ev.ite (fun h1 => Ev.bind (impl_has.ev o _ (by omega)) (Ev.ite (fun h2 => nxt _ ?_) (fun h2 => Ev.yes (by omega) (nxt _ ?_)))) (fun h1 => Ev.ite (fun h2 => ?_) (fun h2 => nxt _ ?_)))))
    · unfold M.devStep; rw [if_pos h1, if_pos h2]
    · unfold M.devStep; rw [if_pos h1, if_neg h2]
    · refine Ev.loop (fun k j x => impl_DevicesOf.l1 k x l l.length (i : Int) o o.length (j : Int) l[i].f0 l[i].f1 l[i].f2 l[i].f3 l[i].f4 l[i].f5) o.length (fun _ _ => (l.drop i).foldl M.devStep o) (fun j x => x ++ (o.drop j).filter (fun d => decide (d ≠ l[i].f2)) = o.filter (fun d => decide (d ≠ l[i].f2)) ∧ x.length ≤ j) ?_ ?_ 0 [] (by omega) (by simp)
      · rintro x ⟨hx, _⟩
        rw [drop_end, List.filter_nil, List.append_nil] at hx
        refine Ev.round ?_
        simp only [impl_DevicesOf.l1, wrap_succ hi (by omega : l.length ≤ _)]
        exact Ev.no (by omega) (nxt _ (by unfold M.devStep; rw [if_neg h1, if_pos h2, hx]))
      · rintro j x hj ⟨hx, hxl⟩ ih2
        rw [drop_get hj] at hx
        refine Ev.round ?_
        simp only [impl_DevicesOf.l1, rd_get hj, wrap_succ hj (by omega : o.length ≤ _)]
        refine Ev.yes (by omega) (Ev.yes (by omega) (Ev.yes (by omega) (Ev.ite (fun h3 => ih2 _ ⟨?_, by omega⟩) (fun h3 => Ev.yes (by omega) (ih2 _ ⟨?_, by simp; omega⟩)))))
        · rw [filter_cons_drop h3] at hx; exact hx
        · rw [filter_cons_keep h3] at hx; rw [List.append_assoc]; exact hx
    · unfold M.devStep; rw [if_neg h1, if_neg h2]
/-! laws_eqIntS -/
theorem laws_eqIntS.refl (l : List Int) (hl : l.length ≤ 1048576) : Ev (fun k => laws_eqIntS.f k l l) true := by
  unfold laws_eqIntS.f
  refine Ev.yes rfl ?_
  refine Ev.loop (fun k i (_ : Unit) => laws_eqIntS.l0 k l l (i : Int)) l.length (fun _ _ => true) (fun _ _ => True) ?_ ?_ 0 () (by omega) trivial
  · rintro s _
    refine Ev.round ?_
    simp only [laws_eqIntS.l0]
    exact Ev.no (by omega) (Ev.now _)
  · rintro i s hi _ ih
    refine Ev.round ?_
    simp only [laws_eqIntS.l0, wrap_succ hi (by omega : l.length ≤ _)]
    exact Ev.yes (by omega) (Ev.yes (by omega) (Ev.yes (by omega) (Ev.yes (by first | trivial | rfl) (ih () trivial))))
/-! laws_eqLogEntryS -/
theorem laws_eqLogEntryS.refl (l : List S103) (hl : l.length ≤ 1048576) : Ev (fun k => laws_eqLogEntryS.f k l l) true := by
  unfold laws_eqLogEntryS.f
  refine Ev.yes rfl ?_
  refine Ev.loop (fun k i (_ : Unit) => laws_eqLogEntryS.l0 k l l (i : Int)) l.length (fun _ _ => true) (fun _ _ => True) ?_ ?_ 0 () (by omega) trivial
  · rintro s _
    refine Ev.round ?_
    simp only [laws_eqLogEntryS.l0]
    exact Ev.no (by omega) (Ev.now _)
  · rintro i s hi _ ih
    refine Ev.round ?_
    simp only [laws_eqLogEntryS.l0, wrap_succ hi (by omega : l.length ≤ _), laws_eqLogEntry.f, if_true, bind_some_]
    exact Ev.yes (by omega) (Ev.yes (by omega) (Ev.yes (by omega) (ih () trivial)))
/-! marksints -/
def M.markedInts (m : Nat) (n : Int) : List Int := (List.range m).map fun (i : Nat) => n + (i : Int)
theorem markedInts_len (m : Nat) (n : Int) : (M.markedInts m n).length = m := by simp [M.markedInts]
theorem markedInts_get {m i : Nat} (n : Int) (h : i < (M.markedInts m n).length) : (M.markedInts m n)[i] = n + (i : Int) := by simp [M.markedInts]
theorem markedInts_succ (m : Nat) (n : Int) : M.markedInts (m + 1) n = M.markedInts m n ++ [n + (m : Int)] := by simp [M.markedInts, List.range_succ]
/-! laws_heldIntS -/
theorem laws_heldIntS.ev (m : Nat) (n : Int) (hl : m ≤ 1048576) (hn : 0 ≤ n) (hn2 : n ≤ 1000000000) : Ev (fun k => laws_heldIntS.f k (M.markedInts m n) n) (n + (m : Int)) := by
  unfold laws_heldIntS.f
  refine Ev.loop (fun k i x => laws_heldIntS.l0 k (M.markedInts m n) x (i : Int)) m (fun _ _ => n + (m : Int)) (fun i x => x = n + (i : Int)) ?_ ?_ 0 n (by omega) (by simp)
  · rintro x rfl
    refine Ev.round ?_
    simp only [laws_heldIntS.l0, markedInts_len]
    exact Ev.no (by omega) (Ev.now _)
  · rintro i x hi hx ih
    have w0 : wrap64 (x + 1) = x + 1 := wrap_in (by omega) (by omega)
    have e : rd (M.markedInts m n) (i : Int) = x := by rw [rd_get (by rw [markedInts_len]; exact hi), markedInts_get, ← hx]
    refine Ev.round ?_
    simp only [laws_heldIntS.l0, markedInts_len, wrap_succ hi (by omega : m ≤ _), e, w0, if_true]
    exact Ev.yes (by omega) (Ev.yes (by omega) (ih _ (by omega)))
/-! laws_markIntS -/
theorem laws_markIntS.ev (l : List Int) (n : Int) (hl : l.length ≤ 1048576) (hn : 0 ≤ n) (hn2 : n ≤ 1000000000) : Ev (fun k => laws_markIntS.f k l n) (n + (l.length : Int), M.markedInts l.length n) := by
  unfold laws_markIntS.f
  refine Ev.loop (fun k i (s : List Int × Int) => laws_markIntS.l0 k s.1 s.2 (i : Int)) l.length (fun _ _ => (n + (l.length : Int), M.markedInts l.length n)) (fun i s => s.1 = M.markedInts i n ++ l.drop i ∧ s.2 = n + (i : Int)) ?_ ?_ 0 (l, n) (by omega) (by simp [M.markedInts])
  · rintro ⟨s, x⟩ ⟨rfl, rfl⟩
    refine Ev.round ?_
    simp only [laws_markIntS.l0]
    refine Ev.no (by simp [markedInts_len]) (Ev.eq (by simp))
  · rintro i ⟨s, x⟩ hi ⟨hs, hx⟩ ih
    simp only at hs hx ih
    have hsl : s.length = l.length := by rw [hs]; simp [markedInts_len]; omega
    have w0 : wrap64 (x + 1) = x + 1 := wrap_in (by omega) (by omega)
    refine Ev.round ?_
    simp only [laws_markIntS.l0, wrap_succ hi (by omega : l.length ≤ _), Int.toNat_natCast, w0]
    refine Ev.yes (by omega) (Ev.yes (by omega) (ih (_, _) ⟨?_, by simp only; omega⟩))
    rw [markedInts_succ, ← hx, hs, List.set_append_right _ _ (by simp [markedInts_len]), markedInts_len, drop_get hi, Nat.sub_self, List.set_cons_zero, List.append_assoc]
    rfl
/-! mark-LogEntry -/
def M.markLogEntry (x : Int) : S103 := ⟨x, x + 1, x + 1 + 1, x + 1 + 1 + 1, x + 1 + 1 + 1 + 1, x + 1 + 1 + 1 + 1 + 1⟩
def M.markedLogEntry (m : Nat) (n : Int) : List S103 := (List.range m).map fun (i : Nat) => M.markLogEntry (n + 6 * (i : Int))
theorem markedLogEntry_len (m : Nat) (n : Int) : (M.markedLogEntry m n).length = m := by simp [M.markedLogEntry]
theorem markedLogEntry_get {m i : Nat} (n : Int) (h : i < (M.markedLogEntry m n).length) : (M.markedLogEntry m n)[i] = M.markLogEntry (n + 6 * (i : Int)) := by simp [M.markedLogEntry]
theorem markedLogEntry_succ (m : Nat) (n : Int) : M.markedLogEntry (m + 1) n = M.markedLogEntry m n ++ [M.markLogEntry (n + 6 * (m : Int))] := by simp [M.markedLogEntry, List.range_succ]
/-! laws_markLogEntryS -/
theorem laws_markLogEntryS.ev (l : List S103) (n : Int) (hl : l.length ≤ 1048576) (hn : 0 ≤ n) (hn2 : n ≤ 1000000000) : Ev (fun k => laws_markLogEntryS.f k l n) (n + 6 * (l.length : Int), M.markedLogEntry l.length n) := by
  unfold laws_markLogEntryS.f
  refine Ev.loop (fun k i (s : List S103 × Int) => laws_markLogEntryS.l0 k s.1 s.2 (i : Int)) l.length (fun _ _ => (n + 6 * (l.length : Int), M.markedLogEntry l.length n)) (fun i s => s.1 = M.markedLogEntry i n ++ l.drop i ∧ s.2 = n + 6 * (i : Int)) ?_ ?_ 0 (l, n) (by omega) (by simp [M.markedLogEntry])
  · rintro ⟨s, x⟩ ⟨rfl, rfl⟩
    refine Ev.round ?_
    simp only [laws_markLogEntryS.l0]
    refine Ev.no (by simp [markedLogEntry_len]) (Ev.eq (by simp))
  · rintro i ⟨s, x⟩ hi ⟨hs, hx⟩ ih
    simp only at hs hx ih
    have hsl : s.length = l.length := by rw [hs]; simp [markedLogEntry_len]; omega
    have rdset : ∀ v : S103, rd_T103 (s.set i v) (i : Int) = v := fun v => by rw [rd_LogEntry (by simp; omega)]; simp
    have w0 : wrap64 (x + 1) = x + 1 := wrap_in (by omega) (by omega)
    have w1 : wrap64 (x + 1 + 1) = x + 1 + 1 := wrap_in (by omega) (by omega)
    have w2 : wrap64 (x + 1 + 1 + 1) = x + 1 + 1 + 1 := wrap_in (by omega) (by omega)
    have w3 : wrap64 (x + 1 + 1 + 1 + 1) = x + 1 + 1 + 1 + 1 := wrap_in (by omega) (by omega)
    have w4 : wrap64 (x + 1 + 1 + 1 + 1 + 1) = x + 1 + 1 + 1 + 1 + 1 := wrap_in (by omega) (by omega)
    have w5 : wrap64 (x + 1 + 1 + 1 + 1 + 1 + 1) = x + 1 + 1 + 1 + 1 + 1 + 1 := wrap_in (by omega) (by omega)
    refine Ev.round ?_
    simp only [laws_markLogEntryS.l0, wrap_succ hi (by omega : l.length ≤ _), Int.toNat_natCast, bind_some_, rdset, List.set_set, w0, w1, w2, w3, w4, w5]
    refine Ev.yes (by omega) (Ev.yes (by omega) (ih (_, _) ⟨?_, by simp only; omega⟩))
    rw [markedLogEntry_succ, ← hx, hs, List.set_append_right _ _ (by simp [markedLogEntry_len]), markedLogEntry_len, drop_get hi, Nat.sub_self, List.set_cons_zero, List.append_assoc]
    rfl
/-! sz -/
def M.sz (n : Nat) (a : Int) : Int := if a - n < 0 then -1 else a - n
theorem sz_eq (n : Nat) (a : Int) (ha : 0 ≤ a) (ha2 : a ≤ 1048576) (hn : n ≤ 9223372036854775807) : (if (wrap64 (a - (n : Int))) < 0 then (some (-1)) else (some (wrap64 (a - (n : Int)))) : Option Int) = some (M.sz n a) := by
  rw [wrap_in (by omega) (by omega)]; unfold M.sz; split <;> rfl
theorem sz_over {n : Nat} {a : Int} (h : a < n) : M.sz n a = -1 := by unfold M.sz; rw [if_pos (by omega)]
theorem sz_fits {n : Nat} {a : Int} (h : (n : Int) ≤ a) : M.sz n a = a - n := by unfold M.sz; rw [if_neg (by omega)]
theorem sz_wrap (n : Nat) (a : Int) : (if M.sz n a < 0 then (some (-1)) else (some (M.sz n a)) : Option Int) = some (M.sz n a) := by
  unfold M.sz; split <;> simp_all
theorem sz_add (n m : Nat) (a : Int) : (if M.sz n a < 0 then -1 else M.sz m (M.sz n a)) = M.sz (n + m) a := by
  unfold M.sz; split <;> split <;> simp_all <;> omega
theorem sz_sub (m n : Nat) (x : Int) : M.sz m (x - n) = M.sz (n + m) x := by
  unfold M.sz; rw [show x - n - m = x - ((n + m : Nat) : Int) by omega]
/-- A law's own look at the size of an argument. -/
theorem Ev.size {n : Nat} {a : Int} {f : Nat → Option Bool} (h : (n : Int) ≤ a → Ev f true) : Ev (fun k => if M.sz n a < 0 then some true else f k) true := by
  by_cases hn : (n : Int) ≤ a
  · exact Ev.no (by rw [sz_fits hn]; omega) (h hn)
  · exact Ev.yes (by rw [sz_over (by omega)]; omega) (Ev.now _)
/-! laws_szLogEntryS -/
theorem laws_szLogEntryS.eq (l : List S106) (a : Int) (ha : 0 ≤ a) (ha2 : a ≤ 1048576) (hl : l.length ≤ 9223372036854775807) : laws_szLogEntryS.f l a = some (M.sz l.length a) := by
  unfold laws_szLogEntryS.f; exact sz_eq _ _ ha ha2 hl
/-! rd-lLogEntry -/
theorem rd_lLogEntry {l : List S106} {i : Nat} (h : i < l.length) : rd_T106 l (i : Int) = l[i] := by unfold rd_T106; exact getD_lt h _
/-! laws_toLogEntryS -/
def M.toLogEntry (e : S106) : S103 := ⟨e.f0, e.f1, e.f2, e.f3, e.f4, e.f5⟩
theorem laws_toLogEntryS.ev (l : List S106) (hl : l.length ≤ 1048576) : Ev (fun k => laws_toLogEntryS.f k l) (l.map M.toLogEntry) := by
  unfold laws_toLogEntryS.f
  refine Ev.yes (by omega) (Ev.yes (by omega) ?_)
  refine Ev.loop (fun k i x => laws_toLogEntryS.l0 k l x (i : Int)) l.length (fun _ _ => l.map M.toLogEntry) (fun i x => x = (l.take i).map M.toLogEntry ++ List.replicate (l.length - i) z103) ?_ ?_ 0 _ (by omega) (by simp)
  · rintro s rfl
    refine Ev.round ?_
    simp only [laws_toLogEntryS.l0]
    exact Ev.no (by omega) (Ev.eq (fill_end _ _ _))
  · rintro i s hi rfl ih
    refine Ev.round ?_
    simp only [laws_toLogEntryS.l0, rd_lLogEntry hi, laws_toLogEntry.f, bind_some_, wrap_succ hi (by omega : l.length ≤ _), Int.toNat_natCast]
    refine Ev.yes (by omega) (Ev.yes (by omega) (Ev.yes (by rw [fill_len _ _ _ (by omega)]; omega) ?_))
    exact ih _ (take_fill M.toLogEntry l z103 hi)
/-! spec_l19Has -/
theorem spec_l19Has.ev (l : List Int) (x : Int) (hl : l.length ≤ 2097152) : Ev (fun k => spec_l19Has.f k l x) (M.has l x) := by
  unfold spec_l19Has.f
  refine Ev.loop (fun k i (_ : Unit) => spec_l19Has.l0 k l x (i : Int)) l.length (fun i _ => M.has (l.drop i) x) (fun _ _ => True) ?_ ?_ 0 () (by omega) trivial
  · rintro s _
    refine Ev.round ?_
    simp only [spec_l19Has.l0]
    exact Ev.no (by omega) (Ev.eq (by rw [drop_end]; rfl))
  · rintro i s hi _ ih
    refine Ev.round ?_
    simp only [spec_l19Has.l0, wrap_succ hi (by omega : l.length ≤ _), rd_get hi]
    rw [drop_get hi]; unfold M.has; rw [List.any_cons]
    refine Ev.yes (by omega) (Ev.yes (by omega) (Ev.ite (fun h => Ev.eq (by rw [h]; simp)) (fun h => Ev.conv (ih () trivial) (by simp only [h, decide_false, Bool.false_or]; rfl))))
/-! spec_DevicesOf -/
theorem spec_DevicesOf.ev (l : List S103) (hl : l.length ≤ 1048577) : Ev (fun k => spec_DevicesOf.f k l) (M.devices l) := by
  unfold spec_DevicesOf.f
  refine Ev.loop (fun k i o => spec_DevicesOf.l0 k l o (i : Int)) l.length (fun i o => (l.drop i).foldl M.devStep o) (fun i o => o.length ≤ i) ?_ ?_ 0 [] (by omega) (by simp)
  · intro o ho
    refine Ev.round ?_
    simp only [spec_DevicesOf.l0]
    exact Ev.no (by omega) (Ev.eq (by rw [drop_end]; rfl))
  · intro i o hi ho ih
    have hsl := devStep_len o l[i]
    have nxt : ∀ o', M.devStep o l[i] = o' → Ev (fun k => spec_DevicesOf.l0 k l o' ((i + 1 : Nat) : Int)) ((l.drop i).foldl M.devStep o) := by
      rintro o' rfl; rw [drop_get hi, List.foldl_cons]; exact ih _ (by omega)
    have rest : l[i].f1 ≠ 1 ∨ M.has o l[i].f2 = true → Ev (fun k => spec_DevicesOf.j1 k l o (i : Int) l[i].f2 false) ((l.drop i).foldl M.devStep o) := by
      intro hc
      refine Ev.round ?_
      simp only [spec_DevicesOf.j1, rd_LogEntry hi, wrap_succ hi (by omega : l.length ≤ _)]
      refine Ev.no (by simp) (Ev.yes (by omega) (Ev.yes (by omega) (Ev.ite (fun h2 => ?_) (fun h2 => nxt _ ?_))))
      · have h1 : l[i].f1 ≠ 1 := by omega
        refine Ev.loop (fun k j x => spec_DevicesOf.l1 k l o (i : Int) l[i].f2 x (j : Int)) o.length (fun _ _ => (l.drop i).foldl M.devStep o) (fun j x => x ++ (o.drop j).filter (fun d => decide (d ≠ l[i].f2)) = o.filter (fun d => decide (d ≠ l[i].f2)) ∧ x.length ≤ j) ?_ ?_ 0 [] (by omega) (by simp)
        · rintro x ⟨hx, _⟩
          rw [drop_end, List.filter_nil, List.append_nil] at hx
          refine Ev.round ?_
          simp only [spec_DevicesOf.l1, wrap_succ hi (by omega : l.length ≤ _)]
          exact Ev.no (by omega) (nxt _ (by unfold M.devStep; rw [if_neg h1, if_pos h2, hx]))
        · rintro j x hj ⟨hx, hxl⟩ ih2
          rw [drop_get hj] at hx
          refine Ev.round ?_
          simp only [spec_DevicesOf.l1, rd_get hj, wrap_succ hj (by omega : o.length ≤ _)]
          refine Ev.yes (by omega) (Ev.yes (by omega) (Ev.ite (fun h3 => ih2 _ ⟨?_, by omega⟩) (fun h3 => Ev.yes (by omega) (ih2 _ ⟨?_, by simp; omega⟩))))
          · rw [filter_cons_drop h3] at hx; exact hx
          · rw [filter_cons_keep h3] at hx; rw [List.append_assoc]; exact hx
      · unfold M.devStep
        by_cases h1 : l[i].f1 = 1
        · rw [if_pos h1, if_pos (hc.resolve_left (fun h => h h1))]
        · rw [if_neg h1, if_neg h2]
    refine Ev.round ?_
    simp only [spec_DevicesOf.l0, rd_LogEntry hi]
    refine Ev.yes (by omega) (Ev.yes (by omega) (Ev.ite (fun h1 => Ev.bind (spec_l19Has.ev o _ (by omega)) ?_) (fun h1 => rest (.inl h1))))
    cases hh : M.has o l[i].f2 with
    | true => exact rest (.inr hh)
    | false =>
      refine Ev.round ?_
      simp only [spec_DevicesOf.j1, wrap_succ hi (by omega : l.length ≤ _)]
      refine Ev.yes (by trivial) (Ev.yes (by omega) (nxt _ ?_))
      unfold M.devStep; rw [if_pos h1, if_neg (by rw [hh]; simp)]

/-! the law -/
theorem FnExactDevicesOf : ∀ (l0 : List (S106)), l0.length ≤ 9223372036854775807 → ∃ k, laws_FnExactDevicesOf.f k l0 = some true := by
  intro l h0
  apply Ev.rounds (r := true)
  unfold laws_FnExactDevicesOf.f
  refine Ev.bindc (laws_szLogEntryS.eq _ _ (by decide) (by decide) h0) (Ev.size fun g0 => ?_)
  have b0 : l.length ≤ 1048576 := by omega
  have c0 : (l.map M.toLogEntry).length ≤ 1048576 := by simpa using b0
  have c1 : (l.map M.toLogEntry).length ≤ 1048577 := by omega
  have t0 := laws_toLogEntryS.ev l b0
  have hs := spec_DevicesOf.ev _ c1
  have hi := impl_DevicesOf.ev _ c1
  obtain ⟨rl, hr⟩ : ∃ r, M.devices (l.map M.toLogEntry) = r := ⟨_, rfl⟩
  have hl : rl.length ≤ 1048576 := by have := devices_len (l.map M.toLogEntry); rw [hr] at this; omega
  rw [hr] at hs hi
  clear hr
  refine Ev.bind t0 (Ev.bind hs (Ev.bind t0 (Ev.bind hi (Ev.bind (laws_eqIntS.refl _ hl) (Ev.yes rfl (Ev.bind t0 (Ev.bind (laws_eqLogEntryS.refl _ c0) (Ev.yes rfl (Ev.bind (laws_markLogEntryS.ev _ 1 c0 (by omega) (by omega)) (Ev.no (by simp only; omega) (Ev.bind (laws_eqIntS.refl _ hl) ?_)))))))))))
  refine Ev.round ?_
  simp only [laws_FnExactDevicesOf.j0]
  refine Ev.no (by simp) (Ev.bind (laws_markIntS.ev _ 1 hl (by omega) (by omega)) (Ev.bind (laws_heldIntS.ev _ 1 hl (by omega) (by omega)) (Ev.no (by first | omega | (simp only; omega)) (Ev.yes rfl (Ev.bind t0 (Ev.bind hi (Ev.bind (laws_eqIntS.refl _ hl) (Ev.yes rfl ?_))))))))
  exact Ev.bind (laws_heldIntS.ev _ 1 hl (by omega) (by omega)) (Ev.no (by first | omega | (simp only; omega)) (Ev.yes rfl (Ev.now _)))
end Go.Proofs.Ytjdkkfbcpbjpkaa.Pure
