/- The program's ExtendsLog returns what the reference's returns, for all arguments. -/
import Derived.Test.YtghbdajdmdcoiaaOpFnExactExtendsLog
import Derived.Test.YtghbdajdmdcoiaaPFnExactExtendsLogx3
namespace Go.Proofs.Ytghbdajdmdcoiaa.Pure
open Go.RowKit Go.Proofs.Ytghbdajdmdcoiaa.PFnExactExtendsLog Go.Proofs.YtghbdajdmdcoiaaW.PrintWords Go.Proofs.YtghbdajdmdcoiaaW.PrintLast
set_option linter.unusedVariables false
set_option linter.unusedSimpArgs false

/-! base -/
theorem wrap_in {n : Int} (h1 : -9223372036854775808 ≤ n) (h2 : n ≤ 9223372036854775807) : wrap64 n = n := by unfold wrap64; omega
theorem wrap_succ {i n : Nat} (h : i < n) (hn : n ≤ 1152921504606846976) : wrap64 ((i : Int) + 1) = ((i + 1 : Nat) : Int) := by unfold wrap64; omega
theorem wrap_pred {i : Nat} (h : 0 < i) (hn : i ≤ 1152921504606846976) : wrap64 ((i : Int) - 1) = ((i - 1 : Nat) : Int) := by unfold wrap64; omega
theorem Ev.eq {α : Type} {r s : α} (h : r = s) : Ev (fun _ => some r) s := h ▸ Ev.now r
theorem Ev.opt {α : Type} {o : Option α} {r : α} (h : o = some r) : Ev (fun _ => o) r := h ▸ Ev.now r
theorem Ev.yes {α : Type} {c : Prop} [Decidable c] {g f : Nat → Option α} {r : α} (h : c) (k : Ev g r) : Ev (fun n => if c then g n else f n) r := by simpa [h] using k
theorem Ev.no {α : Type} {c : Prop} [Decidable c] {g f : Nat → Option α} {r : α} (h : ¬ c) (k : Ev f r) : Ev (fun n => if c then g n else f n) r := by simpa [h] using k
theorem Ev.ite {α : Type} {c : Prop} [Decidable c] {g f : Nat → Option α} {r : α} (h : c → Ev g r) (k : ¬ c → Ev f r) : Ev (fun n => if c then g n else f n) r := by
  by_cases hc : c
  · exact Ev.yes hc (h hc)
  · exact Ev.no hc (k hc)
theorem Ev.bindc {α β : Type} {o : Option α} {a : α} {f : Nat → α → Option β} {r : β} (h : o = some a) (k : Ev (fun n => f n a) r) : Ev (fun n => o.bind (f n)) r := by subst h; exact k
theorem Ev.round {α : Type} {g : Nat → Option α} {r : α} (h : Ev (fun k => g (k + 1)) r) : Ev g r := Ev.step (fun _ => rfl) h
theorem Ev.conv {α : Type} {g : Nat → Option α} {r s : α} (k : Ev g r) (h : r = s) : Ev g s := h ▸ k
theorem bind_some_ {α β : Type} (a : α) (f : α → Option β) : (some a).bind f = f a := rfl
/-- A loop that counts: from each place on, the answer is what 'val' says. -/
theorem Ev.loop {σ β : Type} (g : Nat → Nat → σ → Option β) (n : Nat) (val : Nat → σ → β) (Inv : Nat → σ → Prop)
    (done : ∀ s, Inv n s → Ev (fun k => g k n s) (val n s))
    (step : ∀ i s, i < n → Inv i s → (∀ s', Inv (i + 1) s' → Ev (fun k => g k (i + 1) s') (val (i + 1) s')) → Ev (fun k => g k i s) (val i s)) :
    ∀ i s, i ≤ n → Inv i s → Ev (fun k => g k i s) (val i s) := by
  have : ∀ d i s, i + d = n → Inv i s → Ev (fun k => g k i s) (val i s) := by
    intro d
    induction d with
    | zero =>
      intro i s hi hs
      obtain rfl : i = n := by omega
      exact done s hs
    | succ d ih => intro i s hi hs; exact step i s (by omega) hs (fun s' hs' => ih (i + 1) s' (by omega) hs')
  intro i s hi hs
  exact this (n - i) i s (by omega) hs
theorem getD_lt {α : Type} {l : List α} {i : Nat} (h : i < l.length) (d : α) : l.getD i d = l[i] := by simp [List.getD_eq_getElem?_getD, h]
theorem rd_get {l : List Int} {i : Nat} (h : i < l.length) : rd l (i : Int) = l[i] := by unfold rd; exact getD_lt h _
theorem take_fill {α β : Type} (f : α → β) (l : List α) (z : β) {i : Nat} (h : i < l.length) :
    ((l.take i).map f ++ List.replicate (l.length - i) z).set i (f l[i]) = (l.take (i + 1)).map f ++ List.replicate (l.length - (i + 1)) z := by
  have e : l.length - i = (l.length - (i + 1)) + 1 := by omega
  rw [e, List.replicate_succ, List.set_append_right _ _ (by simp; omega)]
  have : i - (List.map f (List.take i l)).length = 0 := by simp; omega
  rw [this, List.set_cons_zero, List.take_succ_eq_append_getElem h, List.map_append]
  simp
theorem fill_len {α β : Type} (f : α → β) (l : List α) (z : β) {i : Nat} (h : i ≤ l.length) : ((l.take i).map f ++ List.replicate (l.length - i) z).length = l.length := by simp; omega
theorem fill_end {α β : Type} (f : α → β) (l : List α) (z : β) : (l.take l.length).map f ++ List.replicate (l.length - l.length) z = l.map f := by simp
theorem drop_get {α : Type} {l : List α} {i : Nat} (h : i < l.length) : l.drop i = l[i] :: l.drop (i + 1) := List.drop_eq_getElem_cons h
theorem drop_end {α : Type} (l : List α) : l.drop l.length = [] := List.drop_eq_nil_of_le (Nat.le_refl _)
/-! extends -/
def M.eqLE (a b : S25) : Bool := (a.f0 == b.f0 && (a.f1 == b.f1 && (a.f2 == b.f2 && (a.f3 == b.f3 && (a.f4 == b.f4 && a.f5 == b.f5)))))
def M.extends : List S25 → List S25 → Bool
  | _, [] => true
  | [], _ :: _ => false
  | a :: l, b :: r => M.eqLE a b && M.extends l r
theorem extends_short : ∀ {l r : List S25}, l.length < r.length → M.extends l r = false
  | _, [], h => by simp at h
  | [], _ :: _, _ => rfl
  | a :: l, b :: r, h => by simp only [M.extends, extends_short (l := l) (r := r) (by simpa using h), Bool.and_false]
theorem neLE (a b : S25) : (!(a.f0 == b.f0) || (!(a.f1 == b.f1) || (!(a.f2 == b.f2) || (!(a.f3 == b.f3) || (!(a.f4 == b.f4) || (!(a.f5 == b.f5))))))) = !M.eqLE a b := by
  unfold M.eqLE; cases a.f0 == b.f0 <;> cases a.f1 == b.f1 <;> cases a.f2 == b.f2 <;> cases a.f3 == b.f3 <;> cases a.f4 == b.f4 <;> rfl
/-! rd-LogEntry -/
theorem rd_LogEntry {l : List S25} {i : Nat} (h : i < l.length) : rd_T25 l (i : Int) = l[i] := by unfold rd_T25; exact getD_lt h _
/-! impl_ExtendsLog -/
theorem impl_ExtendsLog.ev (l r : List S25) (hl : l.length ≤ 1048576) (hr : r.length ≤ 1048576) : Ev (fun k => impl_ExtendsLog.f k l r) (M.extends l r) := by
  unfold impl_ExtendsLog.f
  refine Ev.ite (fun h => Ev.eq (extends_short (by omega)).symm) (fun h => ?_)
  refine Ev.loop (fun k i (_ : Unit) => impl_ExtendsLog.l0 k l r r.length (i : Int)) r.length (fun i _ => M.extends (l.drop i) (r.drop i)) (fun _ _ => True) ?_ ?_ 0 () (by omega) trivial
  · rintro s _
    refine Ev.round ?_
    simp only [impl_ExtendsLog.l0]
    exact Ev.no (by omega) (Ev.eq (by rw [drop_end]; cases l.drop r.length <;> rfl))
  · rintro i s hi _ ih
    have hi2 : i < l.length := by omega
    refine Ev.round ?_
    simp only [impl_ExtendsLog.l0, wrap_succ hi (by omega : r.length ≤ _), rd_LogEntry hi, rd_LogEntry hi2, neLE]
    rw [drop_get hi, drop_get hi2]
    refine Ev.yes (by omega) (Ev.yes (by omega) (Ev.yes (by omega) (Ev.yes (by omega) (Ev.ite (fun h => ?_) (fun h => ?_)))))
    · exact Ev.eq (by simp at h; simp [M.extends, h])
    · refine Ev.conv (ih () trivial) (by simp at h; simp [M.extends, h])
/-! laws_eqLogEntryS -/
theorem laws_eqLogEntryS.refl (l : List S25) (hl : l.length ≤ 1048576) : Ev (fun k => laws_eqLogEntryS.f k l l) true := by
  unfold laws_eqLogEntryS.f
  refine Ev.yes rfl ?_
  refine Ev.loop (fun k i (_ : Unit) => laws_eqLogEntryS.l0 k l l (i : Int)) l.length (fun _ _ => true) (fun _ _ => True) ?_ ?_ 0 () (by omega) trivial
  · rintro s _
    refine Ev.round ?_
    simp only [laws_eqLogEntryS.l0]
    exact Ev.no (by omega) (Ev.now _)
  · rintro i s hi _ ih
    refine Ev.round ?_
    simp only [laws_eqLogEntryS.l0, wrap_succ hi (by omega : l.length ≤ _), laws_eqLogEntry.f, if_true, bind_some_]
    exact Ev.yes (by omega) (Ev.yes (by omega) (Ev.yes (by omega) (ih () trivial)))
/-! sz -/
def M.sz (n : Nat) (a : Int) : Int := if a - n < 0 then -1 else a - n
theorem sz_eq (n : Nat) (a : Int) (ha : 0 ≤ a) (ha2 : a ≤ 1048576) (hn : n ≤ 9223372036854775807) : (if (wrap64 (a - (n : Int))) < 0 then (some (-1)) else (some (wrap64 (a - (n : Int)))) : Option Int) = some (M.sz n a) := by
  rw [wrap_in (by omega) (by omega)]; unfold M.sz; split <;> rfl
theorem sz_over {n : Nat} {a : Int} (h : a < n) : M.sz n a = -1 := by unfold M.sz; rw [if_pos (by omega)]
theorem sz_fits {n : Nat} {a : Int} (h : (n : Int) ≤ a) : M.sz n a = a - n := by unfold M.sz; rw [if_neg (by omega)]
theorem sz_wrap (n : Nat) (a : Int) : (if M.sz n a < 0 then (some (-1)) else (some (M.sz n a)) : Option Int) = some (M.sz n a) := by
  unfold M.sz; split <;> simp_all
theorem sz_add (n m : Nat) (a : Int) : (if M.sz n a < 0 then -1 else M.sz m (M.sz n a)) = M.sz (n + m) a := by
  unfold M.sz; split <;> split <;> simp_all <;> omega
/-- A law's own look at the size of an argument. -/
theorem Ev.size {n : Nat} {a : Int} {f : Nat → Option Bool} (h : (n : Int) ≤ a → Ev f true) : Ev (fun k => if M.sz n a < 0 then some true else f k) true := by
  by_cases hn : (n : Int) ≤ a
  · exact Ev.no (by rw [sz_fits hn]; omega) (h hn)
  · exact Ev.yes (by rw [sz_over (by omega)]; omega) (Ev.now _)
/-! laws_szLogEntryS -/
theorem laws_szLogEntryS.eq (l : List S23) (a : Int) (ha : 0 ≤ a) (ha2 : a ≤ 1048576) (hl : l.length ≤ 9223372036854775807) : laws_szLogEntryS.f l a = some (M.sz l.length a) := by
  unfold laws_szLogEntryS.f; exact sz_eq _ _ ha ha2 hl
/-! rd-lLogEntry -/
theorem rd_lLogEntry {l : List S23} {i : Nat} (h : i < l.length) : rd_T23 l (i : Int) = l[i] := by unfold rd_T23; exact getD_lt h _
/-! laws_toLogEntryS -/
def M.toLogEntry (e : S23) : S25 := ⟨e.f0, e.f1, e.f2, e.f3, e.f4, e.f5⟩
theorem laws_toLogEntryS.ev (l : List S23) (hl : l.length ≤ 1048576) : Ev (fun k => laws_toLogEntryS.f k l) (l.map M.toLogEntry) := by
  unfold laws_toLogEntryS.f
  refine Ev.yes (by omega) (Ev.yes (by omega) ?_)
  refine Ev.loop (fun k i x => laws_toLogEntryS.l0 k l x (i : Int)) l.length (fun _ _ => l.map M.toLogEntry) (fun i x => x = (l.take i).map M.toLogEntry ++ List.replicate (l.length - i) z25) ?_ ?_ 0 _ (by omega) (by simp)
  · rintro s rfl
    refine Ev.round ?_
    simp only [laws_toLogEntryS.l0]
    exact Ev.no (by omega) (Ev.eq (fill_end _ _ _))
  · rintro i s hi rfl ih
    refine Ev.round ?_
    simp only [laws_toLogEntryS.l0, rd_lLogEntry hi, laws_toLogEntry.f, bind_some_, wrap_succ hi (by omega : l.length ≤ _), Int.toNat_natCast]
    refine Ev.yes (by omega) (Ev.yes (by omega) (Ev.yes (by rw [fill_len _ _ _ (by omega)]; omega) ?_))
    exact ih _ (take_fill M.toLogEntry l z25 hi)
/-! spec_ExtendsLog -/
theorem spec_ExtendsLog.ev (l r : List S25) (hl : l.length ≤ 1048576) (hr : r.length ≤ 1048576) : Ev (fun k => spec_ExtendsLog.f k l r) (M.extends l r) := by
  unfold spec_ExtendsLog.f
  refine Ev.ite (fun h => Ev.eq (extends_short (by omega)).symm) (fun h => ?_)
  refine Ev.loop (fun k i (_ : Unit) => spec_ExtendsLog.l0 k l r (i : Int)) r.length (fun i _ => M.extends (l.drop i) (r.drop i)) (fun _ _ => True) ?_ ?_ 0 () (by omega) trivial
  · rintro s _
    refine Ev.round ?_
    simp only [spec_ExtendsLog.l0]
    exact Ev.no (by omega) (Ev.eq (by rw [drop_end]; cases l.drop r.length <;> rfl))
  · rintro i s hi _ ih
    have hi2 : i < l.length := by omega
    refine Ev.round ?_
    simp only [spec_ExtendsLog.l0, wrap_succ hi (by omega : r.length ≤ _), rd_LogEntry hi, rd_LogEntry hi2, neLE]
    rw [drop_get hi, drop_get hi2]
    refine Ev.yes (by omega) (Ev.yes (by omega) (Ev.yes (by omega) (Ev.ite (fun h => ?_) (fun h => ?_))))
    · exact Ev.eq (by simp at h; simp [M.extends, h])
    · refine Ev.conv (ih () trivial) (by simp at h; simp [M.extends, h])

/-! the law -/
theorem FnExactExtendsLog : ∀ (l0 : List (S23)) (l1 : List (S23)), l0.length ≤ 9223372036854775807 → l1.length ≤ 9223372036854775807 → ∃ k, laws_FnExactExtendsLog.f k l0 l1 = some true := by
  intro l0 l1 h0 h1
  apply Ev.rounds (r := true)
  unfold laws_FnExactExtendsLog.f
  refine Ev.bindc (laws_szLogEntryS.eq _ _ (by decide) (by decide) h0) (Ev.size fun g0 => ?_)
  rw [sz_fits g0]
  refine Ev.bindc (laws_szLogEntryS.eq _ _ (by omega) (by omega) h1) (Ev.size fun g1 => ?_)
  have b0 : l0.length ≤ 1048576 := by omega
  have b1 : l1.length ≤ 1048576 := by omega
  have c0 : (l0.map M.toLogEntry).length ≤ 1048576 := by simpa using b0
  have c1 : (l1.map M.toLogEntry).length ≤ 1048576 := by simpa using b1
  have t0 := laws_toLogEntryS.ev l0 b0
  have t1 := laws_toLogEntryS.ev l1 b1
  refine Ev.bind t0 (Ev.bind t1 (Ev.bind (spec_ExtendsLog.ev _ _ c0 c1) (Ev.bind t0 (Ev.bind t1 (Ev.bind (impl_ExtendsLog.ev _ _ c0 c1) (Ev.no (by simp) ?_))))))
  exact Ev.bind t0 (Ev.bind (laws_eqLogEntryS.refl _ c0) (Ev.yes rfl (Ev.bind t1 (Ev.bind (laws_eqLogEntryS.refl _ c1) (Ev.yes rfl (Ev.now _))))))
end Go.Proofs.Ytghbdajdmdcoiaa.Pure
