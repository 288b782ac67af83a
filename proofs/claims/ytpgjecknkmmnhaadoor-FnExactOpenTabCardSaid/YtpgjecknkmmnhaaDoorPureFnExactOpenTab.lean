/- The program's OpenTab returns what the reference's returns, for all arguments. -/
import Derived.Test.YtpgjecknkmmnhaaDoorOpFnExactOpenTab
import Derived.Test.YtpgjecknkmmnhaaDoorTFnExactOpenTab
namespace Go.Proofs.YtpgjecknkmmnhaaDoor.Pure
open Go.RowKit Go.Proofs.YtpgjecknkmmnhaaDoor.PFnExactOpenTab Go.Proofs.YtpgjecknkmmnhaaDoorW.PrintWords Go.Proofs.YtpgjecknkmmnhaaDoorW.PrintLast Go.Proofs.YtpgjecknkmmnhaaDoor.Lib
set_option linter.unusedVariables false
set_option linter.unusedSimpArgs false

/-! base -/
theorem wrap_in {n : Int} (h1 : -9223372036854775808 ≤ n) (h2 : n ≤ 9223372036854775807) : wrap64 n = n := by unfold wrap64; omega
theorem wrap_succ {i n : Nat} (h : i < n) (hn : n ≤ 1152921504606846976) : wrap64 ((i : Int) + 1) = ((i + 1 : Nat) : Int) := by unfold wrap64; omega
theorem wrap_pred {i : Nat} (h : 0 < i) (hn : i ≤ 1152921504606846976) : wrap64 ((i : Int) - 1) = ((i - 1 : Nat) : Int) := by unfold wrap64; omega
theorem Ev.eq {α : Type} {r s : α} (h : r = s) : Ev (fun _ => some r) s := h ▸ Ev.now r
theorem Ev.opt {α : Type} {o : Option α} {r : α} (h : o = some r) : Ev (fun _ => o) r := h ▸ Ev.now r
theorem Ev.yes {α : Type} {c : Prop} [Decidable c] {g f : Nat → Option α} {r : α} (h : c) (k : Ev g r) : Ev (fun n => if c then g n else f n) r := by simpa [h] using k
theorem Ev.no {α : Type} {c : Prop} [Decidable c] {g f : Nat → Option α} {r : α} (h : ¬ c) (k : Ev f r) : Ev (fun n => if c then g n else f n) r := by simpa [h] using k
theorem Ev.ite {α : Type} {c : Prop} [Decidable c] {g f : Nat → Option α} {r : α} (h : c → Ev g r) (k : ¬ c → Ev f r) : Ev (fun n => if c then g n else f n) r := by
  by_cases hc : c
  · exact Ev.yes hc (h hc)
  · exact Ev.no hc (k hc)
theorem Ev.bindc {α β : Type} {o : Option α} {a : α} {f : Nat → α → Option β} {r : β} (h : o = some a) (k : Ev (fun n => f n a) r) : Ev (fun n => o.bind (f n)) r := by subst h; exact k
theorem Ev.round {α : Type} {g : Nat → Option α} {r : α} (h : Ev (fun k => g (k + 1)) r) : Ev g r := Ev.step (fun _ => rfl) h
theorem Ev.conv {α : Type} {g : Nat → Option α} {r s : α} (k : Ev g r) (h : r = s) : Ev g s := h ▸ k
theorem bind_some_ {α β : Type} (a : α) (f : α → Option β) : (some a).bind f = f a := rfl
/-- A loop that counts: from each place on, the answer is what 'val' says. -/
theorem Ev.loop {σ β : Type} (g : Nat → Nat → σ → Option β) (n : Nat) (val : Nat → σ → β) (Inv : Nat → σ → Prop)
    (done : ∀ s, Inv n s → Ev (fun k => g k n s) (val n s))
    (step : ∀ i s, i < n → Inv i s → (∀ s', Inv (i + 1) s' → Ev (fun k => g k (i + 1) s') (val (i + 1) s')) → Ev (fun k => g k i s) (val i s)) :
    ∀ i s, i ≤ n → Inv i s → Ev (fun k => g k i s) (val i s) := by
  have : ∀ d i s, i + d = n → Inv i s → Ev (fun k => g k i s) (val i s) := by
    intro d
    induction d with
    | zero =>
      intro i s hi hs
      obtain rfl : i = n := by omega
      exact done s hs
    | succ d ih => intro i s hi hs; exact step i s (by omega) hs (fun s' hs' => ih (i + 1) s' (by omega) hs')
  intro i s hi hs
  exact this (n - i) i s (by omega) hs
theorem getD_lt {α : Type} {l : List α} {i : Nat} (h : i < l.length) (d : α) : l.getD i d = l[i] := by simp [List.getD_eq_getElem?_getD, h]
theorem rd_get {l : List Int} {i : Nat} (h : i < l.length) : rd l (i : Int) = l[i] := by unfold rd; exact getD_lt h _
theorem take_fill {α β : Type} (f : α → β) (l : List α) (z : β) {i : Nat} (h : i < l.length) :
    ((l.take i).map f ++ List.replicate (l.length - i) z).set i (f l[i]) = (l.take (i + 1)).map f ++ List.replicate (l.length - (i + 1)) z := by
  have e : l.length - i = (l.length - (i + 1)) + 1 := by omega
  rw [e, List.replicate_succ, List.set_append_right _ _ (by simp; omega)]
  have : i - (List.map f (List.take i l)).length = 0 := by simp; omega
  rw [this, List.set_cons_zero, List.take_succ_eq_append_getElem h, List.map_append]
  simp
theorem fill_len {α β : Type} (f : α → β) (l : List α) (z : β) {i : Nat} (h : i ≤ l.length) : ((l.take i).map f ++ List.replicate (l.length - i) z).length = l.length := by simp; omega
theorem fill_end {α β : Type} (f : α → β) (l : List α) (z : β) : (l.take l.length).map f ++ List.replicate (l.length - l.length) z = l.map f := by simp
theorem drop_get {α : Type} {l : List α} {i : Nat} (h : i < l.length) : l.drop i = l[i] :: l.drop (i + 1) := List.drop_eq_getElem_cons h
theorem drop_end {α : Type} (l : List α) : l.drop l.length = [] := List.drop_eq_nil_of_le (Nat.le_refl _)
/-! labels -/
/-- The pieces between the dots. -/
def M.ofl (x : List UInt8) : ByteArray := ⟨x.toArray⟩
def M.glue (pre : List UInt8) : List (List UInt8) → List (List UInt8)
  | [] => [pre]
  | p :: ps => (pre ++ p) :: ps
def M.labs : List UInt8 → List (List UInt8)
  | [] => [[]]
  | b :: l => if b = 46 then [] :: M.labs l else M.glue [b] (M.labs l)
theorem labs_ne : ∀ l, M.labs l ≠ []
  | [] => by simp [M.labs]
  | b :: l => by
    unfold M.labs
    split
    · simp
    · cases M.labs l <;> simp [M.glue]
theorem glue_glue (a b : List UInt8) (L : List (List UInt8)) : M.glue a (M.glue b L) = M.glue (a ++ b) L := by
  cases L <;> simp [M.glue]
theorem glue_nil {L : List (List UInt8)} (h : L ≠ []) : M.glue [] L = L := by
  cases L with
  | nil => exact absurd rfl h
  | cons p ps => rfl
theorem ofl_eq {s : ByteArray} {x : List UInt8} (h : s.data.toList = x) : s = M.ofl x := by
  subst h; rfl
theorem ofl_data (x : List UInt8) : (M.ofl x).data.toList = x := by simp [M.ofl]
theorem splitK_labs : ∀ l : List UInt8, Go.Lib.splitK [46] 0 (l.count 46) l = M.labs l
  | [] => rfl
  | b :: l => by
    have ih := splitK_labs l
    by_cases h : b = 46
    · subst h
      have hix : Go.Lib.index ((46 : UInt8) :: l) [46] = 0 := by rw [Go.Lib.index]; simp [List.isPrefixOf]
      rw [List.count_cons_self, Go.Lib.splitK, hix]
      simp only [M.labs, if_true]
      rw [if_neg (by decide)]
      simpa using ih
    · have hix : Go.Lib.index (b :: l) [46] = if Go.Lib.index l [46] == -1 then -1 else Go.Lib.index l [46] + 1 := by
        rw [Go.Lib.index]; simp [List.isPrefixOf, Ne.symm h]
      rw [List.count_cons_of_ne (by simpa using h)]
      unfold M.labs
      rw [if_neg h, ← ih]
      cases hk : l.count 46 with
      | zero => simp [Go.Lib.splitK, M.glue]
      | succ k =>
        unfold Go.Lib.splitK
        rw [hix]
        by_cases hm : Go.Lib.index l [46] = -1
        · simp [hm, M.glue]
        · have hge := Go.Lib.index_ge l [46]
          obtain ⟨j, hj⟩ : ∃ j : Nat, Go.Lib.index l [46] = j := ⟨(Go.Lib.index l [46]).toNat, by omega⟩
          have e1 : ((j : Int) + 1).toNat = j + 1 := by omega
          have e2 : (((j : Int) == -1) = true) ↔ False := by constructor <;> intro h <;> simp at h <;> omega
          have e3 : ((((j : Int) + 1) == -1) = true) ↔ False := by constructor <;> intro h <;> simp at h <;> omega
          rw [hj]
          simp only [if_neg (fun h => e2.1 h), if_neg (fun h => e3.1 h), e1, Int.toNat_natCast, M.glue]
          simp
theorem labs_len : ∀ l : List UInt8, (M.labs l).length ≤ l.length + 1
  | [] => by simp [M.labs]
  | b :: l => by
    have := labs_len l
    unfold M.labs
    split
    · simp; omega
    · cases h : M.labs l with
      | nil => simp [M.glue]
      | cons p ps => rw [h] at this; simp [M.glue] at *; omega
theorem bt_get {s : ByteArray} {i : Nat} (h : i < s.size) (h' : i < s.data.toList.length) : bt s (i : Int) = ((s.data.toList[i]).toNat : Int) := by
  unfold bt
  rw [dif_pos (by simpa using h)]
  simp only [Int.toNat_natCast]
  rfl
/-! label -/
def M.okB (c : Int) : Bool := decide ((97 ≤ c ∧ c ≤ 122) ∨ (48 ≤ c ∧ c ≤ 57) ∨ c = 45)
def M.okFrom (s : ByteArray) (i : Nat) : Bool := ((List.range s.size).drop i).all fun j => M.okB (bt s (j : Int))
theorem okFrom_end (s : ByteArray) : M.okFrom s s.size = true := by unfold M.okFrom; rw [List.drop_eq_nil_of_le (by simp)]; rfl
theorem okFrom_step {s : ByteArray} {i : Nat} (h : i < s.size) : M.okFrom s i = (M.okB (bt s (i : Int)) && M.okFrom s (i + 1)) := by
  unfold M.okFrom
  rw [drop_get (by simpa using h : i < (List.range s.size).length)]
  simp
def M.ends (s : ByteArray) : Bool := decide (1 ≤ s.size ∧ s.size ≤ 20) && (decide (bt s 0 ≠ 45) && decide (bt s ((s.size - 1 : Nat) : Int) ≠ 45))
def M.okLabel (s : ByteArray) : Bool := M.okFrom s 0 && M.ends s
theorem okB_1 {c : Int} (h : c ≥ 97) (h2 : c ≤ 122) : M.okB c = true := by unfold M.okB; simp; omega
theorem okB_2 {c : Int} (h : c ≥ 48) (h2 : c ≤ 57) : M.okB c = true := by unfold M.okB; simp; omega
theorem okB_3 {c : Int} (h : c = 45) : M.okB c = true := by unfold M.okB; simp; omega
theorem okB_no {c : Int} (h1 : ¬ (c ≥ 97 ∧ c ≤ 122)) (h2 : ¬ (c ≥ 48 ∧ c ≤ 57)) (h3 : ¬ c = 45) : M.okB c = false := by unfold M.okB; simp; omega
/-- The test of a byte, as both sides spell it. -/
theorem Ev.byte {c : Int} {g : Nat → Option Bool} {r : Bool} (h : M.okB c = true → Ev g r) (h2 : M.okB c = false → r = false) :
    Ev (fun k => if c ≥ 97 then (if c ≤ 122 then g k else (if c ≥ 48 then (if c ≤ 57 then g k else (if c = 45 then g k else some false)) else (if c = 45 then g k else some false))) else (if c ≥ 48 then (if c ≤ 57 then g k else (if c = 45 then g k else some false)) else (if c = 45 then g k else some false))) r := by
  refine Ev.ite (fun a => Ev.ite (fun b => h (okB_1 a b)) (fun b => Ev.ite (fun d => Ev.ite (fun e => h (okB_2 d e)) (fun e => Ev.ite (fun x => h (okB_3 x)) (fun x => Ev.eq ?_))) (fun d => Ev.ite (fun x => h (okB_3 x)) (fun x => Ev.eq ?_)))) (fun a => Ev.ite (fun d => Ev.ite (fun e => h (okB_2 d e)) (fun e => Ev.ite (fun x => h (okB_3 x)) (fun x => Ev.eq ?_))) (fun d => Ev.ite (fun x => h (okB_3 x)) (fun x => Ev.eq ?_)))
  all_goals exact (h2 (okB_no (by omega) (by omega) x)).symm
/-! ishost -/
def M.isHost (s : ByteArray) : Bool := (((M.labs s.data.toList).map M.ofl).all M.okLabel) && decide (s.size ≤ 60)
theorem rdOf_get {α : Type} {d : α} {l : List α} {i : Nat} (h : i < l.length) : rdOf d l (i : Int) = l[i] := by unfold rdOf; exact getD_lt h _
theorem labs_size : ∀ (l : List UInt8), ∀ p ∈ M.labs l, p.length ≤ l.length
  | [], p, h => by simp [M.labs] at h; subst h; simp
  | b :: l, p, h => by
    have ih := labs_size l
    unfold M.labs at h
    split at h
    · rcases List.mem_cons.1 h with rfl | h
      · simp
      · have := ih p h; simp; omega
    · cases hl : M.labs l with
      | nil => rw [hl] at h; simp [M.glue] at h; subst h; simp
      | cons q qs =>
        rw [hl] at h ih
        simp only [M.glue] at h
        rcases List.mem_cons.1 h with rfl | h
        · have := ih q (by simp); simp; omega
        · have := ih p (by simp [h]); simp; omega
theorem label_size (s : ByteArray) {p : ByteArray} (h : p ∈ (M.labs s.data.toList).map M.ofl) : p.size ≤ s.size := by
  obtain ⟨q, hq, rfl⟩ := List.mem_map.1 h
  have := labs_size _ q hq
  rw [Go.Lib.size_eq, Go.Lib.size_eq, ofl_data]; exact this
/-! inrange -/
def M.inr (a b c : Int) : Bool := decide (b ≤ a ∧ a ≤ c)
theorem inr_true {a b c : Int} : M.inr a b c = true ↔ b ≤ a ∧ a ≤ c := by simp [M.inr]
/-! isorigin -/
def M.isOrigin (s : ByteArray) (p : Int) : Bool := M.isHost s && M.inr p 1 65535
/-! rd-Tab -/
theorem rd_Tab {l : List S49} {i : Nat} (h : i < l.length) : rd_T49 l (i : Int) = l[i] := by unfold rd_T49; exact getD_lt h _
/-! opentab -/
def M.openTab (l : List S49) (o t : S38) : List S49 × Bool :=
  if M.isOrigin o.f1 o.f2 = true ∧ M.isOrigin t.f1 t.f2 = true ∧ l.length < 8 then (l ++ [⟨o, t⟩], true) else (l, false)
theorem openTab_len (l : List S49) (o t : S38) : (M.openTab l o t).1.length ≤ l.length + 1 := by
  unfold M.openTab; split <;> simp
/-! impl_copyBrowser -/
theorem impl_copyBrowser.eq (x y z u : Int) (l : List S49) (v : Int) (hl : l.length ≤ 1048577) : impl_copyBrowser.f x y z u l v = some (x, y, z, u, l, v) := by
  unfold impl_copyBrowser.f
  rw [bind_some_, if_pos (by (simp <;> omega)), List.nil_append]
/-! split -/
theorem strings_Split.eq (s : ByteArray) (hs : s.size < 4294967281) : strings_Split.f s (⟨#[46]⟩ : ByteArray) = some ((M.labs s.data.toList).map M.ofl) := by
  unfold strings_Split.f
  rw [if_pos ⟨hs, by decide⟩]
  congr 1
  have e := Go.Lib.splitB_data (⟨#[46]⟩ : ByteArray) 0 (Go.Lib.countB s ⟨#[46]⟩) s
  have e2 : Go.Lib.countB s (⟨#[46]⟩ : ByteArray) = s.data.toList.count 46 := Go.Lib.count_one 46 _
  rw [e2] at e ⊢
  have e3 := e.trans (splitK_labs s.data.toList)
  rw [← e3, List.map_map]
  have : (M.ofl ∘ fun x : ByteArray => x.data.toList) = id := by funext x; rfl
  rw [this, List.map_id]
/-! impl_IsHost -/
theorem impl_IsHost.ev (s : ByteArray) : Ev (fun k => impl_IsHost.f k s) (M.isHost s) := by
  unfold impl_IsHost.f M.isHost
  refine Ev.ite (fun h => Ev.eq ?_) (fun h => ?_)
  · rw [decide_eq_false (by omega), Bool.and_false]
  rw [decide_eq_true (by omega), Bool.and_true]
  refine Ev.bindc (strings_Split.eq s (by omega)) ?_
  have hm : ∀ p ∈ (M.labs s.data.toList).map M.ofl, p.size ≤ s.size := fun p hp => label_size s hp
  have hl : ((M.labs s.data.toList).map M.ofl).length ≤ 1152921504606846976 := by
    have := labs_len s.data.toList; rw [← Go.Lib.size_eq] at this; simp; omega
  generalize (M.labs s.data.toList).map M.ofl = L at hm hl
  refine Ev.conv (Ev.loop (fun k i (_ : Unit) => impl_IsHost.l0 k L (L.length : Int) (i : Int)) L.length (fun i _ => (L.drop i).all M.okLabel) (fun _ _ => True) ?_ ?_ 0 () (by omega) trivial) (by simp)
  · rintro x _
    refine Ev.round ?_
    simp only [impl_IsHost.l0]
    refine Ev.no (by omega) (Ev.eq ?_)
    rw [drop_end]; rfl
  · rintro i x hi _ ih
    have hsz := hm _ (List.getElem_mem hi)
    refine Ev.round ?_
    simp only [impl_IsHost.l0, rdOf_get hi]
    rw [drop_get hi, List.all_cons]
    generalize L[i] = p at hsz
    have no : M.ends p = false → Ev (fun k => impl_IsHost.j1 k p L (L.length : Int) (i : Int) true) (M.okLabel p && (L.drop (i + 1)).all M.okLabel) := by
      intro he
      refine Ev.round ?_
      simp only [impl_IsHost.j1]
      exact Ev.yes (by trivial) (Ev.eq (by unfold M.okLabel; rw [he, Bool.and_false, Bool.false_and]))
    refine Ev.yes (by omega) (Ev.yes (by omega) (Ev.yes (by omega) (Ev.ite (fun h1 => no ?_) (fun h1 => Ev.ite (fun h2 => no ?_) (fun h2 => Ev.yes (by omega) (Ev.ite (fun h3 => no ?_) (fun h3 => ?_)))))))
    · unfold M.ends; rw [decide_eq_false (by omega)]; rfl
    · unfold M.ends; rw [decide_eq_false (by omega)]; rfl
    · unfold M.ends; simp [h3]
    · rw [wrap_pred (by omega : 0 < p.size) (by omega)]
      refine Ev.yes (by omega) (Ev.yes (by omega) ?_)
      by_cases h4 : bt p ((p.size - 1 : Nat) : Int) = 45
      · rw [show (bt p ((p.size - 1 : Nat) : Int) == 45) = true by simp [h4]]
        exact no (by unfold M.ends; simp [h4])
      · rw [show (bt p ((p.size - 1 : Nat) : Int) == 45) = false by simp [h4]]
        have he : M.ends p = true := by
          unfold M.ends; rw [decide_eq_true (by omega : 1 ≤ p.size ∧ p.size ≤ 20), decide_eq_true h3, decide_eq_true h4]; rfl
        refine Ev.round ?_
        simp only [impl_IsHost.j1]
        refine Ev.no (by simp) ?_
        unfold M.okLabel
        rw [he, Bool.and_true]
        refine Ev.loop (fun k j (_ : Unit) => impl_IsHost.l1 k p (j : Int) L (L.length : Int) (i : Int)) p.size (fun j _ => M.okFrom p j && (L.drop (i + 1)).all (fun p => M.okFrom p 0 && M.ends p)) (fun _ _ => True) ?_ ?_ 0 () (by omega) trivial
        · rintro y _
          refine Ev.round ?_
          simp only [impl_IsHost.l1, wrap_succ hi hl]
          rw [okFrom_end, Bool.true_and]
          exact Ev.no (by omega) (ih () trivial)
        · rintro j y hj _ ihj
          refine Ev.round ?_
          simp only [impl_IsHost.l1, wrap_succ hj (by omega : p.size ≤ _)]
          rw [okFrom_step hj]
          refine Ev.yes (by omega) (Ev.yes (by omega) (Ev.byte (fun h => ?_) (fun h => ?_)))
          · rw [h, Bool.true_and]; exact ihj () trivial
          · rw [h]; rfl
/-! impl_InRange -/
theorem impl_InRange.eq (a b c : Int) : impl_InRange.f a b c = some (M.inr a b c) := by
  unfold impl_InRange.f M.inr
  by_cases h : b ≤ a
  · rw [if_pos h]; simp [h]
  · rw [if_neg h]
    simp [h]
/-! impl_IsOrigin -/
theorem impl_IsOrigin.ev (b : Bool) (s : ByteArray) (p : Int) : Ev (fun k => impl_IsOrigin.f k b s p) (M.isOrigin s p) := by
  unfold impl_IsOrigin.f M.isOrigin
  rw [impl_InRange.eq, bind_some_]
  refine Ev.bind (impl_IsHost.ev s) (Ev.ite (fun h => Ev.eq (by rw [h, Bool.true_and])) (fun h => Ev.eq (by rw [Bool.eq_false_iff.2 h]; rfl)))
/-! impl_OpenTab -/
theorem impl_OpenTab.ev (x y z u : Int) (l : List S49) (v : Int) (b : Bool) (s : ByteArray) (p : Int) (b' : Bool) (s' : ByteArray) (p' : Int) (hl : l.length ≤ 1048577) : Ev (fun k => impl_OpenTab.f k x y z u l v b s p b' s' p') (x, y, z, u, (M.openTab l ⟨b, s, p⟩ ⟨b', s', p'⟩).1, v, (M.openTab l ⟨b, s, p⟩ ⟨b', s', p'⟩).2) := by
  unfold impl_OpenTab.f M.openTab
  simp only [impl_copyBrowser.eq _ _ _ _ _ _ hl, bind_some_]
  refine Ev.bind (impl_IsOrigin.ev b s p) (Ev.ite (fun h1 => Ev.bind (impl_IsOrigin.ev b' s' p') (Ev.ite (fun h2 => Ev.ite (fun h3 => Ev.eq ?_) (fun h3 => Ev.yes (by omega) (Ev.eq ?_))) (fun h2 => Ev.eq ?_))) (fun h1 => Ev.eq ?_))
  · rw [if_neg (fun h => by omega)]
  · rw [if_pos ⟨h1, h2, by omega⟩]
  · rw [if_neg (fun h => h2 h.2.1)]
  · rw [if_neg (fun h => h1 h.1)]
/-! laws_eqTabS -/
theorem laws_eqTabS.refl (l : List S49) (hl : l.length ≤ 1048577) : Ev (fun k => laws_eqTabS.f k l l) true := by
  unfold laws_eqTabS.f
  refine Ev.yes rfl ?_
  refine Ev.loop (fun k i (_ : Unit) => laws_eqTabS.l0 k l l (i : Int)) l.length (fun _ _ => true) (fun _ _ => True) ?_ ?_ 0 () (by omega) trivial
  · rintro s _
    refine Ev.round ?_
    simp only [laws_eqTabS.l0]
    exact Ev.no (by omega) (Ev.now _)
  · rintro i s hi _ ih
    refine Ev.round ?_
    simp only [laws_eqTabS.l0, wrap_succ hi (by omega : l.length ≤ _), laws_eqTab.f, laws_eqOrigin.f, if_true, bind_some_, bne_self_eq_false, Bool.false_eq_true, if_false]
    exact Ev.yes (by omega) (Ev.yes (by omega) (Ev.yes (by omega) (ih () trivial)))
/-! laws_eqBrowser -/
theorem laws_eqBrowser.refl (x y z u : Int) (l : List S49) (v : Int) (hl : l.length ≤ 1048577) : Ev (fun k => laws_eqBrowser.f k x y z u l v x y z u l v) true := by
  unfold laws_eqBrowser.f laws_eqKeyStore.f
  simp only [if_true, bind_some_]
  exact Ev.bind (laws_eqTabS.refl l hl) (Ev.yes rfl (Ev.now _))
/-! laws_markText -/
def M.mtl : Nat → Int → ByteArray → ByteArray
  | 0, _, x => x
  | k + 1, n, x => if n > 0 then M.mtl k (Int.tdiv n 10) ((strOfNums [wrap64 (48 + Int.tmod n 10) % 256]) ++ x) else (⟨#[109]⟩ : ByteArray) ++ x
def M.mt (n : Int) : ByteArray := if n ≤ 0 then ⟨#[109, 48]⟩ else M.mtl 40 n ⟨#[]⟩
theorem markText_l0 : ∀ (k : Nat) (n : Int) (x : ByteArray), 0 ≤ n → n < 10 ^ k → k ≤ 18 → x.size + k ≤ 1000 → ∀ j, Ev (fun f => laws_markText.l0 f n x) (M.mtl (k + 1 + j) n x)
  | 0, n, x, h0, h1, hk, hx, j => by
    have : n = 0 := by simp at h1; omega
    subst this
    refine Ev.round ?_
    simp only [laws_markText.l0]
    rw [show 0 + 1 + j = j + 1 by omega]
    unfold M.mtl
    exact Ev.no (by omega) (Ev.yes (by omega) (Ev.eq (by rw [if_neg (by omega)])))
  | k + 1, n, x, h0, h1, hk, hx, j => by
    refine Ev.round ?_
    simp only [laws_markText.l0, bind_some_]
    rw [show k + 1 + 1 + j = (k + 1 + j) + 1 by omega]
    have hp : (10 : Int) ^ (k + 1) = 10 ^ k * 10 := Int.pow_succ ..
    have hbig : (10 : Int) ^ (k + 1) ≤ 10 ^ 18 := by
      have := Nat.pow_le_pow_right (by decide : 0 < 10) hk
      exact_mod_cast this
    unfold M.mtl
    refine Ev.ite (fun h => ?_) (fun h => ?_)
    · rw [if_pos h]
      have hsz : (strOfNums [wrap64 (48 + Int.tmod n 10) % 256]).size = 1 := rfl
      have ht : Int.tdiv n 10 = n / 10 := Int.tdiv_eq_ediv_of_nonneg h0
      refine Ev.yes (by rw [hsz]; omega) ?_
      rw [wrap_in (n := Int.tdiv n 10) (by omega) (by omega)]
      exact markText_l0 k _ _ (by omega) (by omega) (by omega) (by rw [ByteArray.size_append, hsz]; omega) j
    · rw [if_neg h]
      exact Ev.yes (by omega) (Ev.now _)
theorem laws_markText.ev (n : Int) (h : n ≤ 1000000000000) : Ev (fun k => laws_markText.f k n) (M.mt n) := by
  unfold laws_markText.f M.mt
  refine Ev.ite (fun h => Ev.eq (by rw [if_pos h])) (fun h0 => ?_)
  rw [if_neg h0]
  exact markText_l0 18 n _ (by omega) (by have : (10 : Int) ^ 18 = 1000000000000000000 := by decide
                                          omega) (by omega) (by decide) 21
/-! mark-Tab -/
def M.markTab (x : Int) : S49 := ⟨⟨(Int.tmod x 3 == 0), M.mt (x + 1), x + 1 + 1⟩, ⟨(Int.tmod (x + 1 + 1 + 1) 3 == 0), M.mt (x + 1 + 1 + 1 + 1), x + 1 + 1 + 1 + 1 + 1⟩⟩
def M.markedTab (m : Nat) (n : Int) : List S49 := (List.range m).map fun (i : Nat) => M.markTab (n + 6 * (i : Int))
theorem markedTab_len (m : Nat) (n : Int) : (M.markedTab m n).length = m := by simp [M.markedTab]
theorem markedTab_get {m i : Nat} (n : Int) (h : i < (M.markedTab m n).length) : (M.markedTab m n)[i] = M.markTab (n + 6 * (i : Int)) := by simp [M.markedTab]
theorem markedTab_succ (m : Nat) (n : Int) : M.markedTab (m + 1) n = M.markedTab m n ++ [M.markTab (n + 6 * (m : Int))] := by simp [M.markedTab, List.range_succ]
/-! laws_heldTabS -/
theorem laws_heldTabS.ev (m : Nat) (n : Int) (hl : m ≤ 1048577) (hn : 0 ≤ n) (hn2 : n ≤ 1000000000) : Ev (fun k => laws_heldTabS.f k (M.markedTab m n) n) (n + 6 * (m : Int)) := by
  unfold laws_heldTabS.f
  refine Ev.loop (fun k i x => laws_heldTabS.l0 k (M.markedTab m n) x (i : Int)) m (fun _ _ => n + 6 * (m : Int)) (fun i x => x = n + 6 * (i : Int)) ?_ ?_ 0 n (by omega) (by simp)
  · rintro x rfl
    refine Ev.round ?_
    simp only [laws_heldTabS.l0, markedTab_len]
    exact Ev.no (by omega) (Ev.now _)
  · rintro i x hi hx ih
    have w0 : wrap64 (x + 1) = x + 1 := wrap_in (by omega) (by omega)
    have w1 : wrap64 (x + 1 + 1) = x + 1 + 1 := wrap_in (by omega) (by omega)
    have w2 : wrap64 (x + 1 + 1 + 1) = x + 1 + 1 + 1 := wrap_in (by omega) (by omega)
    have w3 : wrap64 (x + 1 + 1 + 1 + 1) = x + 1 + 1 + 1 + 1 := wrap_in (by omega) (by omega)
    have w4 : wrap64 (x + 1 + 1 + 1 + 1 + 1) = x + 1 + 1 + 1 + 1 + 1 := wrap_in (by omega) (by omega)
    have w5 : wrap64 (x + 1 + 1 + 1 + 1 + 1 + 1) = x + 1 + 1 + 1 + 1 + 1 + 1 := wrap_in (by omega) (by omega)
    have e : rd_T49 (M.markedTab m n) (i : Int) = M.markTab x := by rw [rd_Tab (by rw [markedTab_len]; exact hi), markedTab_get, ← hx]
    refine Ev.round ?_
    simp only [laws_heldTabS.l0, markedTab_len, wrap_succ hi (by omega : m ≤ _), e, M.markTab, w0, w1, w2, w3, w4, w5, if_true, bne_self_eq_false, Bool.false_eq_true, if_false]
    refine Ev.yes (by omega) (Ev.yes (by omega) (Ev.bind (laws_markText.ev _ (by omega)) (Ev.yes (by trivial) (Ev.bind (laws_markText.ev _ (by omega)) (Ev.yes (by trivial) (ih _ (by omega)))))))
/-! laws_heldBrowser -/
theorem laws_heldBrowser.ev (x y z u : Int) (m : Nat) (v n : Int) (hl : m ≤ 1048577) (hn : 0 ≤ n) (hn2 : n ≤ 1000000000) : Ev (fun k => laws_heldBrowser.f k x y z u (M.markedTab m n) v n) (n + 6 * (m : Int)) := by
  unfold laws_heldBrowser.f; exact Ev.bind (laws_heldTabS.ev m n hl hn hn2) (Ev.no (by omega) (Ev.now _))
/-! laws_markTabS -/
theorem laws_markTabS.ev (l : List S49) (n : Int) (hl : l.length ≤ 1048577) (hn : 0 ≤ n) (hn2 : n ≤ 1000000000) : Ev (fun k => laws_markTabS.f k l n) (n + 6 * (l.length : Int), M.markedTab l.length n) := by
  unfold laws_markTabS.f
  refine Ev.loop (fun k i (s : List S49 × Int) => laws_markTabS.l0 k s.1 s.2 (i : Int)) l.length (fun _ _ => (n + 6 * (l.length : Int), M.markedTab l.length n)) (fun i s => s.1 = M.markedTab i n ++ l.drop i ∧ s.2 = n + 6 * (i : Int)) ?_ ?_ 0 (l, n) (by omega) (by simp [M.markedTab])
  · rintro ⟨s, x⟩ ⟨rfl, rfl⟩
    refine Ev.round ?_
    simp only [laws_markTabS.l0]
    refine Ev.no (by simp [markedTab_len]) (Ev.eq (by simp))
  · rintro i ⟨s, x⟩ hi ⟨hs, hx⟩ ih
    simp only at hs hx ih
    have hsl : s.length = l.length := by rw [hs]; simp [markedTab_len]; omega
    have rdset : ∀ v : S49, rd_T49 (s.set i v) (i : Int) = v := fun v => by rw [rd_Tab (by (simp <;> omega))]; simp
    have w0 : wrap64 (x + 1) = x + 1 := wrap_in (by omega) (by omega)
    have w1 : wrap64 (x + 1 + 1) = x + 1 + 1 := wrap_in (by omega) (by omega)
    have w2 : wrap64 (x + 1 + 1 + 1) = x + 1 + 1 + 1 := wrap_in (by omega) (by omega)
    have w3 : wrap64 (x + 1 + 1 + 1 + 1) = x + 1 + 1 + 1 + 1 := wrap_in (by omega) (by omega)
    have w4 : wrap64 (x + 1 + 1 + 1 + 1 + 1) = x + 1 + 1 + 1 + 1 + 1 := wrap_in (by omega) (by omega)
    have w5 : wrap64 (x + 1 + 1 + 1 + 1 + 1 + 1) = x + 1 + 1 + 1 + 1 + 1 + 1 := wrap_in (by omega) (by omega)
    refine Ev.round ?_
    simp only [laws_markTabS.l0, wrap_succ hi (by omega : l.length ≤ _), Int.toNat_natCast, bind_some_, rdset, List.set_set, w0, w1, w2, w3, w4, w5]
    refine Ev.yes (by omega) (Ev.yes (by omega) (Ev.bind (laws_markText.ev _ (by omega)) ?_))
    (try simp only [rdset, List.set_set])
    refine Ev.bind (laws_markText.ev _ (by omega)) ?_
    (try simp only [rdset, List.set_set])
    refine ih (_, _) ⟨?_, by simp only; omega⟩
    rw [markedTab_succ, ← hx, hs, List.set_append_right _ _ (by simp [markedTab_len]), markedTab_len, drop_get hi, Nat.sub_self, List.set_cons_zero, List.append_assoc]
    rfl
/-! laws_markBrowser -/
theorem laws_markBrowser.ev (x y z u : Int) (l : List S49) (v n : Int) (hl : l.length ≤ 1048577) (hn : 0 ≤ n) (hn2 : n ≤ 1000000000) : Ev (fun k => laws_markBrowser.f k x y z u l v n) (n + 6 * (l.length : Int), M.markedTab l.length n) := by
  unfold laws_markBrowser.f; exact Ev.bind (laws_markTabS.ev l n hl hn hn2) (Ev.now _)
/-! sz -/
def M.sz (n : Nat) (a : Int) : Int := if a - n < 0 then -1 else a - n
theorem sz_eq (n : Nat) (a : Int) (ha : 0 ≤ a) (ha2 : a ≤ 1048576) (hn : n ≤ 9223372036854775807) : (if (wrap64 (a - (n : Int))) < 0 then (some (-1)) else (some (wrap64 (a - (n : Int)))) : Option Int) = some (M.sz n a) := by
  rw [wrap_in (by omega) (by omega)]; unfold M.sz; split <;> rfl
theorem sz_over {n : Nat} {a : Int} (h : a < n) : M.sz n a = -1 := by unfold M.sz; rw [if_pos (by omega)]
theorem sz_fits {n : Nat} {a : Int} (h : (n : Int) ≤ a) : M.sz n a = a - n := by unfold M.sz; rw [if_neg (by omega)]
theorem sz_wrap (n : Nat) (a : Int) : (if M.sz n a < 0 then (some (-1)) else (some (M.sz n a)) : Option Int) = some (M.sz n a) := by
  unfold M.sz; split <;> simp_all
theorem sz_add (n m : Nat) (a : Int) : (if M.sz n a < 0 then -1 else M.sz m (M.sz n a)) = M.sz (n + m) a := by
  unfold M.sz; split <;> split <;> simp_all <;> omega
theorem sz_sub (m n : Nat) (x : Int) : M.sz m (x - n) = M.sz (n + m) x := by
  unfold M.sz; rw [show x - n - m = x - ((n + m : Nat) : Int) by omega]
/-- A law's own look at the size of an argument. -/
theorem Ev.size {n : Nat} {a : Int} {f : Nat → Option Bool} (h : (n : Int) ≤ a → Ev f true) : Ev (fun k => if M.sz n a < 0 then some true else f k) true := by
  by_cases hn : (n : Int) ≤ a
  · exact Ev.no (by rw [sz_fits hn]; omega) (h hn)
  · exact Ev.yes (by rw [sz_over (by omega)]; omega) (Ev.now _)
/-! tabs -/
def M.tabTot : List S58 → Nat
  | [] => 0
  | b :: l => (b.f0.f1.size + b.f1.f1.size) + M.tabTot l
theorem tabTot_mem : ∀ (l : List S58) (b : S58), b ∈ l → b.f0.f1.size + b.f1.f1.size ≤ M.tabTot l
  | [], _, h => by simp at h
  | c :: l, b, h => by
    rcases List.mem_cons.1 h with rfl | h
    · unfold M.tabTot; omega
    · have := tabTot_mem l b h; unfold M.tabTot; omega
def M.toTab (e : S58) : S49 := ⟨⟨e.f0.f0, e.f0.f1, e.f0.f2⟩, ⟨e.f1.f0, e.f1.f1, e.f1.f2⟩⟩
/-! rd-lTab -/
theorem rd_lTab {l : List S58} {i : Nat} (h : i < l.length) : rd_T58 l (i : Int) = l[i] := by unfold rd_T58; exact getD_lt h _
/-! laws_szOrigin -/
theorem laws_szOrigin.eq (b : Bool) (s : ByteArray) (p a : Int) (ha : 0 ≤ a) (ha2 : a ≤ 1048576) (hl : s.size ≤ 9223372036854775807) : laws_szOrigin.f b s p a = some (M.sz s.size a) := by
  unfold laws_szOrigin.f; exact sz_eq _ _ ha ha2 hl
/-! laws_szTab -/
theorem laws_szTab.eq (b : Bool) (s : ByteArray) (p : Int) (b' : Bool) (s' : ByteArray) (p' a : Int) (ha : 0 ≤ a) (ha2 : a ≤ 1048576) (hl : s.size ≤ 9223372036854775807) (hl' : s'.size ≤ 9223372036854775807) : laws_szTab.f b s p b' s' p' a = some (M.sz (s.size + s'.size) a) := by
  unfold laws_szTab.f
  rw [laws_szOrigin.eq _ _ _ _ ha ha2 hl, bind_some_]
  by_cases h : M.sz s.size a < 0
  · rw [if_pos h, sz_over (by unfold M.sz at h; split at h <;> omega)]
  · have h3 : (s.size : Int) ≤ a := by unfold M.sz at h; split at h <;> omega
    rw [if_neg h, sz_fits h3, laws_szOrigin.eq _ _ _ _ (by omega) (by omega) hl', bind_some_, sz_sub]
    exact sz_wrap _ _
/-! laws_szTabS -/
theorem laws_szTabS.ev (l : List S58) (a : Int) (ha : 0 ≤ a) (ha2 : a ≤ 1048576) (hl : l.length ≤ 9223372036854775807) (hd : ∀ x ∈ l, x.f0.f1.size ≤ 9223372036854775807 ∧ x.f1.f1.size ≤ 9223372036854775807) : Ev (fun k => laws_szTabS.f k l a) (M.sz (l.length + M.tabTot l) a) := by
  unfold laws_szTabS.f
  rw [wrap_in (by omega) (by omega)]
  refine Ev.ite (fun h => Ev.eq (sz_over (by omega)).symm) (fun h => ?_)
  refine Ev.conv (Ev.loop (fun k i x => laws_szTabS.l0 k l x (i : Int)) l.length (fun i x => M.sz (M.tabTot (l.drop i)) x) (fun _ x => 0 ≤ x ∧ x ≤ 1048576) ?_ ?_ 0 (a - l.length) (by omega) (by omega)) ?_
  · intro x hx
    refine Ev.round ?_
    simp only [laws_szTabS.l0]
    exact Ev.no (by omega) (Ev.eq (by rw [drop_end]; unfold M.tabTot M.sz; rw [if_neg (by omega)]; simp))
  · intro i x hi hx ih
    have hm := hd _ (List.getElem_mem hi)
    refine Ev.round ?_
    simp only [laws_szTabS.l0, rd_lTab hi, wrap_succ hi (by omega : l.length ≤ _), laws_szTab.eq _ _ _ _ _ _ _ hx.1 hx.2 hm.1 hm.2, bind_some_]
    rw [drop_get hi]
    refine Ev.yes (by omega) (Ev.yes (by omega) (Ev.ite (fun h => ?_) (fun h => ?_)))
    · refine Ev.eq (sz_over ?_).symm
      unfold M.sz at h; unfold M.tabTot; split at h <;> omega
    · have hf : ((l[i].f0.f1.size + l[i].f1.f1.size : Nat) : Int) ≤ x := by unfold M.sz at h; split at h <;> omega
      refine Ev.conv (ih _ (by rw [sz_fits hf]; omega)) ?_
      rw [sz_fits hf, sz_sub]; rfl
  · rw [sz_sub]; rfl
/-! laws_szBrowser -/
theorem laws_szBrowser.ev (x y z u : Int) (l : List S58) (v a : Int) (ha : 0 ≤ a) (ha2 : a ≤ 1048576) (hl : l.length ≤ 9223372036854775807) (hd : ∀ x ∈ l, x.f0.f1.size ≤ 9223372036854775807 ∧ x.f1.f1.size ≤ 9223372036854775807) : Ev (fun k => laws_szBrowser.f k x y z u l v a) (M.sz (l.length + M.tabTot l) a) := by
  unfold laws_szBrowser.f
  exact Ev.bind (laws_szTabS.ev l a ha ha2 hl hd) (Ev.opt (sz_wrap _ _))
/-! laws_toTabS -/
theorem laws_toTabS.ev (l : List S58) (hl : l.length ≤ 1048576) : Ev (fun k => laws_toTabS.f k l) (l.map M.toTab) := by
  unfold laws_toTabS.f
  refine Ev.yes (by omega) (Ev.yes (by omega) ?_)
  refine Ev.loop (fun k i x => laws_toTabS.l0 k l x (i : Int)) l.length (fun _ _ => l.map M.toTab) (fun i x => x = (l.take i).map M.toTab ++ List.replicate (l.length - i) z49) ?_ ?_ 0 _ (by omega) (by simp)
  · rintro s rfl
    refine Ev.round ?_
    simp only [laws_toTabS.l0]
    exact Ev.no (by omega) (Ev.eq (fill_end _ _ _))
  · rintro i s hi rfl ih
    refine Ev.round ?_
    simp only [laws_toTabS.l0, rd_lTab hi, laws_toTab.f, laws_toOrigin.f, bind_some_, wrap_succ hi (by omega : l.length ≤ _), Int.toNat_natCast]
    refine Ev.yes (by omega) (Ev.yes (by omega) (Ev.yes (by rw [fill_len _ _ _ (by omega)]; omega) ?_))
    exact ih _ (take_fill M.toTab l z49 hi)
/-! laws_toBrowser -/
theorem laws_toBrowser.ev (x y z u : Int) (l : List S58) (v : Int) (hl : l.length ≤ 1048576) : Ev (fun k => laws_toBrowser.f k x y z u l v) (x, y, z, u, l.map M.toTab, v) := by
  unfold laws_toBrowser.f laws_toKeyStore.f
  simp only [bind_some_]
  exact Ev.bind (laws_toTabS.ev l hl) (Ev.now _)
/-! spec_l16Copy -/
theorem spec_l16Copy.eq (x y z u : Int) (l : List S49) (v : Int) (hl : l.length ≤ 1048577) : spec_l16Copy.f x y z u l v = some (x, y, z, u, l, v) := by
  unfold spec_l16Copy.f
  rw [bind_some_, if_pos (by (simp <;> omega)), List.nil_append]
/-! spec_l9Labels -/
theorem spec_l9Labels.ev (s : ByteArray) (hs : s.size ≤ 1099511627776) : Ev (fun k => spec_l9Labels.f k s) ((M.labs s.data.toList).map M.ofl) := by
  unfold spec_l9Labels.f
  have hz := Go.Lib.size_eq s
  refine Ev.conv (Ev.loop (fun k i (p : List ByteArray × Nat) => spec_l9Labels.l0 k s p.1 (p.2 : Int) (i : Int)) s.size (fun i p => p.1 ++ (M.glue ((s.data.toList.take i).drop p.2) (M.labs (s.data.toList.drop i))).map M.ofl) (fun i p => p.1.length ≤ i ∧ p.2 ≤ i) ?_ ?_ 0 ([], 0) (by omega) ⟨by simp, by simp⟩) ?_
  · rintro ⟨o, f⟩ ⟨h1, h2⟩
    simp only at h1 h2
    refine Ev.round ?_
    simp only [spec_l9Labels.l0, Int.toNat_natCast]
    refine Ev.yes (by omega) (Ev.yes (by trivial) (Ev.yes (by omega) (Ev.yes (by omega) (Ev.yes (by omega) (Ev.round ?_)))))
    simp only [spec_l9Labels.l0]
    refine Ev.no (by rw [wrap_in (by omega) (by omega)]; omega) (Ev.eq ?_)
    have e : s.data.toList.drop s.size = [] := List.drop_eq_nil_of_le (by omega)
    have e2 : s.data.toList.take s.size = s.data.toList := List.take_of_length_le (by omega)
    rw [e, e2]
    simp only [M.labs, M.glue, List.append_nil, List.map_cons, List.map_nil]
    congr 1
    rw [List.cons.injEq]
    refine ⟨ofl_eq ?_, rfl⟩
    rw [Go.Lib.extract_data]
    exact List.take_of_length_le (by (simp <;> omega))
  · rintro i ⟨o, f⟩ hi ⟨h1, h2⟩ ih
    simp only at h1 h2 ih
    have hi' : i < s.data.toList.length := by omega
    have hb := bt_get hi hi'
    have hd := drop_get hi'
    refine Ev.round ?_
    simp only [spec_l9Labels.l0, Int.toNat_natCast, wrap_succ hi (by omega : s.size ≤ _)]
    refine Ev.yes (by omega) (Ev.no (by omega) (Ev.yes (by omega) (Ev.yes (by omega) (Ev.ite (fun h => Ev.yes (by omega) (Ev.yes (by omega) (Ev.yes (by omega) ?_))) (fun h => ?_)))))
    · have h46 : s.data.toList[i] = 46 := by
        rw [hb] at h
        have h9 : (s.data.toList[i]).toNat = 46 := by omega
        exact UInt8.toNat_inj.1 h9
      refine Ev.conv (ih (o ++ [s.extract f i], i + 1) ⟨by (simp <;> omega), by simp⟩) ?_
      have eL : ∀ r, M.labs (46 :: r) = [] :: M.labs r := fun r => by rw [M.labs, if_pos rfl]
      rw [hd, h46, eL]
      have eG : ∀ X L, M.glue X ([] :: L) = X :: L := fun X L => by simp [M.glue]
      rw [eG]
      simp only [List.map_cons]
      have e1 : (s.data.toList.take (i + 1)).drop (i + 1) = [] := List.drop_eq_nil_of_le (by (simp <;> omega))
      rw [e1, glue_nil (labs_ne _), List.append_assoc]
      congr 1
      rw [List.singleton_append, List.cons.injEq]
      refine ⟨ofl_eq ?_, rfl⟩
      rw [Go.Lib.extract_data, List.drop_take]
    · have h46 : s.data.toList[i] ≠ 46 := by
        intro h5; rw [hb, h5] at h; exact h rfl
      refine Ev.conv (ih (o, f) ⟨by (simp <;> omega), by (simp <;> omega)⟩) ?_
      rw [hd]
      conv => rhs; simp only [M.labs, if_neg h46]
      rw [glue_glue, List.take_succ_eq_append_getElem hi', List.drop_append_of_le_length (by (simp <;> omega))]
  · simp [glue_nil (labs_ne _)]
/-! spec_l1In -/
theorem spec_l1In.eq (a b c : Int) : spec_l1In.f a b c = some (M.inr a b c) := by
  unfold spec_l1In.f M.inr
  by_cases h : a ≥ b
  · rw [if_pos h]; simp [h]
  · rw [if_neg h]; have : ¬ b ≤ a := by omega
    simp [this]
/-! spec_l9Label -/
theorem spec_l9Label.ev (s : ByteArray) (hs : s.size ≤ 1099511627776) : Ev (fun k => spec_l9Label.f k s) (M.okLabel s) := by
  unfold spec_l9Label.f
  unfold M.okLabel
  refine Ev.loop (fun k i (_ : Unit) => spec_l9Label.l0 k s (i : Int)) s.size (fun i _ => M.okFrom s i && M.ends s) (fun _ _ => True) ?_ ?_ 0 () (by omega) trivial
  · rintro x _
    refine Ev.round ?_
    simp only [spec_l9Label.l0, spec_l1In.eq, bind_some_]
    rw [okFrom_end, Bool.true_and]
    refine Ev.no (by omega) (Ev.ite (fun h => ?_) (fun h => Ev.eq ?_))
    · have h' := inr_true.1 h
      rw [wrap_pred (by omega : 0 < s.size) (by omega)]
      refine Ev.yes (by omega) (Ev.ite (fun h2 => Ev.eq ?_) (fun h2 => Ev.yes (by omega) (Ev.yes (by omega) (Ev.eq ?_))))
      · unfold M.ends; simp [h2]
      · unfold M.ends
        rw [decide_eq_true (by omega : 1 ≤ s.size ∧ s.size ≤ 20), decide_eq_true h2, Bool.true_and, Bool.true_and]
        by_cases h3 : bt s ((s.size - 1 : Nat) : Int) = 45 <;> simp [h3]
    · unfold M.ends
      rw [decide_eq_false (fun h2 => h (inr_true.2 (by omega)))]; rfl
  · rintro i x hi _ ih
    refine Ev.round ?_
    simp only [spec_l9Label.l0, wrap_succ hi (by omega : s.size ≤ _)]
    rw [okFrom_step hi]
    refine Ev.yes (by omega) (Ev.yes (by omega) (Ev.byte (fun h => ?_) (fun h => ?_)))
    · rw [h, Bool.true_and]; exact ih () trivial
    · rw [h]; rfl
/-! spec_IsHost -/
theorem spec_IsHost.ev (s : ByteArray) (hs : s.size ≤ 1099511627776) : Ev (fun k => spec_IsHost.f k s) (M.isHost s) := by
  unfold spec_IsHost.f M.isHost
  refine Ev.bind (spec_l9Labels.ev s hs) ?_
  have hm : ∀ p ∈ (M.labs s.data.toList).map M.ofl, p.size ≤ s.size := fun p hp => label_size s hp
  have hl : ((M.labs s.data.toList).map M.ofl).length ≤ 1152921504606846976 := by
    have := labs_len s.data.toList; rw [← Go.Lib.size_eq] at this; simp; omega
  generalize (M.labs s.data.toList).map M.ofl = L at hm hl
  refine Ev.conv (Ev.loop (fun k i (_ : Unit) => spec_IsHost.l0 k s L (i : Int)) L.length (fun i _ => (L.drop i).all M.okLabel && decide (s.size ≤ 60)) (fun _ _ => True) ?_ ?_ 0 () (by omega) trivial) (by simp)
  · rintro x _
    refine Ev.round ?_
    simp only [spec_IsHost.l0]
    refine Ev.no (by omega) (Ev.eq ?_)
    rw [drop_end, List.all_nil, Bool.true_and]
    exact decide_eq_decide.2 (by omega)
  · rintro i x hi _ ih
    refine Ev.round ?_
    simp only [spec_IsHost.l0, wrap_succ hi hl, rdOf_get hi]
    rw [drop_get hi, List.all_cons]
    refine Ev.yes (by omega) (Ev.yes (by omega) (Ev.bind (spec_l9Label.ev L[i] (by have := hm _ (List.getElem_mem hi); omega)) (Ev.ite (fun h => ?_) (fun h => Ev.eq ?_))))
    · rw [h, Bool.true_and]; exact ih () trivial
    · rw [Bool.eq_false_iff.2 h]; rfl
/-! spec_IsOrigin -/
theorem spec_IsOrigin.ev (b : Bool) (s : ByteArray) (p : Int) (hs : s.size ≤ 1099511627776) : Ev (fun k => spec_IsOrigin.f k b s p) (M.isOrigin s p) := by
  unfold spec_IsOrigin.f M.isOrigin
  rw [spec_l1In.eq, bind_some_]
  refine Ev.bind (spec_IsHost.ev s hs) (Ev.ite (fun h => Ev.eq (by rw [h, Bool.true_and])) (fun h => Ev.eq (by rw [Bool.eq_false_iff.2 h]; rfl)))
/-! spec_OpenTab -/
theorem spec_OpenTab.ev (x y z u : Int) (l : List S49) (v : Int) (b : Bool) (s : ByteArray) (p : Int) (b' : Bool) (s' : ByteArray) (p' : Int) (hl : l.length ≤ 1048577) (hs : s.size ≤ 1099511627776) (hs' : s'.size ≤ 1099511627776) : Ev (fun k => spec_OpenTab.f k x y z u l v b s p b' s' p') (x, y, z, u, (M.openTab l ⟨b, s, p⟩ ⟨b', s', p'⟩).1, v, (M.openTab l ⟨b, s, p⟩ ⟨b', s', p'⟩).2) := by
  unfold spec_OpenTab.f M.openTab
  simp only [spec_l16Copy.eq _ _ _ _ _ _ hl, bind_some_]
  refine Ev.bind (spec_IsOrigin.ev b s p hs) (Ev.ite (fun h1 => Ev.bind (spec_IsOrigin.ev b' s' p' hs') (Ev.ite (fun h2 => Ev.ite (fun h3 => Ev.eq ?_) (fun h3 => Ev.yes (by omega) (Ev.eq ?_))) (fun h2 => Ev.eq ?_))) (fun h1 => Ev.eq ?_))
  · rw [if_neg (fun h => by omega)]
  · rw [if_pos ⟨h1, h2, by omega⟩]
  · rw [if_neg (fun h => h2 h.2.1)]
  · rw [if_neg (fun h => h1 h.1)]

/-! the law -/
theorem FnExactOpenTab : ∀ (a0_0 : Int) (a0_1 : Int) (a0_2 : Int) (a0_3 : Int) (l0_4 : List (S58)) (a0_5 : Int) (a1_0 : Bool) (a1_1 : ByteArray) (a1_2 : Int) (a2_0 : Bool) (a2_1 : ByteArray) (a2_2 : Int), (l0_4.length ≤ 9223372036854775807 ∧ ∀ x ∈ l0_4, Fit58 x) → a1_1.size ≤ 9223372036854775807 → a2_1.size ≤ 9223372036854775807 → ∃ k, laws_FnExactOpenTab.f k a0_0 a0_1 a0_2 a0_3 l0_4 a0_5 a1_0 a1_1 a1_2 a2_0 a2_1 a2_2 = some true := by
  intro x y z u l v b s p b' s' p' hl hs hs'
  apply Ev.rounds (r := true)
  unfold laws_FnExactOpenTab.f
  refine Ev.bind (laws_szBrowser.ev x y z u l v _ (by decide) (by decide) hl.1 (fun a h => hl.2 a h)) (Ev.size fun g0 => ?_)
  rw [sz_fits g0]
  refine Ev.bindc (laws_szOrigin.eq b s p _ (by omega) (by omega) hs) (Ev.size fun g1 => ?_)
  rw [sz_fits g1]
  refine Ev.bindc (laws_szOrigin.eq b' s' p' _ (by omega) (by omega) hs') (Ev.size fun g2 => ?_)
  have c0 : (l.map M.toTab).length ≤ 1048576 := by simp; omega
  have c1 : (l.map M.toTab).length ≤ 1048577 := by omega
  have t0 := laws_toBrowser.ev x y z u l v (by omega)
  have hsp := spec_OpenTab.ev x y z u (l.map M.toTab) v b s p b' s' p' c1 (by omega) (by omega)
  have hi := impl_OpenTab.ev x y z u (l.map M.toTab) v b s p b' s' p' c1
  have hlen := openTab_len (l.map M.toTab) ⟨b, s, p⟩ ⟨b', s', p'⟩
  generalize M.openTab (l.map M.toTab) ⟨b, s, p⟩ ⟨b', s', p'⟩ = R at hsp hi hlen
  obtain ⟨rl, rb⟩ := R
  simp only at hsp hi hlen
  have hr : rl.length ≤ 1048577 := by omega
  simp only [laws_toOrigin.f, bind_some_]
  refine Ev.bind t0 (Ev.bind hsp (Ev.bind t0 (Ev.bind hi (Ev.bind (laws_eqBrowser.refl _ _ _ _ _ _ hr) (Ev.yes rfl ?_)))))
  refine Ev.round ?_
  simp only [laws_FnExactOpenTab.j0]
  refine Ev.no (by simp) (Ev.bind t0 (Ev.bind (laws_eqBrowser.refl _ _ _ _ _ _ c1) (Ev.yes rfl (Ev.bind (laws_markBrowser.ev _ _ _ _ _ _ 1 c1 (by omega) (by omega)) (Ev.no (by first | omega | (simp only; omega)) (Ev.bind (laws_eqBrowser.refl _ _ _ _ _ _ hr) (Ev.yes rfl ?_)))))))
  refine Ev.round ?_
  simp only [laws_FnExactOpenTab.j1, laws_toOrigin.f, bind_some_]
  refine Ev.no (by simp) (Ev.bind (laws_markBrowser.ev _ _ _ _ _ _ 1 hr (by omega) (by omega)) (Ev.bind (laws_heldBrowser.ev _ _ _ _ _ _ 1 hr (by omega) (by omega)) (Ev.no (by first | omega | (simp only; omega)) (Ev.yes rfl (Ev.bind t0 (Ev.bind hi (Ev.bind (laws_eqBrowser.refl _ _ _ _ _ _ hr) (Ev.yes rfl ?_))))))))
  refine Ev.round ?_
  simp only [laws_FnExactOpenTab.j2]
  exact Ev.no (by simp) (Ev.bind (laws_heldBrowser.ev _ _ _ _ _ _ 1 hr (by omega) (by omega)) (Ev.no (by first | omega | (simp only; omega)) (Ev.yes rfl (Ev.now _))))
end Go.Proofs.YtpgjecknkmmnhaaDoor.Pure
