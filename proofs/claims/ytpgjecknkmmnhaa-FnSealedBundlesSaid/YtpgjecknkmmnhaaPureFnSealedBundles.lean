/- a sealed bundle is opened with its key only, and a changed one by nobody. (P18) -/
import Derived.Test.YtpgjecknkmmnhaaOpFnSealedBundles
import Derived.Test.YtpgjecknkmmnhaaTFnSealedBundles
namespace Go.Proofs.Ytpgjecknkmmnhaa.Pure
open Go.RowKit Go.Proofs.Ytpgjecknkmmnhaa.PFnSealedBundles Go.Proofs.YtpgjecknkmmnhaaW.PrintWords Go.Proofs.YtpgjecknkmmnhaaW.PrintLast
set_option linter.unusedVariables false
set_option linter.unusedSimpArgs false

/-! base -/
theorem wrap_in {n : Int} (h1 : -9223372036854775808 ≤ n) (h2 : n ≤ 9223372036854775807) : wrap64 n = n := by unfold wrap64; omega
theorem wrap_succ {i n : Nat} (h : i < n) (hn : n ≤ 1152921504606846976) : wrap64 ((i : Int) + 1) = ((i + 1 : Nat) : Int) := by unfold wrap64; omega
theorem wrap_pred {i : Nat} (h : 0 < i) (hn : i ≤ 1152921504606846976) : wrap64 ((i : Int) - 1) = ((i - 1 : Nat) : Int) := by unfold wrap64; omega
theorem Ev.eq {α : Type} {r s : α} (h : r = s) : Ev (fun _ => some r) s := h ▸ Ev.now r
theorem Ev.opt {α : Type} {o : Option α} {r : α} (h : o = some r) : Ev (fun _ => o) r := h ▸ Ev.now r
theorem Ev.yes {α : Type} {c : Prop} [Decidable c] {g f : Nat → Option α} {r : α} (h : c) (k : Ev g r) : Ev (fun n => if c then g n else f n) r := by simpa [h] using k
theorem Ev.no {α : Type} {c : Prop} [Decidable c] {g f : Nat → Option α} {r : α} (h : ¬ c) (k : Ev f r) : Ev (fun n => if c then g n else f n) r := by simpa [h] using k
theorem Ev.ite {α : Type} {c : Prop} [Decidable c] {g f : Nat → Option α} {r : α} (h : c → Ev g r) (k : ¬ c → Ev f r) : Ev (fun n => if c then g n else f n) r := by
  by_cases hc : c
  · exact Ev.yes hc (h hc)
  · exact Ev.no hc (k hc)
theorem Ev.bindc {α β : Type} {o : Option α} {a : α} {f : Nat → α → Option β} {r : β} (h : o = some a) (k : Ev (fun n => f n a) r) : Ev (fun n => o.bind (f n)) r := by subst h; exact k
theorem Ev.round {α : Type} {g : Nat → Option α} {r : α} (h : Ev (fun k => g (k + 1)) r) : Ev g r := Ev.step (fun _ => rfl) h
theorem Ev.conv {α : Type} {g : Nat → Option α} {r s : α} (k : Ev g r) (h : r = s) : Ev g s := h ▸ k
theorem bind_some_ {α β : Type} (a : α) (f : α → Option β) : (some a).bind f = f a := rfl
/-- A loop that counts: from each place on, the answer is what 'val' says. -/
theorem Ev.loop {σ β : Type} (g : Nat → Nat → σ → Option β) (n : Nat) (val : Nat → σ → β) (Inv : Nat → σ → Prop)
    (done : ∀ s, Inv n s → Ev (fun k => g k n s) (val n s))
    (step : ∀ i s, i < n → Inv i s → (∀ s', Inv (i + 1) s' → Ev (fun k => g k (i + 1) s') (val (i + 1) s')) → Ev (fun k => g k i s) (val i s)) :
    ∀ i s, i ≤ n → Inv i s → Ev (fun k => g k i s) (val i s) := by
  have : ∀ d i s, i + d = n → Inv i s → Ev (fun k => g k i s) (val i s) := by
    intro d
    induction d with
    | zero =>
      intro i s hi hs
      obtain rfl : i = n := by omega
      exact done s hs
    | succ d ih => intro i s hi hs; exact step i s (by omega) hs (fun s' hs' => ih (i + 1) s' (by omega) hs')
  intro i s hi hs
  exact this (n - i) i s (by omega) hs
theorem getD_lt {α : Type} {l : List α} {i : Nat} (h : i < l.length) (d : α) : l.getD i d = l[i] := by simp [List.getD_eq_getElem?_getD, h]
theorem rd_get {l : List Int} {i : Nat} (h : i < l.length) : rd l (i : Int) = l[i] := by unfold rd; exact getD_lt h _
theorem take_fill {α β : Type} (f : α → β) (l : List α) (z : β) {i : Nat} (h : i < l.length) :
    ((l.take i).map f ++ List.replicate (l.length - i) z).set i (f l[i]) = (l.take (i + 1)).map f ++ List.replicate (l.length - (i + 1)) z := by
  have e : l.length - i = (l.length - (i + 1)) + 1 := by omega
  rw [e, List.replicate_succ, List.set_append_right _ _ (by simp; omega)]
  have : i - (List.map f (List.take i l)).length = 0 := by simp; omega
  rw [this, List.set_cons_zero, List.take_succ_eq_append_getElem h, List.map_append]
  simp
theorem fill_len {α β : Type} (f : α → β) (l : List α) (z : β) {i : Nat} (h : i ≤ l.length) : ((l.take i).map f ++ List.replicate (l.length - i) z).length = l.length := by simp; omega
theorem fill_end {α β : Type} (f : α → β) (l : List α) (z : β) : (l.take l.length).map f ++ List.replicate (l.length - l.length) z = l.map f := by simp
theorem drop_get {α : Type} {l : List α} {i : Nat} (h : i < l.length) : l.drop i = l[i] :: l.drop (i + 1) := List.drop_eq_getElem_cons h
theorem drop_end {α : Type} (l : List α) : l.drop l.length = [] := List.drop_eq_nil_of_le (Nat.le_refl _)
/-! uv -/
/-- A number in sevens of bits, the lowest first. -/
def M.uvl (n : Nat) : List Int := if n < 128 then [(n : Int)] else ((n % 128 + 128 : Nat) : Int) :: M.uvl (n / 128)
termination_by n
decreasing_by omega
theorem uvl_lt {n : Nat} (h : n < 128) : M.uvl n = [(n : Int)] := by rw [M.uvl, if_pos h]
theorem uvl_ge {n : Nat} (h : ¬ n < 128) : M.uvl n = ((n % 128 + 128 : Nat) : Int) :: M.uvl (n / 128) := by rw [M.uvl, if_neg h]
theorem uvl_len : ∀ (k n : Nat), n < 128 ^ (k + 1) → (M.uvl n).length ≤ k + 1
  | 0, n, h => by rw [uvl_lt (by omega)]; simp
  | k + 1, n, h => by
    by_cases hn : n < 128
    · rw [uvl_lt hn]; simp
    · rw [uvl_ge hn]
      have := uvl_len k (n / 128) (by rw [Nat.div_lt_iff_lt_mul (by decide)]; rw [Nat.pow_succ] at h; exact h)
      simp; omega
def M.uv (n : Int) : List Int := if 0 ≤ n ∧ n ≤ 1000000000000 then M.uvl n.toNat else []
theorem uv_len (n : Int) : (M.uv n).length ≤ 6 := by
  unfold M.uv; split
  · exact uvl_len 5 _ (by omega)
  · simp
def M.encInts (l : List Int) : List Int := l.flatMap M.uv
theorem encInts_len : ∀ l : List Int, (M.encInts l).length ≤ 6 * l.length
  | [] => by simp [M.encInts]
  | n :: l => by
    have := encInts_len l; have := uv_len n
    simp only [M.encInts, List.flatMap_cons, List.length_append, List.length_cons] at *; omega
theorem encInts_cons (n : Int) (l : List Int) : M.encInts (n :: l) = M.uv n ++ M.encInts l := by simp [M.encInts]
/-! bytes -/
def M.byt (x : List Int) : Prop := ∀ v ∈ x, 0 ≤ v ∧ v ≤ 255
theorem byt_of {x : List Int} (h : ∀ v ∈ x, (Lit.int .u8 v).wf = true) : M.byt x := by
  intro v hv
  have := h v hv
  simp only [Lit.wf, Bool.and_eq_true, decide_eq_true_eq] at this
  exact ⟨Int.le_trans (by decide) this.1, Int.le_trans this.2 (by decide)⟩
theorem byt_drop {x : List Int} (h : M.byt x) (n : Nat) : M.byt (x.drop n) := fun v hv => h v (List.mem_of_mem_drop hv)
theorem byt_get {x : List Int} (h : M.byt x) {i : Nat} (hi : i < x.length) : 0 ≤ x[i] ∧ x[i] ≤ 255 := h _ (List.getElem_mem hi)
/-! uvbytes -/
theorem uvl_byt (n : Nat) : M.byt (M.uvl n) := by
  induction n using Nat.strongRecOn with
  | _ n ih =>
  by_cases h : n < 128
  · rw [uvl_lt h]; intro v hv; simp at hv; omega
  · rw [uvl_ge h]; intro v hv
    rcases List.mem_cons.1 hv with rfl | hv
    · omega
    · exact ih (n / 128) (by omega) v hv
theorem encInts_byt (l : List Int) : M.byt (M.encInts l) := by
  intro v hv
  simp only [M.encInts, List.mem_flatMap] at hv
  obtain ⟨n, _, h⟩ := hv
  unfold M.uv at h; split at h
  · exact uvl_byt _ v h
  · simp at h
/-! parse -/
/-- A number read back, with what comes behind it. -/
def M.uvd : Nat → Nat → Nat → List Int → Option (Nat × List Int)
  | 0, _, _, _ => none
  | _ + 1, _, _, [] => none
  | f + 1, i, v, c :: r => if c < 128 then (if c = 0 ∧ 0 < i then none else if v + c.toNat % 128 * 128 ^ i > 1000000000000 then none else some (v + c.toNat % 128 * 128 ^ i, r)) else M.uvd f (i + 1) (v + c.toNat % 128 * 128 ^ i) r
def M.parse (s : List Int) : Option (Nat × List Int) := M.uvd 6 0 0 s
theorem uvd_sound : ∀ (f i v : Nat) (s : List Int) (n : Nat) (r : List Int), M.byt s → M.uvd f i v s = some (n, r) → ∃ u : Nat, s = M.uvl u ++ r ∧ n = v + u * 128 ^ i ∧ n ≤ 1000000000000 ∧ (0 < i → 0 < u)
  | 0, _, _, _, _, _, _, h => by simp [M.uvd] at h
  | f + 1, i, v, [], _, _, _, h => by simp [M.uvd] at h
  | f + 1, i, v, c :: t, n, r, hb, h => by
    have hc := hb c List.mem_cons_self
    rw [M.uvd] at h
    by_cases h1 : c < 128
    · rw [if_pos h1] at h
      by_cases h2 : c = 0 ∧ 0 < i
      · rw [if_pos h2] at h; cases h
      · rw [if_neg h2] at h
        by_cases h3 : v + c.toNat % 128 * 128 ^ i > 1000000000000
        · rw [if_pos h3] at h; cases h
        · rw [if_neg h3] at h
          cases h
          have e : c.toNat % 128 = c.toNat := Nat.mod_eq_of_lt (by omega)
          rw [e] at h3 ⊢
          refine ⟨c.toNat, ?_, rfl, by omega, by omega⟩
          rw [uvl_lt (by omega), show ((c.toNat : Nat) : Int) = c by omega]; rfl
    · rw [if_neg h1] at h
      obtain ⟨u, hs, hn, hle, hp⟩ := uvd_sound f (i + 1) _ t n r (fun x hx => hb x (List.mem_cons_of_mem _ hx)) h
      have hu : 0 < u := hp (by omega)
      refine ⟨c.toNat % 128 + 128 * u, ?_, ?_, hle, by omega⟩
      · rw [uvl_ge (by omega), show (c.toNat % 128 + 128 * u) / 128 = u by omega, show (((c.toNat % 128 + 128 * u) % 128 + 128 : Nat) : Int) = c by omega, hs]; rfl
      · rw [hn, Nat.pow_succ, Nat.add_mul, show 128 * u * 128 ^ i = u * (128 ^ i * 128) by rw [Nat.mul_comm 128 u, Nat.mul_assoc, Nat.mul_comm 128]]; omega
theorem uvd_complete : ∀ (f i v u : Nat) (r : List Int), 0 < f → u < 128 ^ f → v + u * 128 ^ i ≤ 1000000000000 → (0 < i → 0 < u) → M.uvd f i v (M.uvl u ++ r) = some (v + u * 128 ^ i, r)
  | 0, _, _, _, _, hf, _, _, _ => absurd hf (Nat.lt_irrefl 0)
  | f + 1, i, v, u, r, _, hu, hle, hp => by
    by_cases h : u < 128
    · rw [uvl_lt h]
      simp only [List.cons_append, List.nil_append, M.uvd]
      have e : (u : Int).toNat % 128 = u := by omega
      rw [if_pos (by omega), if_neg (by omega), e, if_neg (by omega)]
    · rw [uvl_ge h, List.cons_append, M.uvd, if_neg (by omega)]
      have e : (((u % 128 + 128 : Nat) : Int)).toNat % 128 = u % 128 := by omega
      have e2 : u * 128 ^ i = u % 128 * 128 ^ i + u / 128 * 128 ^ (i + 1) := by
        rw [Nat.pow_succ, Nat.mul_comm (128 ^ i) 128, ← Nat.mul_assoc, ← Nat.add_mul]
        congr 1; omega
      have hf : 0 < f := by
        rcases Nat.eq_zero_or_pos f with rfl | hf
        · omega
        · exact hf
      rw [e, uvd_complete f (i + 1) _ (u / 128) r hf (by rw [Nat.div_lt_iff_lt_mul (by decide)]; rw [Nat.pow_succ] at hu; exact hu) (by omega) (by omega), e2, Nat.add_assoc]
theorem parse_iff {s : List Int} (hb : M.byt s) (n : Nat) (r : List Int) : M.parse s = some (n, r) ↔ n ≤ 1000000000000 ∧ s = M.uvl n ++ r := by
  constructor
  · intro h
    obtain ⟨u, hs, hn, hle, _⟩ := uvd_sound 6 0 0 s n r hb h
    have : u = n := by simpa using hn.symm
    subst this
    exact ⟨hle, hs⟩
  · rintro ⟨h1, rfl⟩
    have := uvd_complete 6 0 0 n r (by decide) (by omega) (by omega) (by omega)
    simpa [M.parse] using this
/-- So many numbers, one behind the other. -/
def M.decI : Nat → List Int → Option (List Int × List Int)
  | 0, s => some ([], s)
  | c + 1, s => match M.parse s with
    | none => none
    | some (n, r) => match M.decI c r with
      | none => none
      | some (l, t) => some ((n : Int) :: l, t)
def M.oks (l : List Int) : Prop := ∀ n ∈ l, 0 ≤ n ∧ n ≤ 1000000000000
theorem parse_rest {s : List Int} (hb : M.byt s) {n : Nat} {r : List Int} (h : M.parse s = some (n, r)) : M.byt r := by
  rw [((parse_iff hb n r).1 h).2] at hb
  exact fun v hv => hb v (List.mem_append_right _ hv)
theorem decI_iff : ∀ (c : Nat) {s : List Int} (_ : M.byt s) (l r : List Int), M.decI c s = some (l, r) ↔ l.length = c ∧ M.oks l ∧ s = M.encInts l ++ r
  | 0, s, hb, l, r => by
    simp only [M.decI, Option.some.injEq, Prod.mk.injEq]
    constructor
    · rintro ⟨rfl, rfl⟩; exact ⟨rfl, by simp [M.oks], by simp [M.encInts]⟩
    · rintro ⟨h, _, h2⟩
      have : l = [] := List.eq_nil_of_length_eq_zero h
      subst this; exact ⟨rfl, by simpa [M.encInts] using h2⟩
  | c + 1, s, hb, l, r => by
    constructor
    · intro h
      rw [M.decI] at h
      cases hp : M.parse s with
      | none => rw [hp] at h; cases h
      | some x =>
        obtain ⟨n, t⟩ := x
        rw [hp] at h; simp only at h
        have hx := (parse_iff hb n t).1 hp
        cases hd : M.decI c t with
        | none => rw [hd] at h; cases h
        | some y =>
          obtain ⟨l', r'⟩ := y
          rw [hd] at h; simp only [Option.some.injEq, Prod.mk.injEq] at h
          obtain ⟨rfl, rfl⟩ := h
          obtain ⟨h1, h2, h3⟩ := (decI_iff c (parse_rest hb hp) l' r').1 hd
          refine ⟨by simp [h1], ?_, ?_⟩
          · intro m hm
            rcases List.mem_cons.1 hm with rfl | hm
            · omega
            · exact h2 m hm
          · rw [encInts_cons, List.append_assoc, ← h3, hx.2]
            unfold M.uv; rw [if_pos (by omega)]; rfl
    · rintro ⟨h1, h2, h3⟩
      cases l with
      | nil => simp at h1
      | cons m l =>
        have hm := h2 m List.mem_cons_self
        obtain ⟨n, rfl⟩ := Int.eq_ofNat_of_zero_le hm.1
        rw [encInts_cons, List.append_assoc] at h3
        have huv : M.uv (n : Int) = M.uvl n := by unfold M.uv; rw [if_pos hm]; rfl
        rw [huv] at h3
        have hp : M.parse s = some (n, M.encInts l ++ r) := (parse_iff hb _ _).2 ⟨by omega, h3⟩
        have hd : M.decI c (M.encInts l ++ r) = some (l, r) := (decI_iff c (parse_rest hb hp) l r).2 ⟨by simpa using h1, fun v hv => h2 v (List.mem_cons_of_mem _ hv), rfl⟩
        rw [M.decI, hp]; simp only; rw [hd]
theorem uvd_len : ∀ (f i v : Nat) (s : List Int) (n : Nat) (r : List Int), M.uvd f i v s = some (n, r) → r.length < s.length
  | 0, _, _, _, _, _, h => by simp [M.uvd] at h
  | f + 1, i, v, [], _, _, h => by simp [M.uvd] at h
  | f + 1, i, v, c :: t, n, r, h => by
    rw [M.uvd] at h
    split at h
    · split at h
      · cases h
      · split at h
        · cases h
        · cases h; simp
    · have := uvd_len f _ _ t n r h; simp; omega
theorem uvd_suffix : ∀ (f i v : Nat) (s : List Int) (n : Nat) (r : List Int), M.uvd f i v s = some (n, r) → r = s.drop (s.length - r.length)
  | 0, _, _, _, _, _, h => by simp [M.uvd] at h
  | f + 1, i, v, [], _, _, h => by simp [M.uvd] at h
  | f + 1, i, v, c :: t, n, r, h => by
    have h0 := uvd_len _ _ _ _ _ _ h
    rw [M.uvd] at h
    have e : (c :: t).length - r.length = (t.length - r.length) + 1 := by simp at h0 ⊢; omega
    rw [e, List.drop_succ_cons]
    split at h
    · split at h
      · cases h
      · split at h
        · cases h
        · cases h; simp
    · exact uvd_suffix f _ _ t n r h
/-- What the reader of numbers hands back. -/
def M.trip (x : List Int) : Option (Nat × List Int) → Int × Int × Bool
  | none => (0, 0, false)
  | some (n, r) => ((n : Int), ((x.length - r.length : Nat) : Int), true)
def M.dtrip (x : List Int) (o : List Int) : Option (List Int × List Int) → List Int × Int × Bool
  | none => ([], 0, false)
  | some (l, r) => (o ++ l, ((x.length - r.length : Nat) : Int), true)
theorem uvd_end (f i v : Nat) : M.uvd f i v [] = none := by cases f <;> rfl
theorem uvd_cons (f i v : Nat) (c : Int) (r : List Int) : M.uvd (f + 1) i v (c :: r) = if c < 128 then (if c = 0 ∧ 0 < i then none else if v + c.toNat % 128 * 128 ^ i > 1000000000000 then none else some (v + c.toNat % 128 * 128 ^ i, r)) else M.uvd f (i + 1) (v + c.toNat % 128 * 128 ^ i) r := rfl
theorem pow_small {i : Nat} (h : i ≤ 5) : 128 ^ i ≤ 34359738368 := by
  have h1 := Nat.pow_le_pow_right (by decide : 0 < 128) h
  have h2 : 128 ^ 5 = 34359738368 := by simp
  rw [h2] at h1; exact h1
/-! eqb -/
def M.eqb (a b : List Int) : Bool := (strOfNums a).toList == (strOfNums b).toList
/-! eqbbytes -/
theorem strOfNums_inj {a b : List Int} (ha : M.byt a) (hb : M.byt b) (h : (strOfNums a).toList = (strOfNums b).toList) : a = b := by
  rw [Go.ByteArray.toList_eq, Go.ByteArray.toList_eq, Go.strOfNums_data, Go.strOfNums_data] at h
  induction a generalizing b with
  | nil => cases b with
    | nil => rfl
    | cons y b => simp at h
  | cons x a ih => cases b with
    | nil => simp at h
    | cons y b =>
      simp only [List.map_cons, List.cons.injEq] at h
      have h1 := ha x List.mem_cons_self
      have h2 := hb y List.mem_cons_self
      have h3 : x = y := by
        have h4 := congrArg UInt8.toNat h.1
        simp only [UInt8.toNat_ofNat'] at h4
        omega
      rw [h3, ih (fun v hv => ha v (List.mem_cons_of_mem _ hv)) (fun v hv => hb v (List.mem_cons_of_mem _ hv)) h.2]
theorem eqb_iff {a b : List Int} (ha : M.byt a) (hb : M.byt b) : M.eqb a b = true ↔ a = b := by
  unfold M.eqb; rw [beq_iff_eq]
  exact ⟨strOfNums_inj ha hb, fun h => by rw [h]⟩
/-! rd-Entry -/
theorem rd_Entry {l : List S94} {i : Nat} (h : i < l.length) : rd_T94 l (i : Int) = l[i] := by unfold rd_T94; exact getD_lt h _
/-! inrange -/
def M.inr (a b c : Int) : Bool := decide (b ≤ a ∧ a ≤ c)
theorem inr_true {a b c : Int} : M.inr a b c = true ↔ b ≤ a ∧ a ≤ c := by simp [M.inr]
/-! isbundle -/
def M.okE (e : S94) : Bool := M.inr e.f0 0 2147483646 && (M.inr e.f1 0 1000000 && M.inr e.f2 1 1000000)
def M.lessE (a b : S94) : Bool := decide (a.f0 < b.f0) || (decide (a.f0 = b.f0) && decide (a.f1 < b.f1))
/-- All entries are in range, and each comes behind the one before it. -/
def M.rises : Option S94 → List S94 → Bool
  | _, [] => true
  | none, e :: l => M.okE e && M.rises (some e) l
  | some p, e :: l => M.okE e && (M.lessE p e && M.rises (some e) l)
def M.isBundle (l : List S94) : Bool := decide (l.length ≤ 20) && M.rises none l
/-- The element before a place. -/
def M.before (l : List S94) (i : Nat) : Option S94 := if i = 0 then none else l[i - 1]?
theorem before_succ (l : List S94) (i : Nat) (h : i < l.length) : M.before l (i + 1) = some l[i] := by
  unfold M.before; rw [if_neg (by omega)]; simp [h]
theorem rises_at (l : List S94) (i : Nat) (h : i < l.length) : M.rises (M.before l i) (l.drop i) = (M.okE l[i] && ((decide (i = 0) || M.lessE (l[i - 1]'(by omega)) l[i]) && M.rises (M.before l (i + 1)) (l.drop (i + 1)))) := by
  rw [drop_get h, before_succ l i h]
  by_cases h0 : i = 0
  · subst h0; simp [M.before, M.rises]
  · unfold M.before; rw [if_neg h0, List.getElem?_eq_getElem (by omega)]; simp [M.rises, h0]
theorem isBundle_len {l : List S94} (h : M.isBundle l = true) : l.length ≤ 20 := by
  unfold M.isBundle at h; simp only [Bool.and_eq_true, decide_eq_true_eq] at h; exact h.1
/-! encbundle -/
def M.bit (b : Bool) : Int := if b = true then 1 else 0
def M.entryInts (e : S94) : List Int := [e.f0, e.f1, e.f2, M.bit e.f3]
def M.bundleInts (l : List S94) : List Int := (l.length : Int) :: l.flatMap M.entryInts
def M.encB (l : List S94) : List Int := if M.isBundle l = true then M.encInts (M.bundleInts l) else []
theorem entries_len : ∀ l : List S94, (l.flatMap M.entryInts).length = 4 * l.length
  | [] => by simp
  | e :: l => by
    have := entries_len l
    simp only [List.flatMap_cons, List.length_append, List.length_cons, M.entryInts, List.length_nil] at *; omega
theorem encB_len (l : List S94) : (M.encB l).length ≤ 486 := by
  unfold M.encB; split
  · rename_i h
    have := isBundle_len h; have := encInts_len (M.bundleInts l); have := entries_len l
    simp only [M.bundleInts, List.length_cons] at *; omega
  · simp
/-! findentry -/
/-- The place of an entry, counted from i on; -1 where there is none. -/
def M.findFrom (s h : Int) : List S94 → Int → Int
  | [], _ => -1
  | e :: l, i => if e.f0 = s ∧ e.f1 = h then i else M.findFrom s h l (i + 1)
def M.findEntry (l : List S94) (s h : Int) : Int := M.findFrom s h l 0
/-! putm -/
theorem lessE_iff {a b : S94} : M.lessE a b = true ↔ a.f0 < b.f0 ∨ (a.f0 = b.f0 ∧ a.f1 < b.f1) := by simp [M.lessE]
theorem lessE_false {a b : S94} : M.lessE a b = false ↔ ¬ (a.f0 < b.f0 ∨ (a.f0 = b.f0 ∧ a.f1 < b.f1)) := by rw [← lessE_iff]; simp
/-- Strictly ascending. -/
def M.asc (l : List S94) : Prop := l.Pairwise fun a b => M.lessE a b = true
theorem rises_asc : ∀ (l : List S94) (p : Option S94), M.rises p l = true → M.asc l ∧ (∀ e ∈ l, M.okE e = true) ∧ ∀ q, p = some q → ∀ e ∈ l, M.lessE q e = true
  | [], p, _ => ⟨List.Pairwise.nil, by simp, by simp⟩
  | e :: l, p, h => by
    have h2 : M.okE e = true ∧ M.rises (some e) l = true ∧ ∀ q, p = some q → M.lessE q e = true := by
      cases p with
      | none => simp only [M.rises, Bool.and_eq_true] at h; exact ⟨h.1, h.2, by simp⟩
      | some q => simp only [M.rises, Bool.and_eq_true] at h; exact ⟨h.1, h.2.2, fun q' hq => by cases hq; exact h.2.1⟩
    obtain ⟨i1, i2, i3⟩ := rises_asc l (some e) h2.2.1
    refine ⟨List.Pairwise.cons (fun b hb => i3 e rfl b hb) i1, ?_, ?_⟩
    · intro b hb
      rcases List.mem_cons.1 hb with rfl | hb
      · exact h2.1
      · exact i2 b hb
    · intro q hq b hb
      have hqe := h2.2.2 q hq
      rcases List.mem_cons.1 hb with rfl | hb
      · exact hqe
      · have := i3 e rfl b hb
        rw [lessE_iff] at *; omega
theorem isBundle_iff (l : List S94) : M.isBundle l = true ↔ l.length ≤ 20 ∧ M.asc l ∧ ∀ e ∈ l, M.okE e = true := by
  unfold M.isBundle
  constructor
  · intro h
    simp only [Bool.and_eq_true, decide_eq_true_eq] at h
    obtain ⟨h1, h2, _⟩ := rises_asc l none h.2
    exact ⟨h.1, h1, h2⟩
  · rintro ⟨h1, h2, h3⟩
    simp only [Bool.and_eq_true, decide_eq_true_eq]
    refine ⟨h1, ?_⟩
    have : ∀ (l : List S94) (p : Option S94), M.asc l → (∀ e ∈ l, M.okE e = true) → (∀ q, p = some q → ∀ e ∈ l, M.lessE q e = true) → M.rises p l = true := by
      intro l
      induction l with
      | nil => intro p _ _ _; cases p <;> rfl
      | cons e l ih =>
        intro p ha ho hp
        have ha' := List.pairwise_cons.1 ha
        have hr := ih (some e) ha'.2 (fun b hb => ho b (List.mem_cons_of_mem _ hb)) (fun q hq b hb => by cases hq; exact ha'.1 b hb)
        have hoe := ho e List.mem_cons_self
        cases p with
        | none => simp [M.rises, hoe, hr]
        | some q => simp [M.rises, hoe, hr, hp q rfl e List.mem_cons_self]
    exact this l none h2 h3 (by simp)
/-- Which of two entries of one place stays. -/
def M.pick (x e : S94) : S94 := if e.f2 > x.f2 ∨ (e.f2 = x.f2 ∧ e.f3 = true) then e else x
/-- An entry put into a row that ascends. -/
def M.put1 (e : S94) : List S94 → List S94
  | [] => [e]
  | x :: l => if M.lessE x e = true then x :: M.put1 e l else if M.lessE e x = true then e :: x :: l else M.pick x e :: l
def M.merge : List S94 → List S94 → List S94
  | [], b => b
  | x :: a, [] => x :: a
  | x :: a, y :: b => if M.lessE x y = true then x :: M.merge a (y :: b) else if M.lessE y x = true then y :: M.merge (x :: a) b else M.pick x y :: M.merge a b
termination_by a b => a.length + b.length
theorem merge_nil (a : List S94) : M.merge a [] = a := by cases a <;> simp [M.merge]
theorem nil_merge (a : List S94) : M.merge [] a = a := by simp [M.merge]
theorem merge_cons (x y : S94) (a b : List S94) : M.merge (x :: a) (y :: b) = if M.lessE x y = true then x :: M.merge a (y :: b) else if M.lessE y x = true then y :: M.merge (x :: a) b else M.pick x y :: M.merge a b := by rw [M.merge]
theorem pick_key (x e : S94) (h : x.f0 = e.f0 ∧ x.f1 = e.f1) : (M.pick x e).f0 = e.f0 ∧ (M.pick x e).f1 = e.f1 := by unfold M.pick; split <;> simp [h]
theorem same_key {x e : S94} (h1 : ¬ M.lessE x e = true) (h2 : ¬ M.lessE e x = true) : x.f0 = e.f0 ∧ x.f1 = e.f1 := by rw [lessE_iff] at h1 h2; omega
theorem merge_small (x : S94) (a b : List S94) (h : ∀ z ∈ b, M.lessE x z = true) : M.merge (x :: a) b = x :: M.merge a b := by
  cases b with
  | nil => rw [merge_nil, merge_nil]
  | cons z b => rw [merge_cons, if_pos (h z List.mem_cons_self)]
theorem merge_put (y : S94) (b : List S94) (hb : ∀ z ∈ b, M.lessE y z = true) : ∀ a : List S94, M.merge a (y :: b) = M.merge (M.put1 y a) b
  | [] => by rw [nil_merge, M.put1, merge_small y [] b hb, nil_merge]
  | x :: a => by
    rw [merge_cons, M.put1]
    by_cases h1 : M.lessE x y = true
    · rw [if_pos h1, if_pos h1, merge_put y b hb a, merge_small x _ b]
      intro z hz
      have := hb z hz
      rw [lessE_iff] at *; omega
    · rw [if_neg h1, if_neg h1]
      by_cases h2 : M.lessE y x = true
      · rw [if_pos h2, if_pos h2, merge_small y _ b hb]
      · rw [if_neg h2, if_neg h2, merge_small _ _ b]
        intro z hz
        have hk := pick_key x y (same_key h1 h2)
        have := hb z hz
        rw [lessE_iff] at *; rw [hk.1, hk.2]; exact this
theorem merge_fold : ∀ (b a : List S94), M.asc b → b.foldl (fun o e => M.put1 e o) a = M.merge a b
  | [], a, _ => by rw [merge_nil]; rfl
  | y :: b, a, h => by
    have h' := List.pairwise_cons.1 h
    rw [List.foldl_cons, merge_fold b _ h'.2, merge_put y b h'.1]
theorem put1_mem (e : S94) : ∀ (l : List S94) (z : S94), z ∈ M.put1 e l → (∃ x ∈ l, z.f0 = x.f0 ∧ z.f1 = x.f1) ∨ (z.f0 = e.f0 ∧ z.f1 = e.f1)
  | [], z, h => by rw [M.put1] at h; rw [List.mem_singleton.1 h]; exact .inr ⟨rfl, rfl⟩
  | x :: l, z, h => by
    rw [M.put1] at h
    by_cases h1 : M.lessE x e = true
    · rw [if_pos h1] at h
      rcases List.mem_cons.1 h with rfl | h
      · exact .inl ⟨z, List.mem_cons_self, rfl, rfl⟩
      · rcases put1_mem e l z h with ⟨x', hx, hk⟩ | hk
        · exact .inl ⟨x', List.mem_cons_of_mem _ hx, hk⟩
        · exact .inr hk
    · rw [if_neg h1] at h
      by_cases h2 : M.lessE e x = true
      · rw [if_pos h2] at h
        rcases List.mem_cons.1 h with rfl | h
        · exact .inr ⟨rfl, rfl⟩
        · exact .inl ⟨z, h, rfl, rfl⟩
      · rw [if_neg h2] at h
        rcases List.mem_cons.1 h with rfl | h
        · exact .inr (pick_key x e (same_key h1 h2))
        · exact .inl ⟨z, List.mem_cons_of_mem _ h, rfl, rfl⟩
theorem put1_asc (e : S94) : ∀ (l : List S94), M.asc l → M.asc (M.put1 e l)
  | [], _ => by rw [M.put1]; exact List.pairwise_singleton _ _
  | x :: l, h => by
    have h' := List.pairwise_cons.1 h
    rw [M.put1]
    by_cases h1 : M.lessE x e = true
    · rw [if_pos h1]
      refine List.Pairwise.cons ?_ (put1_asc e l h'.2)
      intro z hz
      rcases put1_mem e l z hz with ⟨x', hx, hk⟩ | hk
      · have := h'.1 x' hx
        rw [lessE_iff] at *; omega
      · rw [lessE_iff] at *; omega
    · rw [if_neg h1]
      by_cases h2 : M.lessE e x = true
      · rw [if_pos h2]
        refine List.Pairwise.cons ?_ h
        intro z hz
        rcases List.mem_cons.1 hz with rfl | hz
        · exact h2
        · have := h'.1 z hz
          rw [lessE_iff] at *; omega
      · rw [if_neg h2]
        refine List.Pairwise.cons ?_ h'.2
        intro z hz
        have hk := pick_key x e (same_key h1 h2)
        have hs := same_key h1 h2
        have := h'.1 z hz
        rw [lessE_iff] at *; rw [hk.1, hk.2]; omega
theorem put1_len (e : S94) : ∀ (l : List S94), (M.put1 e l).length ≤ l.length + 1
  | [] => by simp [M.put1]
  | x :: l => by
    have := put1_len e l
    rw [M.put1]; split
    · simp; omega
    · split <;> simp
theorem findFrom_bounds (s h : Int) : ∀ (l : List S94) (i : Int), M.findFrom s h l i = -1 ∨ (i ≤ M.findFrom s h l i ∧ M.findFrom s h l i < i + l.length)
  | [], i => .inl rfl
  | e :: l, i => by
    unfold M.findFrom
    split
    · exact .inr ⟨by omega, by simp; omega⟩
    · rcases findFrom_bounds s h l (i + 1) with h2 | h2
      · exact .inl h2
      · exact .inr ⟨by omega, by simp; omega⟩
theorem findEntry_bounds (l : List S94) (s h : Int) : M.findEntry l s h = -1 ∨ (0 ≤ M.findEntry l s h ∧ M.findEntry l s h < l.length) := by
  have := findFrom_bounds s h l 0
  unfold M.findEntry; omega
theorem findFrom_shift (s h : Int) : ∀ (l : List S94) (i : Int), 0 ≤ i → M.findFrom s h l (i + 1) = if M.findFrom s h l i < 0 then -1 else M.findFrom s h l i + 1
  | [], i, _ => by simp [M.findFrom]
  | e :: l, i, hi => by
    unfold M.findFrom
    by_cases hk : e.f0 = s ∧ e.f1 = h
    · rw [if_pos hk, if_pos hk, if_neg (by omega)]
    · rw [if_neg hk, if_neg hk]; exact findFrom_shift s h l (i + 1) (by omega)
theorem findEntry_cons (e : S94) (l : List S94) (s h : Int) : M.findEntry (e :: l) s h = if e.f0 = s ∧ e.f1 = h then 0 else if M.findEntry l s h < 0 then -1 else M.findEntry l s h + 1 := by
  unfold M.findEntry
  rw [M.findFrom, findFrom_shift s h l 0 (by omega)]
/-- The entry at a place, as the program reads it. -/
def M.eAt (l : List S94) (k : Int) : S94 := rd_T94 l k
theorem eAt_cons (e : S94) (l : List S94) (k : Int) (h : 0 ≤ k) (hl : k < l.length) : M.eAt (e :: l) (k + 1) = M.eAt l k := by
  obtain ⟨n, rfl⟩ := Int.eq_ofNat_of_zero_le h
  have hn : n < l.length := by omega
  show rd_T94 (e :: l) ((n : Int) + 1) = rd_T94 l (n : Int)
  rw [show ((n : Int) + 1) = ((n + 1 : Nat) : Int) from rfl, rd_Entry (by simp; omega), rd_Entry hn]; rfl
/-- Where a new entry is put. -/
def M.insE (e : S94) : List S94 → Nat
  | [] => 0
  | c :: l => if M.lessE c e = true then M.insE e l + 1 else 0
theorem insE_le (e : S94) : ∀ l : List S94, M.insE e l ≤ l.length
  | [] => Nat.le_refl _
  | c :: l => by have := insE_le e l; unfold M.insE; split <;> simp <;> omega
theorem insE_drop (e : S94) (l : List S94) (i : Nat) (hi : i < l.length) : M.insE e (l.drop i) = if M.lessE l[i] e = true then M.insE e (l.drop (i + 1)) + 1 else 0 := by
  rw [drop_get hi]; rfl
def M.insertE (l : List S94) (e : S94) : List S94 := l.take (M.insE e l) ++ [e] ++ l.drop (M.insE e l)
theorem insertE_len (l : List S94) (e : S94) : (M.insertE l e).length = l.length + 1 := by
  have := insE_le e l
  simp [M.insertE]; omega
theorem insertE_cons (c : S94) (l : List S94) (e : S94) : M.insertE (c :: l) e = if M.lessE c e = true then c :: M.insertE l e else e :: c :: l := by
  unfold M.insertE
  rw [show M.insE e (c :: l) = if M.lessE c e = true then M.insE e l + 1 else 0 from rfl]
  split <;> simp
def M.setE (l : List S94) (e : S94) : List S94 := if 0 ≤ M.findEntry l e.f0 e.f1 then l.set (M.findEntry l e.f0 e.f1).toNat e else M.insertE l e
theorem setE_len (l : List S94) (e : S94) : l.length ≤ (M.setE l e).length ∧ (M.setE l e).length ≤ l.length + 1 := by
  unfold M.setE; split
  · simp
  · rw [insertE_len]; omega
theorem find_none {l : List S94} {s h : Int} (hn : ∀ z ∈ l, ¬ (z.f0 = s ∧ z.f1 = h)) : M.findEntry l s h = -1 := by
  unfold M.findEntry
  have : ∀ (l : List S94) (i : Int), (∀ z ∈ l, ¬ (z.f0 = s ∧ z.f1 = h)) → M.findFrom s h l i = -1 := by
    intro l
    induction l with
    | nil => intro i _; rfl
    | cons e l ih => intro i hn; rw [M.findFrom, if_neg (hn e List.mem_cons_self)]; exact ih _ (fun z hz => hn z (List.mem_cons_of_mem _ hz))
  exact this l 0 hn
/-- What the reference does with one entry of the other bundle. -/
def M.putS (o : List S94) (e : S94) : List S94 :=
  if M.findEntry o e.f0 e.f1 < 0 then M.setE o e else if e.f2 > (M.eAt o (M.findEntry o e.f0 e.f1)).f2 ∨ (e.f2 = (M.eAt o (M.findEntry o e.f0 e.f1)).f2 ∧ e.f3 = true) then M.setE o e else o
theorem putS_new {o : List S94} {e : S94} (h : M.findEntry o e.f0 e.f1 < 0) : M.putS o e = M.insertE o e := by
  unfold M.putS M.setE; rw [if_pos h, if_neg (by omega)]
theorem putS_old {o : List S94} {e : S94} (h : 0 ≤ M.findEntry o e.f0 e.f1) : M.putS o e = if e.f2 > (M.eAt o (M.findEntry o e.f0 e.f1)).f2 ∨ (e.f2 = (M.eAt o (M.findEntry o e.f0 e.f1)).f2 ∧ e.f3 = true) then o.set (M.findEntry o e.f0 e.f1).toNat e else o := by
  unfold M.putS M.setE; rw [if_neg (by omega), if_pos h]
theorem putS_eq (e : S94) : ∀ (l : List S94), M.asc l → M.putS l e = M.put1 e l
  | [], _ => by
    have : M.findEntry [] e.f0 e.f1 = -1 := rfl
    rw [putS_new (by omega)]; rfl
  | x :: l, h => by
    have h' := List.pairwise_cons.1 h
    have ih := putS_eq e l h'.2
    have hb := findEntry_bounds l e.f0 e.f1
    rw [M.put1]
    by_cases h1 : M.lessE x e = true
    · rw [if_pos h1, ← ih]
      have hne : ¬ (x.f0 = e.f0 ∧ x.f1 = e.f1) := by rw [lessE_iff] at h1; omega
      by_cases hf : M.findEntry l e.f0 e.f1 < 0
      · have hx : M.findEntry (x :: l) e.f0 e.f1 < 0 := by rw [findEntry_cons, if_neg hne, if_pos hf]; omega
        rw [putS_new hx, putS_new hf, insertE_cons, if_pos h1]
      · have hx : M.findEntry (x :: l) e.f0 e.f1 = M.findEntry l e.f0 e.f1 + 1 := by rw [findEntry_cons, if_neg hne, if_neg hf]
        have hk : M.eAt (x :: l) (M.findEntry l e.f0 e.f1 + 1) = M.eAt l (M.findEntry l e.f0 e.f1) := eAt_cons x l _ (by omega) (by omega)
        have ht : (M.findEntry l e.f0 e.f1 + 1).toNat = (M.findEntry l e.f0 e.f1).toNat + 1 := by omega
        rw [putS_old (by omega), putS_old (by omega), hx, hk, ht, List.set_cons_succ]
        split <;> rfl
    · rw [if_neg h1]
      by_cases h2 : M.lessE e x = true
      · rw [if_pos h2]
        have hnone : M.findEntry (x :: l) e.f0 e.f1 = -1 := find_none (by
          intro z hz
          rcases List.mem_cons.1 hz with rfl | hz
          · rw [lessE_iff] at h2; omega
          · have := h'.1 z hz
            rw [lessE_iff] at this h2; omega)
        rw [putS_new (by omega), insertE_cons, if_neg h1]
      · rw [if_neg h2]
        have hk := same_key h1 h2
        have hx : M.findEntry (x :: l) e.f0 e.f1 = 0 := by rw [findEntry_cons, if_pos hk]
        have he : M.eAt (x :: l) 0 = x := rfl
        rw [putS_old (by omega), hx, he]
        unfold M.pick
        split <;> rfl
theorem putS_len (o : List S94) (e : S94) : (M.putS o e).length ≤ o.length + 1 := by
  unfold M.putS
  have := setE_len o e
  split
  · omega
  · split <;> omega
def M.mergeB (a b : List S94) : List S94 × Bool := if M.isBundle a = true ∧ M.isBundle b = true ∧ M.isBundle (M.merge a b) = true then (M.merge a b, true) else (a, false)
theorem mergeB_len (a b : List S94) (ha : a.length ≤ 1048576) : (M.mergeB a b).1.length ≤ 1048576 := by
  unfold M.mergeB; split
  · rename_i h; have := ((isBundle_iff _).1 h.2.2).1; simp only; omega
  · exact ha
/-! decbundle -/
def M.toE (l : List Int) : S94 := ⟨rd l 0, rd l 1, rd l 2, rd l 3 == 1⟩
def M.ents : Nat → List Int → List S94
  | 0, _ => []
  | n + 1, l => M.toE l :: M.ents n (l.drop 4)
def M.decEnts : Nat → List Int → Option (List S94 × List Int)
  | 0, s => some ([], s)
  | c + 1, s => match M.decI 4 s with
    | none => none
    | some (l, r) => match M.decEnts c r with
      | none => none
      | some (es, t) => some (M.toE l :: es, t)
def M.decB (x : List Int) : List S94 × Bool := match M.parse x with
  | none => ([], false)
  | some (n, r) => if n > 20 then ([], false) else match M.decEnts n r with
    | none => ([], false)
    | some (es, _) => if M.isBundle es = true ∧ M.encB es = x then (es, true) else ([], false)
theorem decI_len : ∀ (c : Nat) (s l r : List Int), M.decI c s = some (l, r) → l.length = c
  | 0, s, l, r, h => by simp only [M.decI, Option.some.injEq, Prod.mk.injEq] at h; rw [← h.1]; rfl
  | c + 1, s, l, r, h => by
    rw [M.decI] at h
    cases hp : M.parse s with
    | none => rw [hp] at h; cases h
    | some y =>
      rw [hp] at h; simp only at h
      cases hd : M.decI c y.2 with
      | none => rw [hd] at h; cases h
      | some z =>
        rw [hd] at h; simp only [Option.some.injEq, Prod.mk.injEq] at h
        have := decI_len c y.2 z.1 z.2 hd
        rw [← h.1]; simp [this]
theorem decI_add : ∀ (a b : Nat) (s : List Int), M.decI (a + b) s = match M.decI a s with
    | none => none
    | some (l, r) => match M.decI b r with
      | none => none
      | some (l2, t) => some (l ++ l2, t)
  | 0, b, s => by
    simp only [M.decI, Nat.zero_add]
    cases M.decI b s <;> simp
  | a + 1, b, s => by
    rw [show a + 1 + b = (a + b) + 1 by omega, M.decI, M.decI]
    cases M.parse s with
    | none => rfl
    | some y =>
      simp only
      rw [decI_add a b y.2]
      cases M.decI a y.2 with
      | none => rfl
      | some z =>
        simp only
        cases M.decI b z.2 <;> simp
theorem len4 {l : List Int} (h : l.length = 4) : ∃ a b c d, l = [a, b, c, d] := by
  match l, h with
  | [a, b, c, d], _ => exact ⟨a, b, c, d, rfl⟩
theorem decEnts_eq : ∀ (n : Nat) (s : List Int), M.decEnts n s = match M.decI (4 * n) s with
    | none => none
    | some (l, t) => some (M.ents n l, t)
  | 0, s => by simp [M.decEnts, M.decI, M.ents]
  | n + 1, s => by
    rw [show 4 * (n + 1) = 4 + 4 * n by omega, decI_add, M.decEnts]
    cases hd : M.decI 4 s with
    | none => rfl
    | some y =>
      obtain ⟨a, b, c, d, e⟩ := len4 (decI_len 4 s y.1 y.2 hd)
      simp only
      rw [decEnts_eq n y.2, e]
      cases M.decI (4 * n) y.2 with
      | none => rfl
      | some z => rfl
def M.flags : Nat → List Int → Bool
  | 0, _ => true
  | n + 1, l => !decide (rd l 3 > 1) && M.flags n (l.drop 4)
theorem ents_len : ∀ (n : Nat) (l : List Int), (M.ents n l).length = n
  | 0, _ => rfl
  | n + 1, l => by simp [M.ents, ents_len n]
theorem flags_iff : ∀ (n : Nat) (l : List Int), l.length = 4 * n → M.oks l → (M.flags n l = true ↔ (M.ents n l).flatMap M.entryInts = l)
  | 0, l, h, _ => by
    have : l = [] := List.eq_nil_of_length_eq_zero h
    subst this; simp [M.flags, M.ents]
  | n + 1, l, h, hk => by
    match l, h, hk with
    | a :: b :: c :: d :: l, h, hk =>
      have hd := hk d (by simp)
      have ih := flags_iff n l (by simp at h; omega) (fun v hv => hk v (by simp [hv]))
      have e1 : M.ents (n + 1) (a :: b :: c :: d :: l) = ⟨a, b, c, d == 1⟩ :: M.ents n l := rfl
      have e2 : M.flags (n + 1) (a :: b :: c :: d :: l) = (!decide (d > 1) && M.flags n l) := rfl
      rw [e1, e2, List.flatMap_cons]
      have e3 : M.entryInts ⟨a, b, c, d == 1⟩ ++ (M.ents n l).flatMap M.entryInts = a :: b :: c :: M.bit (d == 1) :: (M.ents n l).flatMap M.entryInts := rfl
      rw [e3]
      simp only [Bool.and_eq_true, ih, List.cons.injEq, true_and, M.bit, beq_iff_eq, Bool.not_eq_true', decide_eq_false_iff_not]
      constructor
      · rintro ⟨h1, h2⟩
        refine ⟨?_, h2⟩
        split <;> omega
      · rintro ⟨h1, h2⟩
        refine ⟨?_, h2⟩
        split at h1 <;> omega
theorem oks_bundle {es : List S94} (h : M.isBundle es = true) : M.oks (es.flatMap M.entryInts) := by
  obtain ⟨_, _, h3⟩ := (isBundle_iff es).1 h
  intro v hv
  obtain ⟨e, he, hv⟩ := List.mem_flatMap.1 hv
  have ho := h3 e he
  simp only [M.okE, Bool.and_eq_true, inr_true] at ho
  simp only [M.entryInts, List.mem_cons, List.not_mem_nil, or_false, M.bit] at hv
  rcases hv with rfl | rfl | rfl | rfl
  · omega
  · omega
  · omega
  · split <;> omega
/-- The two ways to tell a good code are one. -/
theorem decB_eq {x r l t : List Int} {n : Nat} (hb : M.byt x) (hp : M.parse x = some (n, r)) (hn : ¬ n > 20) (hd : M.decI (4 * n) r = some (l, t)) (hi : M.isBundle (M.ents n l) = true) : M.encB (M.ents n l) = x ↔ t = [] ∧ M.flags n l = true := by
  have hr := parse_rest hb hp
  obtain ⟨hn1, hx⟩ := (parse_iff hb n r).1 hp
  obtain ⟨hl, hk, hs⟩ := (decI_iff _ hr l t).1 hd
  have hu : M.uv (n : Int) = M.uvl n := by unfold M.uv; rw [if_pos (by omega)]; rfl
  have he : M.encB (M.ents n l) = M.uvl n ++ M.encInts ((M.ents n l).flatMap M.entryInts) := by
    unfold M.encB M.bundleInts; rw [if_pos hi, encInts_cons, ents_len, hu]
  rw [he, hx, flags_iff n l hl hk]
  constructor
  · intro h
    have h1 : M.encInts ((M.ents n l).flatMap M.entryInts) = r := List.append_cancel_left h
    have h2 : M.decI (4 * n) r = some ((M.ents n l).flatMap M.entryInts, []) := (decI_iff _ hr _ _).2 ⟨by rw [entries_len, ents_len], oks_bundle hi, by rw [h1, List.append_nil]⟩
    rw [hd] at h2
    simp only [Option.some.injEq, Prod.mk.injEq] at h2
    exact ⟨h2.2, h2.1.symm⟩
  · rintro ⟨h1, h2⟩
    rw [h2, hs, h1, List.append_nil]
theorem decB_len (x : List Int) : (M.decB x).1.length ≤ 1048576 := by
  unfold M.decB
  split
  · simp
  · split
    · simp
    · split
      · simp
      · split
        · rename_i h; have := isBundle_len h.1; simp only; omega
        · simp
theorem rd_toE (l : List Int) : (⟨rd l 0, rd l 1, rd l 2, rd l 3 == 1⟩ : S94) = M.toE l := rfl
/-! roundtrip -/
theorem ents_of : ∀ b : List S94, M.ents b.length (b.flatMap M.entryInts) = b
  | [] => rfl
  | e :: b => by
    have ih := ents_of b
    rw [List.flatMap_cons, List.length_cons, M.ents]
    have e1 : (M.entryInts e ++ b.flatMap M.entryInts).drop 4 = b.flatMap M.entryInts := rfl
    rw [e1, ih]
    have e2 : M.toE (M.entryInts e ++ b.flatMap M.entryInts) = e := by
      obtain ⟨f0, f1, f2, f3⟩ := e
      cases f3 <;> rfl
    rw [e2]
theorem decB_encB {b : List S94} (h : M.isBundle b = true) : M.decB (M.encB b) = (b, true) := by
  have hlen := isBundle_len h
  have hx : M.encB b = M.uvl b.length ++ M.encInts (b.flatMap M.entryInts) := by
    have hu : M.uv (b.length : Int) = M.uvl b.length := by unfold M.uv; rw [if_pos (by omega)]; rfl
    unfold M.encB M.bundleInts; rw [if_pos h, encInts_cons, hu]
  have hb : M.byt (M.encB b) := by unfold M.encB; rw [if_pos h]; exact encInts_byt _
  have hp : M.parse (M.encB b) = some (b.length, M.encInts (b.flatMap M.entryInts)) := (parse_iff hb _ _).2 ⟨by omega, hx⟩
  have hd : M.decI (4 * b.length) (M.encInts (b.flatMap M.entryInts)) = some (b.flatMap M.entryInts, []) := (decI_iff _ (encInts_byt _) _ _).2 ⟨entries_len b, oks_bundle h, by rw [List.append_nil]⟩
  unfold M.decB
  rw [hp]; simp only
  rw [if_neg (by omega), decEnts_eq, hd]; simp only
  rw [ents_of, if_pos ⟨h, rfl⟩]
/-! mod -/
def M.mod (a m : Int) : Int := if 1 ≤ m ∧ m ≤ 1000000000000 then a % m else 0
theorem tmod_bounds (a m : Int) (h : 1 ≤ m) : -m < Int.tmod a m ∧ Int.tmod a m < m := by
  have h1 := Int.tmod_lt_of_pos a (by omega : 0 < m)
  have h2 := Int.lt_tmod_of_pos a (by omega : 0 < m)
  exact ⟨h2, h1⟩
theorem tmod_emod (a m : Int) (h : 1 ≤ m) : Int.tmod a m = if Int.tmod a m < 0 then a % m - m else a % m := by
  rw [Int.tmod_eq_emod]
  have := Int.emod_nonneg a (by omega : m ≠ 0)
  have := Int.emod_lt_of_pos a (by omega : 0 < m)
  have e : ((m.natAbs : Nat) : Int) = m := by omega
  by_cases h0 : 0 ≤ a ∨ m ∣ a
  · rw [if_pos h0]
    split <;> omega
  · rw [if_neg h0, e]
    split <;> omega
theorem tmod_pos (a m : Int) (h : 0 ≤ a) : Int.tmod a m = a % m := Int.tmod_eq_emod_of_nonneg h
theorem mod_add_self (a m : Int) (h : 1 ≤ m) : Int.tmod (Int.tmod a m + m) m = a % m := by
  have hb := tmod_bounds a m h
  have := Int.emod_nonneg a (by omega : m ≠ 0)
  have := Int.emod_lt_of_pos a (by omega : 0 < m)
  rw [tmod_pos _ _ (by omega)]
  have e := tmod_emod a m h
  by_cases hn : Int.tmod a m < 0
  · rw [if_pos hn] at e; rw [e, show a % m - m + m = a % m by omega, Int.emod_emod_of_dvd _ (Int.dvd_refl m)]
  · rw [if_neg hn] at e; rw [e, Int.add_emod_right, Int.emod_emod_of_dvd _ (Int.dvd_refl m)]
/-! hash -/
def M.hstep (h v : Int) : Int := (h * 1000003 + v % 2147483647 + 13) % 2147483647
def M.hash (l : List Int) : Int := l.foldl M.hstep 11
theorem hstep_bounds (h v : Int) : 0 ≤ M.hstep h v ∧ M.hstep h v < 2147483647 := ⟨Int.emod_nonneg _ (by decide), Int.emod_lt_of_pos _ (by decide)⟩
theorem hstep_eq (h v : Int) (h0 : 0 ≤ h) (h1 : h < 2147483647) : Int.tmod (wrap64 ((wrap64 ((wrap64 (h * 1000003)) + M.mod v 2147483647)) + 13)) 2147483647 = M.hstep h v := by
  have e : M.mod v 2147483647 = v % 2147483647 := by unfold M.mod; rw [if_pos (by omega)]
  have := Int.emod_nonneg v (by decide : (2147483647 : Int) ≠ 0)
  have := Int.emod_lt_of_pos v (by decide : 0 < (2147483647 : Int))
  rw [e, wrap_in (n := h * 1000003) (by omega) (by omega), wrap_in (n := _ + v % 2147483647) (by omega) (by omega), wrap_in (by omega) (by omega), tmod_pos _ _ (by omega)]
  rfl
theorem hash_bounds (l : List Int) : 0 ≤ M.hash l ∧ M.hash l < 2147483647 := by
  unfold M.hash
  have : ∀ (l : List Int) (h : Int), 0 ≤ h ∧ h < 2147483647 → 0 ≤ l.foldl M.hstep h ∧ l.foldl M.hstep h < 2147483647 := by
    intro l
    induction l with
    | nil => intro h hh; exact hh
    | cons x l ih => intro h hh; exact ih _ (hstep_bounds _ _)
  exact this l 11 (by omega)
/-! keyed -/
def M.keyed (a : Int) (l : List Int) : Int := M.hash ([a] ++ l ++ [a])
theorem keyed_bounds (a : Int) (l : List Int) : 0 ≤ M.keyed a l ∧ M.keyed a l < 2147483647 := hash_bounds _
/-! otherkey -/
/-- The powers of the hash's factor. -/
def M.pws : Nat → Nat
  | 0 => 1
  | m + 1 => (M.pws m * 1000003) % 2147483647
theorem pws_ok : ∀ m : Fin 500, Nat.gcd 2147483647 (M.pws m.val + 1) = 1 := by decide +kernel
theorem hstep_lin (h h' v : Int) : ∃ t, M.hstep h v - M.hstep h' v = (h - h') * 1000003 + 2147483647 * t := by
  unfold M.hstep
  refine ⟨(h' * 1000003 + v % 2147483647 + 13) / 2147483647 - (h * 1000003 + v % 2147483647 + 13) / 2147483647, ?_⟩
  rw [Int.emod_def, Int.emod_def (h' * 1000003 + v % 2147483647 + 13)]
  generalize (h * 1000003 + v % 2147483647 + 13) / 2147483647 = x
  generalize (h' * 1000003 + v % 2147483647 + 13) / 2147483647 = y
  grind
theorem pws_succ (n : Nat) : ∃ q : Int, (1000003 : Int) * (M.pws n : Int) = (M.pws (n + 1) : Int) + 2147483647 * q := by
  refine ⟨((M.pws n * 1000003 / 2147483647 : Nat) : Int), ?_⟩
  have : M.pws n * 1000003 = M.pws (n + 1) + 2147483647 * (M.pws n * 1000003 / 2147483647) := by
    have := Nat.mod_add_div (M.pws n * 1000003) 2147483647
    exact this.symm
  have h2 : ((M.pws n * 1000003 : Nat) : Int) = ((M.pws (n + 1) + 2147483647 * (M.pws n * 1000003 / 2147483647) : Nat) : Int) := by exact congrArg _ this
  rw [Int.natCast_mul, Int.natCast_add, Int.natCast_mul] at h2
  rw [Int.mul_comm]; exact h2
theorem fold_lin : ∀ (l : List Int) (h h' : Int), ∃ t, l.foldl M.hstep h - l.foldl M.hstep h' = (h - h') * (M.pws l.length : Int) + 2147483647 * t
  | [], h, h' => ⟨0, by simp [M.pws]⟩
  | v :: l, h, h' => by
    obtain ⟨t1, e1⟩ := fold_lin l (M.hstep h v) (M.hstep h' v)
    obtain ⟨t2, e2⟩ := hstep_lin h h' v
    obtain ⟨q, e3⟩ := pws_succ l.length
    rw [List.foldl_cons, List.foldl_cons, e1, e2, List.length_cons]
    refine ⟨(h - h') * q + t2 * (M.pws l.length : Int) + t1, ?_⟩
    generalize (M.pws (l.length + 1) : Int) = N at e3 ⊢
    generalize (M.pws l.length : Int) = P at e3 ⊢
    generalize h - h' = A
    grind
theorem keyed_lin (a b : Int) (l : List Int) : ∃ t, M.keyed a l - M.keyed b l = (a - b) * ((M.pws (l.length + 1) : Int) + 1) + 2147483647 * t := by
  have e : ∀ x, M.keyed x l = M.hstep (l.foldl M.hstep (M.hstep 11 x)) x := by intro x; unfold M.keyed M.hash; simp
  have h1 : ∀ x : Int, ∃ t, M.hstep 11 x = 11 * 1000003 + x + 13 + 2147483647 * t := by
    intro x
    unfold M.hstep
    refine ⟨-((11 * 1000003 + x % 2147483647 + 13) / 2147483647) - x / 2147483647, ?_⟩
    rw [Int.emod_def, Int.emod_def x]
    generalize (11 * 1000003 + (x - 2147483647 * (x / 2147483647)) + 13) / 2147483647 = y
    generalize x / 2147483647 = z
    grind
  have h2 : ∀ g x : Int, ∃ t, M.hstep g x = g * 1000003 + x + 13 + 2147483647 * t := by
    intro g x
    unfold M.hstep
    refine ⟨-((g * 1000003 + x % 2147483647 + 13) / 2147483647) - x / 2147483647, ?_⟩
    rw [Int.emod_def, Int.emod_def x]
    generalize (g * 1000003 + (x - 2147483647 * (x / 2147483647)) + 13) / 2147483647 = y
    generalize x / 2147483647 = z
    grind
  obtain ⟨t1, e1⟩ := h1 a
  obtain ⟨t2, e2⟩ := h1 b
  obtain ⟨t3, e3⟩ := fold_lin l (M.hstep 11 a) (M.hstep 11 b)
  obtain ⟨t4, e4⟩ := h2 (l.foldl M.hstep (M.hstep 11 a)) a
  obtain ⟨t5, e5⟩ := h2 (l.foldl M.hstep (M.hstep 11 b)) b
  obtain ⟨q, e6⟩ := pws_succ l.length
  rw [e a, e b, e4, e5]
  generalize l.foldl M.hstep (M.hstep 11 a) = X at e3 ⊢
  generalize l.foldl M.hstep (M.hstep 11 b) = Y at e3 ⊢
  rw [e1, e2] at e3
  generalize (M.pws (l.length + 1) : Int) = N at e6 ⊢
  generalize (M.pws l.length : Int) = P at e3 e6
  refine ⟨(a - b) * q + (t1 - t2) * P * 1000003 + t3 * 1000003 + t4 - t5, ?_⟩
  grind
theorem keyed_other {a b : Int} {l : List Int} (hl : l.length + 1 < 500) (ha : 0 ≤ a ∧ a < 2147483647) (hb : 0 ≤ b ∧ b < 2147483647) (h : M.keyed a l = M.keyed b l) : a = b := by
  obtain ⟨t, e⟩ := keyed_lin a b l
  rw [h, Int.sub_self] at e
  have hd : (2147483647 : Int) ∣ (a - b) * ((M.pws (l.length + 1) : Int) + 1) := ⟨-t, by rw [Int.mul_neg]; omega⟩
  have hd2 := Int.natAbs_dvd_natAbs.2 hd
  rw [Int.natAbs_mul] at hd2
  have hc : Nat.Coprime 2147483647 (M.pws (l.length + 1) + 1) := pws_ok ⟨l.length + 1, hl⟩
  have e2 : ((M.pws (l.length + 1) : Int) + 1).natAbs = M.pws (l.length + 1) + 1 := by omega
  rw [e2] at hd2
  have hd3 : 2147483647 ∣ (a - b).natAbs := Nat.Coprime.dvd_of_dvd_mul_right hc hd2
  obtain ⟨s, hs⟩ := hd3
  have : s = 0 := by omega
  subst this
  omega
/-! hashmid -/
theorem p_small {d s : Int} (h1 : -2147483647 < d) (h2 : d < 2147483647) (h : d = 2147483647 * s) : d = 0 := by
  have : s = 0 := by omega
  rw [h, this]; rfl
theorem k_free {d t : Int} (h1 : -2147483647 < d) (h2 : d < 2147483647) (h : d * 1000003 = 2147483647 * t) : d = 0 := by
  have e : (1000003 : Int) * 1523789695 = 2147483647 * 709572 + 1 := by decide
  have h4 : d * (1000003 * 1523789695) = 2147483647 * (t * 1523789695) := by rw [← Int.mul_assoc, h, Int.mul_assoc]
  rw [e, Int.mul_add, Int.mul_one, Int.mul_left_comm] at h4
  refine p_small (s := t * 1523789695 - d * 709572) h1 h2 ?_
  rw [Int.mul_sub, ← h4]
  generalize 2147483647 * (d * 709572) = z
  omega
theorem sub_same (x y w : Int) : (x + w + 13) - (y + w + 13) = x - y := by omega
theorem hstep_inj {a b v : Int} (ha : 0 ≤ a ∧ a < 2147483647) (hb : 0 ≤ b ∧ b < 2147483647) (h : M.hstep a v = M.hstep b v) : a = b := by
  unfold M.hstep at h
  have h1 := Int.emod_eq_emod_iff_emod_sub_eq_zero.1 h
  rw [sub_same, ← Int.sub_mul] at h1
  obtain ⟨t, ht⟩ := Int.dvd_of_emod_eq_zero h1
  clear h h1
  have := k_free (by omega) (by omega) ht
  clear ht
  omega
theorem hstep_val {a v w : Int} (hv : 0 ≤ v ∧ v < 2147483647) (hw : 0 ≤ w ∧ w < 2147483647) (h : M.hstep a v = M.hstep a w) : v = w := by
  unfold M.hstep at h
  rw [Int.emod_eq_of_lt hv.1 hv.2, Int.emod_eq_of_lt hw.1 hw.2] at h
  have h1 := Int.emod_eq_emod_iff_emod_sub_eq_zero.1 h
  obtain ⟨t, ht⟩ := Int.dvd_of_emod_eq_zero h1
  have h3 : v - w = 2147483647 * t := by rw [← ht]; generalize a * 1000003 = x; omega
  have := p_small (by omega) (by omega) h3
  omega
theorem hash_fold {l : List Int} : ∀ {a b : Int}, 0 ≤ a ∧ a < 2147483647 → 0 ≤ b ∧ b < 2147483647 → l.foldl M.hstep a = l.foldl M.hstep b → a = b := by
  induction l with
  | nil => intro a b _ _ h; exact h
  | cons x l ih => intro a b ha hb h; exact hstep_inj ha hb (ih (hstep_bounds _ _) (hstep_bounds _ _) h)
theorem hash_mid {pre post : List Int} {v w : Int} (hv : 0 ≤ v ∧ v < 2147483647) (hw : 0 ≤ w ∧ w < 2147483647) (h : M.hash (pre ++ v :: post) = M.hash (pre ++ w :: post)) : v = w := by
  unfold M.hash at h
  rw [List.foldl_append, List.foldl_append, List.foldl_cons, List.foldl_cons] at h
  exact hstep_val hv hw (hash_fold (hstep_bounds _ _) (hstep_bounds _ _) h)
/-! evx -/
/-- From some number of rounds on the printed function answers, and its answer meets P. -/
def EvX {α : Type} (g : Nat → Option α) (P : α → Prop) : Prop := ∃ r, Ev g r ∧ P r
theorem EvX.of {α : Type} {g : Nat → Option α} {P : α → Prop} {r : α} (h : Ev g r) (p : P r) : EvX g P := ⟨r, h, p⟩
theorem EvX.now {α : Type} {P : α → Prop} {r : α} (p : P r) : EvX (fun _ => some r) P := ⟨r, Ev.now r, p⟩
theorem EvX.bind {α β : Type} {f : Nat → Option α} {g : Nat → α → Option β} {P : α → Prop} {Q : β → Prop} (h : EvX f P) (k : ∀ a, P a → EvX (fun n => g n a) Q) : EvX (fun n => (f n).bind (g n)) Q := by
  obtain ⟨a, ha, hp⟩ := h
  obtain ⟨b, hb, hq⟩ := k a hp
  exact ⟨b, Ev.bind ha hb, hq⟩
theorem EvX.bindv {α β : Type} {f : Nat → Option α} {g : Nat → α → Option β} {a : α} {Q : β → Prop} (h : Ev f a) (k : EvX (fun n => g n a) Q) : EvX (fun n => (f n).bind (g n)) Q := by
  obtain ⟨b, hb, hq⟩ := k
  exact ⟨b, Ev.bind h hb, hq⟩
theorem EvX.bindc {α β : Type} {o : Option α} {g : Nat → α → Option β} {P : α → Prop} {Q : β → Prop} (h : ∃ a, o = some a ∧ P a) (k : ∀ a, P a → EvX (fun n => g n a) Q) : EvX (fun n => o.bind (g n)) Q := by
  obtain ⟨a, rfl, hp⟩ := h
  exact k a hp
theorem EvX.yes {α : Type} {c : Prop} [Decidable c] {g f : Nat → Option α} {P : α → Prop} (h : c) (k : EvX g P) : EvX (fun n => if c then g n else f n) P := by simpa [h] using k
theorem EvX.no {α : Type} {c : Prop} [Decidable c] {g f : Nat → Option α} {P : α → Prop} (h : ¬ c) (k : EvX f P) : EvX (fun n => if c then g n else f n) P := by simpa [h] using k
theorem EvX.ite {α : Type} {c : Prop} [Decidable c] {g f : Nat → Option α} {P : α → Prop} (h : c → EvX g P) (k : ¬ c → EvX f P) : EvX (fun n => if c then g n else f n) P := by
  by_cases hc : c
  · exact EvX.yes hc (h hc)
  · exact EvX.no hc (k hc)
theorem EvX.round {α : Type} {g : Nat → Option α} {P : α → Prop} (h : EvX (fun k => g (k + 1)) P) : EvX g P := by
  obtain ⟨r, hr, hp⟩ := h
  exact ⟨r, Ev.round hr, hp⟩
theorem EvX.mono {α : Type} {g : Nat → Option α} {P Q : α → Prop} (h : EvX g P) (k : ∀ a, P a → Q a) : EvX g Q := by
  obtain ⟨r, hr, hp⟩ := h
  exact ⟨r, hr, k r hp⟩
theorem EvX.loop {σ β : Type} (g : Nat → Nat → σ → Option β) (n : Nat) (P : β → Prop) (Inv : Nat → σ → Prop)
    (done : ∀ s, Inv n s → EvX (fun k => g k n s) P)
    (step : ∀ i s, i < n → Inv i s → (∀ s', Inv (i + 1) s' → EvX (fun k => g k (i + 1) s') P) → EvX (fun k => g k i s) P) :
    ∀ i s, i ≤ n → Inv i s → EvX (fun k => g k i s) P := by
  have : ∀ d i s, i + d = n → Inv i s → EvX (fun k => g k i s) P := by
    intro d
    induction d with
    | zero =>
      intro i s hi hs
      obtain rfl : i = n := by omega
      exact done s hs
    | succ d ih => intro i s hi hs; exact step i s (by omega) hs (fun s' hs' => ih (i + 1) s' (by omega) hs')
  intro i s hi hs
  exact this (n - i) i s (by omega) hs
/-- What the law goes on with, whatever was drawn. -/
theorem Ev.drawn {α β : Type} {f : Nat → Option α} {g : Nat → α → Option β} {P : α → Prop} {r : β} (h : EvX f P) (k : ∀ a, P a → Ev (fun n => g n a) r) : Ev (fun n => (f n).bind (g n)) r := by
  obtain ⟨a, ha, hp⟩ := h
  exact Ev.bind ha (k a hp)
/-! enc -/
/-- A code hidden under a key, from the place i on. -/
def M.enc (key : Int) : Nat → List Int → List Int
  | _, [] => []
  | i, v :: l => (v + M.keyed key [(i : Int)]) % 256 :: M.enc key (i + 1) l
theorem enc_len (key : Int) : ∀ (i : Nat) (l : List Int), (M.enc key i l).length = l.length
  | _, [] => rfl
  | i, v :: l => by simp [M.enc, enc_len key (i + 1) l]
theorem enc_byt (key : Int) : ∀ (i : Nat) (l : List Int), M.byt (M.enc key i l)
  | _, [] => fun v hv => by simp [M.enc] at hv
  | i, v :: l => fun w hw => by
    rcases List.mem_cons.1 hw with rfl | hw
    · omega
    · exact enc_byt key (i + 1) l w hw
theorem enc_s {v h : Int} (hv : 0 ≤ v ∧ v ≤ 255) (hh : 0 ≤ h ∧ h < 2147483647) : Int.tmod (wrap64 ((wrap64 v) + (Int.tmod h 256))) 256 % 256 = (v + h) % 256 := by
  rw [wrap_in (n := v) (by omega) (by omega), tmod_pos h 256 hh.1, wrap_in (by omega) (by omega), tmod_pos _ _ (by omega)]; omega
theorem enc_i {v h : Int} (hv : 0 ≤ v ∧ v ≤ 255) (hh : 0 ≤ h ∧ h < 2147483647) : Int.tmod (wrap64 ((wrap64 v) + h)) 256 % 256 = (v + h) % 256 := by
  rw [wrap_in (n := v) (by omega) (by omega), wrap_in (by omega) (by omega), tmod_pos _ _ (by omega)]; omega
/-! dec -/
/-- A code taken out from under a key, from the place i on. -/
def M.dec (key : Int) : Nat → List Int → List Int
  | _, [] => []
  | i, v :: l => (v - M.keyed key [(i : Int)]) % 256 :: M.dec key (i + 1) l
theorem dec_len (key : Int) : ∀ (i : Nat) (l : List Int), (M.dec key i l).length = l.length
  | _, [] => rfl
  | i, v :: l => by simp [M.dec, dec_len key (i + 1) l]
theorem dec_byt (key : Int) : ∀ (i : Nat) (l : List Int), M.byt (M.dec key i l)
  | _, [] => fun v hv => by simp [M.dec] at hv
  | i, v :: l => fun w hw => by
    rcases List.mem_cons.1 hw with rfl | hw
    · omega
    · exact dec_byt key (i + 1) l w hw
theorem dec_enc (key : Int) : ∀ (i : Nat) (l : List Int), M.byt l → M.dec key i (M.enc key i l) = l
  | _, [], _ => rfl
  | i, v :: l, h => by
    have hv := h v List.mem_cons_self
    simp only [M.enc, M.dec, dec_enc key (i + 1) l (fun w hw => h w (List.mem_cons_of_mem _ hw)), List.cons.injEq, and_true]
    omega
theorem dec_s {v h : Int} (hv : 0 ≤ v ∧ v ≤ 255) (hh : 0 ≤ h ∧ h < 2147483647) : M.mod (wrap64 ((wrap64 v) - (Int.tmod h 256))) 256 % 256 = (v - h) % 256 := by
  rw [wrap_in (n := v) (by omega) (by omega), tmod_pos h 256 hh.1, wrap_in (by omega) (by omega)]; unfold M.mod; rw [if_pos (by decide)]; omega
theorem dec_i {v h : Int} (hv : 0 ≤ v ∧ v ≤ 255) (hh : 0 ≤ h ∧ h < 2147483647) : M.mod (wrap64 ((wrap64 v) - h)) 256 % 256 = (v - h) % 256 := by
  rw [wrap_in (n := v) (by omega) (by omega), wrap_in (by omega) (by omega)]; unfold M.mod; rw [if_pos (by decide)]; omega
/-! bytesints -/
def M.bytesInts (l : List Int) : List Int := (l.length : Int) :: l.map wrap64
/-! bundlemac -/
def M.bundleMAC (key e v : Int) (l : List Int) : Int := M.keyed key ([227, e, v] ++ M.bytesInts l)
theorem bytesInts_len (l : List Int) : (M.bytesInts l).length = l.length + 1 := by simp [M.bytesInts]
/-! derive -/
def M.orOne (a : Int) : Int := if a = 0 then 1 else a
def M.derive (a : Int) (l : List Int) : Int := M.orOne (M.keyed a ([151] ++ l))
theorem orOne_max (a : Int) (h : 0 ≤ a) : (if a > 1 then a else 1) = M.orOne a := by unfold M.orOne; split <;> split <;> omega
theorem orOne_bounds (a : Int) (h : 0 ≤ a ∧ a < 2147483647) : 1 ≤ M.orOne a ∧ M.orOne a < 2147483647 := by unfold M.orOne; split <;> omega
theorem derive_bounds (a : Int) (l : List Int) : 1 ≤ M.derive a l ∧ M.derive a l < 2147483647 := orOne_bounds _ (keyed_bounds _ _)
/-! validkey -/
def M.validKey (a : Int) : Bool := M.inr a 1 2147483646
def M.pub (a : Int) : Int := if M.validKey a = true then a * 48271 % 2147483647 else 0
def M.inv : Int := 1899818559
def M.priv (a : Int) : Int := if M.validKey a = true then a * M.inv % 2147483647 else 0
theorem priv_valid {a : Int} (h : M.validKey a = true) : M.validKey (M.priv a) = true ∧ M.pub (M.priv a) = a := by
  have h' := inr_true.1 h
  have e : M.priv a = a * 1899818559 % 2147483647 := by unfold M.priv M.inv; rw [if_pos h]
  have h2 : (a * 1899818559 % 2147483647) * 48271 % 2147483647 = a := by omega
  have h3 : M.validKey (M.priv a) = true := by rw [e]; exact inr_true.2 (by omega)
  refine ⟨h3, ?_⟩
  unfold M.pub; rw [if_pos h3, e]; exact h2
theorem pub_valid {a : Int} (h : M.validKey a = true) : M.validKey (M.pub a) = true ∧ M.priv (M.pub a) = a := by
  have h' := inr_true.1 h
  have e : M.pub a = a * 48271 % 2147483647 := by unfold M.pub; rw [if_pos h]
  have h2 : (a * 48271 % 2147483647) * 1899818559 % 2147483647 = a := by omega
  have h3 : M.validKey (M.pub a) = true := by rw [e]; exact inr_true.2 (by omega)
  refine ⟨h3, ?_⟩
  unfold M.priv M.inv; rw [if_pos h3, e]; exact h2
theorem priv_ne {a : Int} : M.priv a = 0 ↔ M.validKey a = false := by
  cases h : M.validKey a with
  | true =>
    have := inr_true.1 (priv_valid h).1
    constructor
    · intro h0; omega
    · intro h0; cases h0
  | false => simp [M.priv, h]
/-! seal -/
def M.sealOk (key e v : Int) : Bool := M.validKey key && (M.inr e 0 1000000 && M.inr v 0 1000000)
def M.sealKey (key e v : Int) : Int := M.derive key [223, e, v]
def M.seal (key e v : Int) (l : List S94) : Int × Int × List Int × Int × Bool :=
  if M.sealOk key e v = true ∧ M.isBundle l = true then (e, v, M.enc (M.sealKey key e v) 0 (M.encB l), M.bundleMAC key e v (M.enc (M.sealKey key e v) 0 (M.encB l)), true) else (0, 0, [], 0, false)
theorem encB_byt (l : List S94) : M.byt (M.encB l) := by
  unfold M.encB
  by_cases h : M.isBundle l = true
  · rw [if_pos h]; exact encInts_byt _
  · rw [if_neg h]; intro v hv; cases hv
theorem seal_len (key e v : Int) (l : List S94) : (M.seal key e v l).2.2.1.length ≤ 1048576 := by
  have := encB_len l
  unfold M.seal; split
  · simp only [enc_len]; omega
  · simp
/-! open -/
def M.open (key e v : Int) (d : List Int) (m : Int) : List S94 × Bool :=
  if M.sealOk key e v = true ∧ m = M.bundleMAC key e v d then M.decB (M.dec (M.sealKey key e v) 0 d) else ([], false)
theorem open_len (key e v : Int) (d : List Int) (m : Int) : (M.open key e v d m).1.length ≤ 1048576 := by
  unfold M.open; split
  · exact decB_len _
  · simp
/-! equalsealed -/
def M.equalSealed (e v : Int) (l : List Int) (m : Int) (e' v' : Int) (l' : List Int) (m' : Int) : Bool := decide (e = e') && (decide (v = v') && (decide (m = m') && M.eqb l l'))
/-! sealsmall -/
theorem seal_small (key e v : Int) (l : List S94) : (M.seal key e v l).2.2.1.length ≤ 486 ∧ M.byt (M.seal key e v l).2.2.1 := by
  have := encB_len l
  unfold M.seal; split
  · simp only [enc_len]; exact ⟨this, enc_byt _ _ _⟩
  · exact ⟨by simp, fun v hv => by cases hv⟩
/-! impl_ReadUvarint -/
theorem mod_le127' (c : Nat) : c % 128 ≤ 127 := by omega
theorem wrap_add2 {v T : Nat} (h : v + T ≤ 9000000000000000000) : wrap64 ((v : Int) + (T : Int)) = ((v + T : Nat) : Int) := by
  rw [wrap_in (by omega) (by omega)]; rfl
theorem wrap_nat {T : Nat} (h : T ≤ 9000000000000000000) : wrap64 (T : Int) = (T : Int) := wrap_in (by omega) (by omega)
theorem wrap_m128 {m : Nat} (hp : m ≤ 34359738368) : wrap64 ((m : Int) * 128) = ((m * 128 : Nat) : Int) := by
  rw [wrap_in (by omega) (by omega)]; rfl
theorem impl_ReadUvarint.ev (x : List Int) (a : Nat) (hx : x.length ≤ 1048576) (hb : M.byt x) (ha : a ≤ x.length) : Ev (fun k => impl_ReadUvarint.f k x (a : Int)) (M.trip x (M.parse (x.drop a))) := by
  unfold impl_ReadUvarint.f
  have go : ∀ (f i v m : Nat), i + f = 6 → m = 128 ^ i → v < m → Ev (fun k => impl_ReadUvarint.l0 k x (a : Int) (v : Int) (m : Int) (i : Int)) (M.trip x (M.uvd f i v (x.drop (a + i)))) := by
    intro f
    induction f with
    | zero =>
      intro i v m hi hm hv
      refine Ev.round ?_
      simp only [impl_ReadUvarint.l0]
      clear hm
      exact Ev.no (by omega) (Ev.eq rfl)
    | succ f ih =>
      intro i v m hi hm hv
      have ihm := fun v' => ih (i + 1) v' (m * 128) (by clear hm; omega) (by rw [hm, Nat.pow_succ])
      have hp : m ≤ 34359738368 := by rw [hm]; exact pow_small (by clear hm ihm; omega)
      refine Ev.round ?_
      simp only [impl_ReadUvarint.l0]
      have e1 : wrap64 ((a : Int) + i) = ((a + i : Nat) : Int) := by clear hm ihm; rw [wrap_in (by omega) (by omega)]; omega
      simp only [e1]
      refine Ev.yes (by clear hm ihm; omega) (Ev.ite (fun h1 => ?_) (fun h1 => ?_))
      · clear hm ihm; rw [List.drop_eq_nil_of_le (by omega), uvd_end]; exact Ev.eq rfl
      have hai : a + i < x.length := by clear hm ihm; omega
      have hc := byt_get hb hai
      rw [drop_get hai, uvd_cons, ← hm]
      clear hm
      obtain ⟨T, hT⟩ : ∃ T, T = x[a + i].toNat % 128 * m := ⟨_, rfl⟩
      have hTm : T ≤ 127 * m := by rw [hT]; exact Nat.mul_le_mul_right _ (mod_le127' _)
      have e9 := wrap_m128 hp
      have hvT : v + T ≤ 9000000000000000000 := by clear ihm hT; omega
      have hTT : T ≤ 9000000000000000000 := by clear ihm hT; omega
      have e6 : Int.tmod x[a + i] 128 * (m : Int) = (T : Int) := by
        rw [tmod_pos _ _ hc.1, show x[a + i] % 128 = ((x[a + i].toNat % 128 : Nat) : Int) by clear hT ihm; omega, ← Int.natCast_mul, ← hT]
      rw [← hT]
      clear hT
      have ihv := ihm (v + T) (by omega)
      clear ihm hTm hv hp ih
      have e2 : wrap64 (((a + i : Nat) : Int) + 1) = ((a + i + 1 : Nat) : Int) := by rw [wrap_in (by omega) (by omega)]; omega
      have e3 : wrap64 x[a + i] = x[a + i] := wrap_in (by omega) (by omega)
      have e4 : wrap64 ((i : Int) + 1) = ((i + 1 : Nat) : Int) := by rw [wrap_in (by omega) (by omega)]; omega
      have e7 := wrap_nat hTT
      have e8 := wrap_add2 hvT
      simp only [rd_get hai, e3, e6, e7, e8, e9, e2, e4]
      clear e1 e2 e3 e4 e6 e7 e8 e9
      have hlen : ((a + i + 1 : Nat) : Int) = ((x.length - (x.drop (a + i + 1)).length : Nat) : Int) := by rw [List.length_drop]; omega
      refine Ev.yes (by omega) (Ev.yes (by omega) (Ev.ite (fun h2 => ?_) (fun h2 => ?_)))
      · rw [if_pos h2]
        refine Ev.ite (fun h3 => Ev.ite (fun h4 => ?_) (fun h4 => ?_)) (fun h3 => ?_)
        · rw [if_pos (show x[a + i] = 0 ∧ 0 < i from ⟨h4, by omega⟩)]; exact Ev.eq rfl
        · rw [if_neg (show ¬ (x[a + i] = 0 ∧ 0 < i) from fun hh => h4 hh.1)]
          refine Ev.ite (fun h5 => ?_) (fun h5 => ?_)
          · rw [if_pos (by omega)]; exact Ev.eq rfl
          · rw [if_neg (by omega)]; exact Ev.eq (by simp only [M.trip]; rw [← hlen])
        · rw [if_neg (show ¬ (x[a + i] = 0 ∧ 0 < i) from fun hh => h3 (by omega))]
          refine Ev.ite (fun h5 => ?_) (fun h5 => ?_)
          · rw [if_pos (by omega)]; exact Ev.eq rfl
          · rw [if_neg (by omega)]; exact Ev.eq (by simp only [M.trip]; rw [← hlen])
      · rw [if_neg h2]
        exact ihv
  refine Ev.no (by omega) ?_
  refine Ev.round ?_
  simp only [impl_ReadUvarint.j0]
  by_cases h1 : (a : Int) ≥ (x.length : Int)
  · rw [decide_eq_true h1, List.drop_eq_nil_of_le (by omega)]
    exact Ev.yes (by trivial) (Ev.eq rfl)
  · rw [decide_eq_false h1]
    refine Ev.no (by simp) (Ev.conv (go 6 0 0 1 rfl rfl (by decide)) ?_)
    rw [Nat.add_zero]; rfl
/-! decloop -/
/-- The place behind what was read, and what lies there. -/
theorem parse_at {x : List Int} {a : Nat} (ha : a ≤ x.length) {n : Nat} {r : List Int} (h : M.parse (x.drop a) = some (n, r)) : x.length - r.length ≤ x.length ∧ x.drop (x.length - r.length) = r := by
  have h1 := uvd_suffix _ _ _ _ _ _ h
  have h2 := uvd_len _ _ _ _ _ _ h
  rw [List.length_drop] at h1 h2
  refine ⟨by omega, ?_⟩
  rw [List.drop_drop, show a + (x.length - a - r.length) = x.length - r.length by omega] at h1
  exact h1.symm
/-! impl_DecodeInts -/
theorem impl_DecodeInts.ev (x : List Int) (a c : Nat) (hx : x.length ≤ 1048576) (hb : M.byt x) (ha : a ≤ x.length) (hc : c ≤ 100) : Ev (fun k => impl_DecodeInts.f k x (a : Int) (c : Int)) (M.dtrip x [] (M.decI c (x.drop a))) := by
  unfold impl_DecodeInts.f
  refine Ev.no (by omega) (Ev.no (by omega) (Ev.no (by omega) ?_))
  rw [decide_eq_false (by omega)]
  refine Ev.round ?_
  simp only [impl_DecodeInts.j0]
  refine Ev.no (by simp) ?_
  have go : ∀ (d i p : Nat) (o : List Int), i + d = c → p ≤ x.length → o.length = i → Ev (fun k => impl_DecodeInts.l0 k x (p : Int) (c : Int) o (i : Int)) (M.dtrip x o (M.decI d (x.drop p))) := by
    intro d
    induction d with
    | zero =>
      intro i p o hi hp ho
      refine Ev.round ?_
      simp only [impl_DecodeInts.l0]
      refine Ev.no (by omega) (Ev.eq ?_)
      simp only [M.decI, M.dtrip, List.append_nil, List.length_drop]
      rw [show x.length - (x.length - p) = p by omega]
    | succ d ih =>
      intro i p o hi hp ho
      refine Ev.round ?_
      simp only [impl_DecodeInts.l0, wrap_in (n := (i : Int) + 1) (by omega) (by omega)]
      refine Ev.yes (by omega) (Ev.bind (impl_ReadUvarint.ev x p hx hb hp) ?_)
      rw [M.decI]
      cases hq : M.parse (x.drop p) with
      | none => exact Ev.no (by simp [M.trip]) (Ev.eq rfl)
      | some y =>
        obtain ⟨n, r⟩ := y
        have hr := parse_at hp hq
        refine Ev.yes rfl (Ev.yes (by omega) ?_)
        have hh := ih (i + 1) (x.length - r.length) (o ++ [(n : Int)]) (by omega) hr.1 (by simp [ho])
        rw [hr.2] at hh
        refine Ev.conv hh ?_
        cases hd : M.decI d r with
        | none => simp [M.dtrip, hd]
        | some z => simp [M.dtrip, hd]
  exact go c 0 a [] (by omega) ha rfl
/-! impl_entryBefore -/
theorem impl_entryBefore.eq (a b : S94) : impl_entryBefore.f a.f0 a.f1 a.f2 a.f3 b.f0 b.f1 b.f2 b.f3 = some (M.lessE a b) := by
  unfold impl_entryBefore.f M.lessE
  by_cases h1 : a.f0 < b.f0 <;> by_cases h2 : a.f0 = b.f0 <;> simp [h1, h2]
/-! impl_InRange -/
theorem impl_InRange.eq (a b c : Int) : impl_InRange.f a b c = some (M.inr a b c) := by
  unfold impl_InRange.f M.inr
  by_cases h : b ≤ a
  · rw [if_pos h]; simp [h]
  · rw [if_neg h]
    simp [h]
/-! impl_IsBundle -/
theorem impl_IsBundle.ev (l : List S94) (hl : l.length ≤ 1048576) : Ev (fun k => impl_IsBundle.f k l) (M.isBundle l) := by
  unfold impl_IsBundle.f
  refine Ev.ite (fun h => Ev.eq (by have : ¬ l.length ≤ 20 := by omega
                                    simp [M.isBundle, this])) (fun hh => ?_)
  have hh2 : l.length ≤ 20 := by omega
  refine Ev.conv (Ev.loop (fun k i (_ : Unit) => impl_IsBundle.l0 k l l.length (i : Int) l) l.length (fun i _ => M.rises (M.before l i) (l.drop i)) (fun _ _ => True) ?_ ?_ 0 () (by omega) trivial) (by simp [M.isBundle, M.before, hh2])
  · rintro s _
    refine Ev.round ?_
    simp only [impl_IsBundle.l0]
    refine Ev.no (by omega) (Ev.eq ?_)
    rw [drop_end]; cases M.before l l.length <;> simp [M.rises]
  · rintro i s hi _ ih
    refine Ev.round ?_
    simp only [impl_IsBundle.l0, wrap_succ hi (by omega : l.length ≤ _), rd_Entry hi, impl_InRange.eq, bind_some_]
    rw [rises_at l i hi]
    refine Ev.yes (by omega) (Ev.yes (by omega) (Ev.yes (by omega) (Ev.ite (fun h1 => Ev.ite (fun h2 => Ev.ite (fun h3 => ?_) (fun h3 => ?_)) (fun h2 => ?_)) (fun h1 => ?_))))
    · have ho : M.okE l[i] = true := by simp [M.okE, h1, h2, h3]
      refine Ev.ite (fun h0 => ?_) (fun h0 => ?_)
      · have hp : wrap64 ((i : Int) - 1) = ((i - 1 : Nat) : Int) := wrap_pred (by omega) (by omega)
        simp only [hp, rd_Entry (by omega : i - 1 < l.length), impl_entryBefore.eq, bind_some_]
        refine Ev.yes (by omega) (Ev.yes (by omega) (Ev.ite (fun h4 => ?_) (fun h4 => ?_)))
        · refine Ev.conv (ih () trivial) (by simp [ho, h4])
        · refine Ev.eq (by simp [ho, h4]; omega)
      · refine Ev.conv (ih () trivial) (by obtain rfl : i = 0 := (by omega); simp [ho])
    · exact Ev.eq (by simp [M.okE, h3])
    · exact Ev.eq (by simp [M.okE, h2])
    · exact Ev.eq (by simp [M.okE, h1])
/-! impl_DecodeBundle -/
theorem impl_DecodeBundle.ev (x : List Int) (hx : x.length ≤ 1048576) (hb : M.byt x) : Ev (fun k => impl_DecodeBundle.f k x) (M.decB x) := by
  unfold impl_DecodeBundle.f M.decB
  have h0 := impl_ReadUvarint.ev x 0 hx hb (by omega)
  rw [List.drop_zero] at h0
  refine Ev.bind h0 ?_
  cases hp : M.parse x with
  | none =>
    refine Ev.no (by simp [M.trip]) ?_
    refine Ev.round ?_
    simp only [impl_DecodeBundle.j0]
    exact Ev.yes (by trivial) (Ev.eq rfl)
  | some y =>
    obtain ⟨n, r⟩ := y
    have hr := parse_at (x := x) (a := 0) (by omega) (by rw [List.drop_zero]; exact hp)
    have hn' : (M.trip x (some (n, r))).1 = (n : Int) := rfl
    refine Ev.yes rfl ?_
    refine Ev.round ?_
    simp only [impl_DecodeBundle.j0]
    by_cases hn : n > 20
    · rw [if_pos hn]
      exact Ev.yes (decide_eq_true (by rw [hn']; omega)) (Ev.eq rfl)
    rw [if_neg hn, decEnts_eq]
    have h4 : wrap64 (4 * (n : Int)) = ((4 * n : Nat) : Int) := by rw [wrap_in (by omega) (by omega)]; omega
    have hd0 := impl_DecodeInts.ev x (x.length - r.length) (4 * n) hx hb hr.1 (by omega)
    rw [hr.2] at hd0
    refine Ev.no (fun h => absurd (of_decide_eq_true h) (by rw [hn']; omega)) ?_
    simp only [M.trip, h4]
    refine Ev.bind hd0 ?_
    cases hd : M.decI (4 * n) r with
    | none =>
      simp only [M.dtrip]
      refine Ev.no (by simp) ?_
      refine Ev.round ?_
      simp only [impl_DecodeBundle.j1]
      exact Ev.yes (by trivial) (Ev.eq rfl)
    | some z =>
      obtain ⟨l, t⟩ := z
      have hl := decI_len _ _ _ _ hd
      simp only [M.dtrip, List.nil_append]
      refine Ev.yes (by trivial) ?_
      have hrl : r.length ≤ x.length := by have := ((parse_iff hb n r).1 hp).2; rw [this]; simp
      have htl : t.length ≤ r.length := by have := ((decI_iff _ (parse_rest hb hp) l t).1 hd).2.2; rw [this]; simp
      refine Ev.round ?_
      simp only [impl_DecodeBundle.j1]
      have hkey := fun hi => decB_eq hb hp hn hd hi
      by_cases ht : t = []
      · subst ht
        refine Ev.no (by simp) ?_
        have go : ∀ (d i : Nat) (o : List S94), i + d = n → o.length = i → Ev (fun k => impl_DecodeBundle.l0 k (n : Int) l (i : Int) o) (if M.flags d (l.drop (4 * i)) = true ∧ M.isBundle (o ++ M.ents d (l.drop (4 * i))) = true then (o ++ M.ents d (l.drop (4 * i)), true) else ([], false)) := by
          intro d
          induction d with
          | zero =>
            intro i o hi ho
            refine Ev.round ?_
            simp only [impl_DecodeBundle.l0, M.ents, M.flags, List.append_nil, true_and]
            exact Ev.no (by omega) (Ev.bind (impl_IsBundle.ev o (by omega)) (Ev.ite (fun h => Ev.eq (by rw [if_pos h])) (fun h => Ev.eq (by rw [if_neg h]))))
          | succ d ih =>
            intro i o hi ho
            have h4i : wrap64 (4 * (i : Int)) = ((4 * i : Nat) : Int) := by rw [wrap_in (by omega) (by omega)]; omega
            have hdl : (l.drop (4 * i)).length = 4 * (n - i) := by rw [List.length_drop]; omega
            refine Ev.round ?_
            simp only [impl_DecodeBundle.l0, h4i, wrap_in (n := (i : Int) + 1) (by omega) (by omega), bind_some_, Int.toNat_natCast]
            rw [M.ents, M.flags, List.drop_drop, show 4 * i + 4 = 4 * (i + 1) by omega]
            refine Ev.yes (by omega) (Ev.yes (by omega) (Ev.yes (by omega) (Ev.yes (by omega) (Ev.ite (fun h => ?_) (fun h => Ev.yes (by omega) (Ev.yes (by omega) (Ev.yes (by omega) (Ev.yes (by omega) ?_))))))))
            · rw [if_neg (by simp [h])]; exact Ev.now _
            · have hh := ih (i + 1) (o ++ [M.toE (l.drop (4 * i))]) (by omega) (by simp [ho])
              refine Ev.conv hh ?_
              simp [h]
        have hh := go n 0 [] (by omega) rfl
        refine Ev.conv hh ?_
        simp only [Nat.mul_zero, List.drop_zero, List.nil_append]
        by_cases hi : M.isBundle (M.ents n l) = true
        · have := hkey hi
          by_cases hf : M.flags n l = true
          · rw [if_pos ⟨hf, hi⟩, if_pos ⟨hi, this.2 ⟨rfl, hf⟩⟩]
          · rw [if_neg (fun hh => hf hh.1), if_neg (fun hh => hf (this.1 hh.2).2)]
        · rw [if_neg (fun hh => hi hh.2), if_neg (fun hh => hi hh.1)]
      · have htp : 0 < t.length := List.length_pos_iff.2 ht
        refine Ev.yes (by simp only [bne_iff_ne, ne_eq]; omega) (Ev.eq ?_)
        rw [if_neg]
        rintro ⟨h1, h2⟩
        exact ht ((hkey h1).1 h2).1
/-! impl_copyBytes -/
theorem impl_copyBytes.eq (l : List Int) (hl : l.length ≤ 10000000000000) : impl_copyBytes.f l = some l := by
  unfold impl_copyBytes.f; simp only [bind_some_]; rw [if_pos (by simp; omega)]; rfl
/-! impl_AppendUvarint -/
theorem impl_AppendUvarint.loop (n : Nat) : ∀ (o : List Int), n ≤ 1000000000000 → o.length + n ≤ 100000000000000 → Ev (fun k => impl_AppendUvarint.l0 k (n : Int) o) (o ++ M.uvl n) := by
  induction n using Nat.strongRecOn with
  | _ n ih =>
  intro o hn ho
  refine Ev.round ?_
  simp only [impl_AppendUvarint.l0]
  refine Ev.ite (fun h => Ev.yes (by omega) ?_) (fun h => Ev.yes (by omega) (Ev.eq ?_))
  · rw [tmod_pos _ _ (by omega), wrap_in (n := (n : Int) % 128 + 128) (by omega) (by omega), Int.tdiv_eq_ediv_of_nonneg (by omega), wrap_in (n := (n : Int) / 128) (by omega) (by omega), uvl_ge (by omega), show ((n : Int) / 128) = ((n / 128 : Nat) : Int) by omega, show (((n : Int) % 128 + 128) % 256) = ((n % 128 + 128 : Nat) : Int) by omega]
    refine Ev.conv (ih (n / 128) (by omega) _ (by omega) (by simp; omega)) (by simp)
  · rw [uvl_lt (by omega), show (n : Int) % 256 = n by omega]
theorem impl_AppendUvarint.ev (l : List Int) (n : Int) (hl : l.length ≤ 10000000000000) : Ev (fun k => impl_AppendUvarint.f k l n) (l ++ M.uv n) := by
  unfold impl_AppendUvarint.f
  have no : ¬ (0 ≤ n ∧ n ≤ 1000000000000) → Ev (fun k => impl_AppendUvarint.j0 k n l true) (l ++ M.uv n) := by
    intro h
    refine Ev.round ?_
    simp only [impl_AppendUvarint.j0]
    exact Ev.yes (by trivial) (Ev.eq (by unfold M.uv; rw [if_neg h]; simp))
  refine Ev.bindc (impl_copyBytes.eq l hl) (Ev.ite (fun h => no (by omega)) (fun h => ?_))
  by_cases h2 : n > 1000000000000
  · rw [decide_eq_true h2]; exact no (by omega)
  · rw [decide_eq_false h2]
    obtain ⟨m, rfl⟩ := Int.eq_ofNat_of_zero_le (by omega : 0 ≤ n)
    refine Ev.round ?_
    simp only [impl_AppendUvarint.j0]
    refine Ev.no (by simp) (Ev.conv (impl_AppendUvarint.loop m _ (by omega) (by omega)) ?_)
    unfold M.uv; rw [if_pos (by omega)]; rfl
/-! impl_EncodeInts -/
theorem impl_EncodeInts.ev (l : List Int) (hl : l.length ≤ 1000000000) : Ev (fun k => impl_EncodeInts.f k l) (M.encInts l) := by
  unfold impl_EncodeInts.f
  refine Ev.conv (Ev.loop (fun k i o => impl_EncodeInts.l0 k o l l.length (i : Int)) l.length (fun i o => o ++ M.encInts (l.drop i)) (fun i o => o.length ≤ 6 * i) ?_ ?_ 0 [] (by omega) (by simp)) (by simp)
  · intro o ho
    refine Ev.round ?_
    simp only [impl_EncodeInts.l0]
    exact Ev.no (by omega) (Ev.eq (by rw [drop_end]; simp [M.encInts]))
  · intro i o hi ho ih
    have := uv_len l[i]
    refine Ev.round ?_
    simp only [impl_EncodeInts.l0, rd_get hi, wrap_succ hi (by omega : l.length ≤ _)]
    rw [drop_get hi, encInts_cons, ← List.append_assoc]
    exact Ev.yes (by omega) (Ev.yes (by omega) (Ev.yes (by omega) (Ev.bind (impl_AppendUvarint.ev o _ (by omega)) (ih _ (by simp; omega)))))
/-! impl_bit -/
theorem impl_bit.eq (b : Bool) : impl_bit.f b = some (M.bit b) := by
  unfold impl_bit.f M.bit; split <;> rfl
/-! impl_EncodeBundle -/
theorem impl_EncodeBundle.ev (l : List S94) (hl : l.length ≤ 1048576) : Ev (fun k => impl_EncodeBundle.f k l) (M.encB l) := by
  unfold impl_EncodeBundle.f
  refine Ev.bind (impl_IsBundle.ev l hl) (Ev.ite (fun h => ?_) (fun h => Ev.eq (by unfold M.encB; rw [if_neg h])))
  have h20 := isBundle_len h
  unfold M.encB; rw [if_pos h]
  refine Ev.conv (Ev.loop (fun k i o => impl_EncodeBundle.l0 k o l l.length (i : Int)) l.length (fun i o => M.encInts (o ++ (l.drop i).flatMap M.entryInts)) (fun i o => o.length = 4 * i + 1) ?_ ?_ 0 [(l.length : Int)] (by omega) (by simp)) (by simp [M.bundleInts])
  · intro o ho
    refine Ev.round ?_
    simp only [impl_EncodeBundle.l0]
    refine Ev.no (by omega) (Ev.bind (impl_EncodeInts.ev o (by omega)) (Ev.eq (by rw [drop_end]; simp)))
  · intro i o hi ho ih
    refine Ev.round ?_
    simp only [impl_EncodeBundle.l0, rd_Entry hi, wrap_succ hi (by omega : l.length ≤ _), impl_bit.eq, bind_some_]
    rw [drop_get hi, List.flatMap_cons, ← List.append_assoc]
    refine Ev.yes (by omega) (Ev.yes (by omega) (Ev.yes (by omega) (Ev.yes (by simp; omega) ?_)))
    exact Ev.conv (ih _ (by simp; omega)) (by simp [M.entryInts])
/-! eqbundle -/
def M.eqE (a b : S94) : Bool := a.f0 == b.f0 && (a.f1 == b.f1 && (a.f2 == b.f2 && a.f3 == b.f3))
theorem eqE_iff (a b : S94) : M.eqE a b = true ↔ a = b := by
  cases a; cases b; simp [M.eqE]
theorem neE (a b : S94) : (!(a.f0 == b.f0) || (!(a.f1 == b.f1) || (!(a.f2 == b.f2) || (!(a.f3 == b.f3))))) = !M.eqE a b := by
  unfold M.eqE; cases a.f0 == b.f0 <;> cases a.f1 == b.f1 <;> cases a.f2 == b.f2 <;> rfl
def M.eqEs : List S94 → List S94 → Bool
  | [], [] => true
  | a :: l, b :: r => M.eqE a b && M.eqEs l r
  | _, _ => false
theorem eqEs_len : ∀ {l r : List S94}, l.length ≠ r.length → M.eqEs l r = false
  | [], [], h => by simp at h
  | [], _ :: _, _ => rfl
  | _ :: _, [], _ => rfl
  | a :: l, b :: r, h => by simp only [M.eqEs, eqEs_len (l := l) (r := r) (by simpa using h), Bool.and_false]
theorem eqEs_iff : ∀ (l r : List S94), M.eqEs l r = true ↔ l = r
  | [], [] => by simp [M.eqEs]
  | [], _ :: _ => by simp [M.eqEs]
  | _ :: _, [] => by simp [M.eqEs]
  | a :: l, b :: r => by simp [M.eqEs, eqEs_iff l r, eqE_iff]
/-! impl_EqualBundles -/
theorem impl_EqualBundles.ev (l r : List S94) (hl : l.length ≤ 1048576) (hr : r.length ≤ 1048576) : Ev (fun k => impl_EqualBundles.f k l r) (M.eqEs l r) := by
  unfold impl_EqualBundles.f
  refine Ev.ite (fun h => ?_) (fun h => Ev.eq (eqEs_len (by omega)).symm)
  have hlr : l.length = r.length := by omega
  refine Ev.loop (fun k i (_ : Unit) => impl_EqualBundles.l0 k l.length (i : Int) l r) l.length (fun i _ => M.eqEs (l.drop i) (r.drop i)) (fun _ _ => True) ?_ ?_ 0 () (by omega) trivial
  · rintro s _
    refine Ev.round ?_
    simp only [impl_EqualBundles.l0]
    exact Ev.no (by omega) (Ev.eq (by rw [drop_end, List.drop_eq_nil_of_le (by omega)]; rfl))
  · rintro i s hi _ ih
    have hi2 : i < r.length := by omega
    refine Ev.round ?_
    simp only [impl_EqualBundles.l0, wrap_succ hi (by omega : l.length ≤ _), rd_Entry hi, rd_Entry hi2, neE]
    rw [drop_get hi, drop_get hi2]
    refine Ev.yes (by omega) (Ev.yes (by omega) (Ev.yes (by omega) (Ev.yes (by omega) (Ev.ite (fun h => ?_) (fun h => ?_)))))
    · exact Ev.eq (by simp at h; simp [M.eqEs, h])
    · refine Ev.conv (ih () trivial) (by simp at h; simp [M.eqEs, h])
/-! impl_EqualBytes -/
theorem impl_EqualBytes.eq (a b : List Int) : impl_EqualBytes.f a b = some (M.eqb a b) := rfl
/-! impl_EqualSealed -/
theorem impl_EqualSealed.eq (e v : Int) (l : List Int) (m : Int) (e' v' : Int) (l' : List Int) (m' : Int) : impl_EqualSealed.f e v l m e' v' l' m' = some (M.equalSealed e v l m e' v' l' m') := by
  unfold impl_EqualSealed.f M.equalSealed
  simp only [impl_EqualBytes.eq, bind_some_]
  by_cases h1 : e = e' <;> by_cases h2 : v = v' <;> by_cases h3 : m = m' <;> cases M.eqb l l' <;> simp [h1, h2, h3]
/-! fresher -/
def M.fresher (e v e' v' : Int) : Bool := decide (e > e') || (decide (e = e') && decide (v > v'))
/-! impl_IsFresher -/
theorem impl_IsFresher.eq (e v : Int) (l : List Int) (m : Int) (e' v' : Int) (l' : List Int) (m' : Int) : impl_IsFresher.f e v l m e' v' l' m' = some (M.fresher e v e' v') := by
  unfold impl_IsFresher.f M.fresher
  by_cases h1 : e > e' <;> by_cases h2 : e = e' <;> by_cases h3 : v > v' <;> simp [h1, h2, h3]
/-! impl_IsValidKey -/
theorem impl_IsValidKey.eq (a : Int) : impl_IsValidKey.f a = some (M.validKey a) := by unfold impl_IsValidKey.f; rw [impl_InRange.eq]; rfl
/-! joined -/
def M.joined (l : List Int) (ls : List (List Int)) : List Int := l ++ ls.flatten
/-! impl_joined -/
theorem rdL_get {ls : List (List Int)} {i : Nat} (h : i < ls.length) : rd_L4 ls (i : Int) = ls[i] := by unfold rd_L4; exact getD_lt h _
theorem impl_joined.evl (ls : List (List Int)) (hn : ls.length ≤ 1000000) : ∀ (d i : Nat) (x : List Int), i + d = ls.length → x.length + ((ls.drop i).flatten).length < 17592186044416 →
    Ev (fun k => impl_joined.l0 k x ls ls.length i) (x ++ (ls.drop i).flatten) := by
  intro d
  induction d with
  | zero =>
    intro i x hi hx
    refine Ev.round ?_
    simp only [impl_joined.l0]
    exact Ev.no (by omega) (Ev.eq (by rw [List.drop_eq_nil_of_le (by omega)]; simp))
  | succ d ih =>
    intro i x hi hx
    rw [drop_get (by omega : i < ls.length)] at hx ⊢
    simp only [List.flatten_cons, List.length_append] at hx
    refine Ev.round ?_
    simp only [impl_joined.l0, rdL_get (by omega : i < ls.length), wrap_succ (by omega : i < ls.length) (by omega : ls.length ≤ _)]
    refine Ev.yes (by omega) (Ev.yes (by omega) (Ev.yes (by omega) (Ev.yes (by omega) ?_)))
    rw [List.flatten_cons, ← List.append_assoc]
    exact ih (i + 1) (x ++ ls[i]) (by omega) (by simp only [List.length_append]; omega)
theorem impl_joined.ev (l : List Int) (ls : List (List Int)) (hn : ls.length ≤ 1000000) (hl : l.length + (ls.flatten).length < 17592186044416) : Ev (fun k => impl_joined.f k l ls) (M.joined l ls) := by
  unfold impl_joined.f
  simp only [Option.bind_some]
  refine Ev.yes (by simp; omega) ?_
  have := impl_joined.evl ls hn ls.length 0 ([] ++ l) (by omega) (by simpa using hl)
  simpa [M.joined] using this
/-! impl_Mod -/
theorem impl_Mod.eq (k : Nat) (a m : Int) : impl_Mod.f (k + 1) a m = some (M.mod a m) := by
  unfold impl_Mod.f M.mod
  by_cases h : m < 1
  · rw [if_pos h, if_neg (by omega)]; simp only [impl_Mod.j0]; simp
  · rw [if_neg h]; simp only [impl_Mod.j0]
    by_cases h2 : m > 1000000000000
    · rw [if_pos (by simp [h2]), if_neg (by omega)]
    · have e := tmod_emod a m (by omega)
      have hb := tmod_bounds a m (by omega)
      rw [if_neg (by simp [h2]), if_neg (by omega), if_pos (⟨by omega, by omega⟩ : 1 ≤ m ∧ m ≤ 1000000000000)]
      by_cases hn : Int.tmod a m < 0
      · rw [if_pos hn, wrap_in (by omega) (by omega)]; rw [if_pos hn] at e; rw [e]; congr 1; omega
      · rw [if_neg hn] at e; rw [if_neg hn, e]
theorem impl_Mod.ev (a m : Int) : Ev (fun k => impl_Mod.f k a m) (M.mod a m) := Ev.step (f := fun _ => some (M.mod a m)) (impl_Mod.eq · a m) (Ev.now _)
/-! impl_Hash -/
theorem impl_Hash.ev (l : List Int) (hl : l.length ≤ 140737488355328) : Ev (fun k => impl_Hash.f k l) (M.hash l) := by
  refine Ev.loop (fun k i h => impl_Hash.l0 k h l l.length (i : Int)) l.length (fun i h => (l.drop i).foldl M.hstep h) (fun _ h => 0 ≤ h ∧ h < 2147483647) ?_ ?_ 0 11 (by omega) (by omega)
  · intro h _
    refine Ev.round ?_
    simp only [impl_Hash.l0]
    refine Ev.no (by omega) (Ev.eq (by rw [drop_end]; rfl))
  · intro i h hi hh ih
    refine Ev.round ?_
    simp only [impl_Hash.l0, wrap_succ hi (by omega : l.length ≤ _)]
    refine Ev.yes (by omega) (Ev.yes (by omega) (Ev.yes (by omega) (Ev.bind (impl_Mod.ev _ _) ?_)))
    rw [drop_get hi, rd_get hi, hstep_eq _ _ hh.1 hh.2]
    exact ih _ (hstep_bounds _ _)
/-! impl_KeyedHash -/
theorem impl_KeyedHash.ev (a : Int) (l : List Int) (hl : l.length ≤ 1000000000000) : Ev (fun k => impl_KeyedHash.f k a l) (M.keyed a l) := by
  unfold impl_KeyedHash.f
  refine Ev.bind (impl_joined.ev _ _ (by simp) (by simp; omega)) (Ev.bind (impl_Hash.ev _ (by simp [M.joined]; omega)) (Ev.eq ?_))
  simp [M.joined, M.keyed]
/-! impl_orOne -/
theorem impl_orOne.eq (a : Int) : impl_orOne.f a = some (M.orOne a) := by unfold impl_orOne.f M.orOne; split <;> rfl
/-! impl_DeriveKey -/
theorem impl_DeriveKey.ev (a : Int) (l : List Int) (hl : l.length ≤ 100000000000) : Ev (fun k => impl_DeriveKey.f k a l) (M.derive a l) := by
  unfold impl_DeriveKey.f
  refine Ev.bind (impl_joined.ev _ _ (by simp) (by simp; omega)) (Ev.bind (impl_KeyedHash.ev _ _ (by simp [M.joined]; omega)) ?_)
  simp only [impl_orOne.eq, Option.bind_some]
  exact Ev.eq (by simp [M.derive, M.joined])
/-! impl_BytesToInts -/
theorem impl_BytesToInts.ev (l : List Int) (hl : l.length ≤ 1048576) : Ev (fun k => impl_BytesToInts.f k l) (M.bytesInts l) := by
  unfold impl_BytesToInts.f
  refine Ev.conv (Ev.loop (fun k i x => impl_BytesToInts.l0 k x l l.length (i : Int)) l.length (fun i x => x ++ (l.drop i).map wrap64) (fun i x => x.length = i + 1) ?_ ?_ 0 [(l.length : Int)] (by omega) (by simp)) (by simp [M.bytesInts])
  · intro x hx
    refine Ev.round ?_
    simp only [impl_BytesToInts.l0]
    exact Ev.no (by omega) (Ev.eq (by rw [drop_end]; simp))
  · intro i x hi hx ih
    refine Ev.round ?_
    simp only [impl_BytesToInts.l0, rd_get hi, wrap_succ hi (by omega : l.length ≤ _)]
    refine Ev.yes (by omega) (Ev.yes (by omega) (Ev.yes (by omega) (Ev.yes (by omega) ?_)))
    refine Ev.conv (ih _ (by simp [hx])) (by rw [drop_get hi, List.map_cons, List.append_assoc]; rfl)
/-! impl_BundleMAC -/
theorem impl_BundleMAC.ev (key e v : Int) (l : List Int) (m : Int) (hl : l.length ≤ 1048576) : Ev (fun k => impl_BundleMAC.f k key e v l m) (M.bundleMAC key e v l) := by
  unfold impl_BundleMAC.f
  refine Ev.bind (impl_BytesToInts.ev l hl) (Ev.bind (impl_joined.ev _ _ (by simp) (by simp [bytesInts_len]; omega)) (Ev.bind (impl_KeyedHash.ev _ _ (by simp [M.joined, bytesInts_len]; omega)) (Ev.eq ?_)))
  simp [M.joined, M.bundleMAC]
/-! impl_Decrypt -/
theorem impl_Decrypt.ev (key : Int) (l : List Int) (hl : l.length ≤ 1048576) (hb : M.byt l) : Ev (fun k => impl_Decrypt.f k key l) (M.dec key 0 l) := by
  unfold impl_Decrypt.f
  refine Ev.conv (Ev.loop (fun k i o => impl_Decrypt.l0 k key o l l.length (i : Int)) l.length (fun i o => o ++ M.dec key i (l.drop i)) (fun i o => o.length = i) ?_ ?_ 0 [] (by omega) rfl) (by simp)
  · intro o ho
    refine Ev.round ?_
    simp only [impl_Decrypt.l0]
    exact Ev.no (by omega) (Ev.eq (by rw [drop_end]; simp [M.dec]))
  · intro i o hi ho ih
    refine Ev.round ?_
    simp only [impl_Decrypt.l0, rd_get hi, wrap_succ hi (by omega : l.length ≤ _)]
    rw [drop_get hi, M.dec]
    refine Ev.yes (by omega) (Ev.yes (by omega) (Ev.yes (by omega) (Ev.bind (impl_KeyedHash.ev key _ (by simp)) (Ev.bind (impl_Mod.ev _ _) (Ev.yes (by omega) ?_)))))
    rw [dec_i (byt_get hb hi) (keyed_bounds _ _)]
    exact Ev.conv (ih _ (by simp [ho])) (by simp)
/-! impl_OpenBundle -/
theorem impl_OpenBundle.ev (key e v : Int) (d : List Int) (m : Int) (hl : d.length ≤ 1048576) (hb : M.byt d) : Ev (fun k => impl_OpenBundle.f k key e v d m) (M.open key e v d m) := by
  unfold impl_OpenBundle.f
  have no : ¬ (M.sealOk key e v = true ∧ m = M.bundleMAC key e v d) → Ev (fun k => impl_OpenBundle.j0 k key true e v d m) (M.open key e v d m) := by
    intro h
    refine Ev.round ?_
    simp only [impl_OpenBundle.j0]
    exact Ev.yes (by trivial) (Ev.eq (by unfold M.open; rw [if_neg h]))
  simp only [impl_IsValidKey.eq, impl_InRange.eq, bind_some_]
  refine Ev.ite (fun h1 => Ev.ite (fun h2 => Ev.ite (fun h3 => Ev.bind (impl_BundleMAC.ev _ _ _ _ _ hl) ?_) (fun h3 => no ?_)) (fun h2 => no ?_)) (fun h1 => no ?_)
  · have h : M.sealOk key e v = true := by simp [M.sealOk, h1, h2, h3]
    by_cases h4 : m = M.bundleMAC key e v d
    · rw [bne_eq_false_iff_eq.2 h4]
      refine Ev.round ?_
      simp only [impl_OpenBundle.j0]
      refine Ev.no (by simp) (Ev.bind (impl_DeriveKey.ev _ _ (by simp)) (Ev.bind (impl_Decrypt.ev _ _ hl hb) (Ev.bind (impl_DecodeBundle.ev _ (by rw [dec_len]; omega) (dec_byt _ _ _)) (Ev.eq ?_))))
      unfold M.open; rw [if_pos ⟨h, h4⟩]; rfl
    · rw [bne_iff_ne.2 h4]; exact no (fun hh => h4 hh.2)
  · intro hh; have := hh.1; simp [M.sealOk, h3] at this
  · intro hh; have := hh.1; simp [M.sealOk, h2] at this
  · intro hh; have := hh.1; simp [M.sealOk, h1] at this
/-! impl_Encrypt -/
theorem impl_Encrypt.ev (key : Int) (l : List Int) (hl : l.length ≤ 1048576) (hb : M.byt l) : Ev (fun k => impl_Encrypt.f k key l) (M.enc key 0 l) := by
  unfold impl_Encrypt.f
  refine Ev.conv (Ev.loop (fun k i o => impl_Encrypt.l0 k key o l l.length (i : Int)) l.length (fun i o => o ++ M.enc key i (l.drop i)) (fun i o => o.length = i) ?_ ?_ 0 [] (by omega) rfl) (by simp)
  · intro o ho
    refine Ev.round ?_
    simp only [impl_Encrypt.l0]
    exact Ev.no (by omega) (Ev.eq (by rw [drop_end]; simp [M.enc]))
  · intro i o hi ho ih
    refine Ev.round ?_
    simp only [impl_Encrypt.l0, rd_get hi, wrap_succ hi (by omega : l.length ≤ _)]
    rw [drop_get hi, M.enc]
    refine Ev.yes (by omega) (Ev.yes (by omega) (Ev.yes (by omega) (Ev.bind (impl_KeyedHash.ev key _ (by simp)) (Ev.yes (by omega) ?_))))
    rw [enc_i (byt_get hb hi) (keyed_bounds _ _)]
    exact Ev.conv (ih _ (by simp [ho])) (by simp)
/-! impl_SealBundle -/
theorem impl_SealBundle.ev (key e v : Int) (l : List S94) (hl : l.length ≤ 1048576) : Ev (fun k => impl_SealBundle.f k key e v l) (M.seal key e v l) := by
  unfold impl_SealBundle.f
  have no : ¬ (M.sealOk key e v = true ∧ M.isBundle l = true) → Ev (fun k => impl_SealBundle.j0 k key e v true l) (M.seal key e v l) := by
    intro h
    refine Ev.round ?_
    simp only [impl_SealBundle.j0]
    exact Ev.yes (by trivial) (Ev.eq (by unfold M.seal; rw [if_neg h]))
  simp only [impl_IsValidKey.eq, impl_InRange.eq, bind_some_]
  refine Ev.ite (fun h1 => Ev.ite (fun h2 => Ev.ite (fun h3 => Ev.bind (impl_IsBundle.ev l hl) ?_) (fun h3 => no ?_)) (fun h2 => no ?_)) (fun h1 => no ?_)
  · have h : M.sealOk key e v = true := by simp [M.sealOk, h1, h2, h3]
    cases h4 : M.isBundle l with
    | false => exact no (fun hh => by rw [h4] at hh; cases hh.2)
    | true =>
      have := encB_len l
      refine Ev.round ?_
      simp only [impl_SealBundle.j0]
      refine Ev.no (by simp) (Ev.bind (impl_DeriveKey.ev _ _ (by simp)) (Ev.bind (impl_EncodeBundle.ev l hl) (Ev.bind (impl_Encrypt.ev _ _ (by omega) (encB_byt l)) (Ev.bind (impl_BundleMAC.ev _ _ _ _ _ (by rw [enc_len]; omega)) (Ev.eq ?_)))))
      unfold M.seal; rw [if_pos ⟨h, h4⟩]; rfl
  · intro hh; have := hh.1; simp [M.sealOk, h3] at this
  · intro hh; have := hh.1; simp [M.sealOk, h2] at this
  · intro hh; have := hh.1; simp [M.sealOk, h1] at this
/-! laws_big -/
theorem laws_big.eq (l : List Int) : laws_big.f l = some (decide ((l.length : Int) > 1048576)) := rfl
/-! cur -/
theorem and255 (n : Int) : Go.bits .and .i64 n 255 = n % 256 := by
  have h : (BitVec.ofInt 64 255).toNat = 2 ^ 8 - 1 := by decide
  have key : (BitVec.ofInt 64 n &&& BitVec.ofInt 64 255).toNat = (n % ((2 ^ 64 : Nat) : Int)).toNat % 2 ^ 8 := by
    rw [BitVec.toNat_and, BitVec.toNat_ofInt, h, Nat.and_two_pow_sub_one_eq_mod]
  show Go.IntKind.i64.wrap ((BitVec.ofInt 64 n &&& BitVec.ofInt 64 255).toNat : Nat) = n % 256
  rw [key, Go.IntKind.wrap_i64]
  omega
/-! spec_l1New -/
theorem spec_l1New.ex (l : List Int) (hl : l.length ≤ 1048576) : EvX (fun k => spec_l1New.f k l) (fun r => r.1 = l ∧ r.2.1 = 0) := by
  unfold spec_l1New.f
  refine EvX.loop (fun k i (s : Int) => spec_l1New.l0 k l s (i : Int)) l.length _ (fun _ _ => True) ?_ ?_ 0 _ (by omega) trivial
  · intro s _
    refine EvX.round ?_
    simp only [spec_l1New.l0]
    exact EvX.no (by omega) (EvX.now ⟨rfl, rfl⟩)
  · intro i s hi _ ih
    refine EvX.round ?_
    simp only [spec_l1New.l0, wrap_succ hi (by omega : l.length ≤ _)]
    exact EvX.yes (by omega) (EvX.ite (fun _ => EvX.yes (by omega) (ih _ trivial)) (fun _ => EvX.now ⟨rfl, rfl⟩))
/-! spec_l1Byte -/
theorem spec_l1Byte.ex (s : List Int) (p q : Int) (hs : s.length ≤ 1048576) (hp : 0 ≤ p) : ∃ a, spec_l1Byte.f s p q = some a ∧ (0 ≤ a.1 ∧ a.1 ≤ 255) ∧ 0 ≤ a.2.1 := by
  unfold spec_l1Byte.f
  by_cases h : p < (s.length : Int)
  · rw [if_pos h, if_pos hp]
    refine ⟨_, rfl, ?_, ?_⟩
    · simp only [and255]; omega
    · simp only; rw [wrap_in (by omega) (by omega)]; omega
  · rw [if_neg h]
    refine ⟨_, rfl, ?_, hp⟩
    simp only [and255]; omega
/-! spec_l1Below -/
theorem spec_l1Below.ex (s : List Int) (p q n : Int) (hs : s.length ≤ 1048576) (hp : 0 ≤ p) (hn : n ≤ 1000000) : ∃ a, spec_l1Below.f s p q n = some a ∧ (0 ≤ a.1 ∧ (a.1 < n ∨ (n ≤ 0 ∧ a.1 = 0))) ∧ 0 ≤ a.2.1 := by
  unfold spec_l1Below.f
  by_cases h0 : n ≤ 0
  · rw [if_pos h0]; exact ⟨_, rfl, ⟨by simp, .inr ⟨h0, rfl⟩⟩, hp⟩
  · rw [if_neg h0]
    by_cases h1 : n ≤ 256
    · rw [if_pos h1]
      obtain ⟨a, ha, hb, hc⟩ := spec_l1Byte.ex s p q hs hp
      rw [ha, bind_some_, if_neg (by omega)]
      refine ⟨_, rfl, ?_, hc⟩
      simp only; rw [tmod_pos _ _ hb.1]
      exact ⟨Int.emod_nonneg _ (by omega), .inl (Int.emod_lt_of_pos _ (by omega))⟩
    · rw [if_neg h1]
      obtain ⟨a, ha, hab, hap⟩ := spec_l1Byte.ex s p q hs hp
      obtain ⟨b, hb, hbb, hbp⟩ := spec_l1Byte.ex s a.2.1 a.2.2 hs hap
      obtain ⟨c, hc, hcb, hcp⟩ := spec_l1Byte.ex s b.2.1 b.2.2 hs hbp
      rw [ha, bind_some_, hb, bind_some_, hc, bind_some_, if_neg (by omega)]
      refine ⟨_, rfl, ?_, hcp⟩
      simp only
      rw [wrap_in (n := a.1 * 65536) (by omega) (by omega), wrap_in (n := b.1 * 256) (by omega) (by omega), wrap_in (n := a.1 * 65536 + b.1 * 256) (by omega) (by omega), wrap_in (by omega) (by omega), tmod_pos _ _ (by omega)]
      exact ⟨Int.emod_nonneg _ (by omega), .inl (Int.emod_lt_of_pos _ (by omega))⟩
/-! spec_l1Once -/
theorem spec_l1Once.ex (s : List Int) (p q n : Int) (hs : s.length ≤ 1048576) (hp : 0 ≤ p) (hn : n ≤ 1000000) : ∃ a, spec_l1Once.f s p q n = some a ∧ 0 ≤ a.2.1 := by
  unfold spec_l1Once.f
  obtain ⟨a, ha, _, hp2⟩ := spec_l1Below.ex s p q n hs hp hn
  rw [ha, bind_some_]
  exact ⟨_, rfl, hp2⟩
/-! spec_l1Int -/
theorem spec_l1Int.ex (s : List Int) (p q : Int) (l : List Int) (hs : s.length ≤ 1048576) (hp : 0 ≤ p) (h0 : 0 < l.length) (hl : l.length ≤ 1000) : ∃ a, spec_l1Int.f s p q l = some a ∧ a.1 ∈ l ∧ 0 ≤ a.2.1 := by
  unfold spec_l1Int.f
  obtain ⟨a, ha, hb, hp2⟩ := spec_l1Below.ex s p q (l.length : Int) hs hp (by omega)
  rw [ha, bind_some_, if_pos hb.1, if_pos (by omega)]
  refine ⟨_, rfl, ?_, hp2⟩
  obtain ⟨n, hn⟩ := Int.eq_ofNat_of_zero_le hb.1
  simp only
  rw [hn, rd_get (by omega : n < l.length)]
  exact List.getElem_mem _
/-! spec_l6Key -/
theorem spec_l6Key.ex (s : List Int) (p q : Int) (hs : s.length ≤ 1048576) (hp : 0 ≤ p) : ∃ a, spec_l6Key.f s p q = some a ∧ 0 ≤ a.2.1 := by
  unfold spec_l6Key.f
  obtain ⟨a, ha, hap⟩ := spec_l1Once.ex s p q 10 hs hp (by omega)
  rw [ha, bind_some_]
  by_cases h : a.1 = true
  · rw [if_pos h]
    obtain ⟨b, hb, _, hbp⟩ := spec_l1Int.ex s a.2.1 a.2.2 [0, -1, 1, 2147483646, 2147483647] hs hap (by simp) (by simp)
    rw [hb, bind_some_]; exact ⟨_, rfl, hbp⟩
  · rw [if_neg h]
    obtain ⟨b, hb, _, hbp⟩ := spec_l1Below.ex s a.2.1 a.2.2 99999 hs hap (by omega)
    rw [hb, bind_some_]; exact ⟨_, rfl, hbp⟩
/-! setkey -/
theorem lessE_key {a a' b b' : S94} (h1 : a.f0 = a'.f0) (h2 : a.f1 = a'.f1) (h3 : b.f0 = b'.f0) (h4 : b.f1 = b'.f1) : M.lessE a b = M.lessE a' b' := by
  unfold M.lessE; rw [h1, h2, h3, h4]
theorem set_asc {l : List S94} {k : Nat} (hk : k < l.length) {e : S94} (h0 : e.f0 = l[k].f0) (h1 : e.f1 = l[k].f1) (h : M.asc l) : M.asc (l.set k e) := by
  unfold M.asc at *
  rw [List.pairwise_iff_getElem] at *
  intro i j hi hj hij
  have hi' : i < l.length := by simpa using hi
  have hj' : j < l.length := by simpa using hj
  have key : ∀ (n : Nat) (hn : n < (l.set k e).length) (hn' : n < l.length), (l.set k e)[n].f0 = l[n].f0 ∧ (l.set k e)[n].f1 = l[n].f1 := by
    intro n hn hn'
    rw [List.getElem_set]
    by_cases hkn : k = n
    · subst hkn; rw [if_pos rfl]; exact ⟨h0, h1⟩
    · rw [if_neg hkn]; exact ⟨rfl, rfl⟩
  rw [lessE_key (key i hi hi').1 (key i hi hi').2 (key j hj hj').1 (key j hj hj').2]
  exact h i j hi' hj' hij
theorem set_bundle {l : List S94} {k : Nat} (hk : k < l.length) {e : S94} (h0 : e.f0 = l[k].f0) (h1 : e.f1 = l[k].f1) (h : M.isBundle l = true) : M.isBundle (l.set k e) = M.okE e := by
  obtain ⟨b1, b2, b3⟩ := (isBundle_iff l).1 h
  cases ho : M.okE e with
  | true =>
    refine (isBundle_iff _).2 ⟨by simpa using b1, set_asc hk h0 h1 b2, ?_⟩
    intro z hz
    rcases List.mem_or_eq_of_mem_set hz with hz | rfl
    · exact b3 z hz
    · exact ho
  | false =>
    rw [Bool.eq_false_iff]; intro hb
    have := ((isBundle_iff _).1 hb).2.2 e (List.mem_set hk e)
    rw [ho] at this; cases this
theorem findFrom_key (s h : Int) : ∀ (l : List S94) (i : Int), 0 ≤ i → 0 ≤ M.findFrom s h l i → ∃ (n : Nat) (hn : n < l.length), M.findFrom s h l i = i + n ∧ l[n].f0 = s ∧ l[n].f1 = h
  | [], i, _, h2 => by simp [M.findFrom] at h2
  | e :: l, i, hi, h2 => by
    unfold M.findFrom at h2 ⊢
    by_cases hk : e.f0 = s ∧ e.f1 = h
    · rw [if_pos hk]; exact ⟨0, by simp, by simp, hk.1, hk.2⟩
    · rw [if_neg hk] at h2 ⊢
      obtain ⟨n, hn, h3, h4⟩ := findFrom_key s h l (i + 1) (by omega) h2
      exact ⟨n + 1, by simpa using hn, by omega, by simpa using h4⟩
theorem findEntry_key {l : List S94} {s h : Int} (hf : 0 ≤ M.findEntry l s h) : ∃ (n : Nat) (hn : n < l.length), M.findEntry l s h = n ∧ l[n].f0 = s ∧ l[n].f1 = h := by
  obtain ⟨n, hn, h3, h4⟩ := findFrom_key s h l 0 (by omega) hf
  exact ⟨n, hn, by unfold M.findEntry; omega, h4⟩
theorem set_rd {l : List S94} {n : Nat} (hn : n < l.length) (e : S94) : rd_T94 (l.set n e) (n : Int) = e := by
  rw [rd_Entry (by simpa using hn)]; simp
theorem ok_at {l : List S94} (h : M.isBundle l = true) {n : Nat} (hn : n < l.length) : (0 ≤ l[n].f0 ∧ l[n].f0 ≤ 2147483646) ∧ (0 ≤ l[n].f1 ∧ l[n].f1 ≤ 1000000) ∧ (1 ≤ l[n].f2 ∧ l[n].f2 ≤ 1000000) := by
  have := ((isBundle_iff l).1 h).2.2 l[n] (List.getElem_mem hn)
  simpa [M.okE, inr_true] using this
/-! put -/
/-- The version of an entry that is put. -/
def M.putV (l : List S94) (s h : Int) : Int := if 0 ≤ M.findEntry l s h then wrap64 ((M.eAt l (M.findEntry l s h)).f2 + 1) else 1
def M.putB (l : List S94) (s h : Int) : List S94 × Bool :=
  if 0 ≤ M.findEntry l s h ∧ (M.eAt l (M.findEntry l s h)).f3 = false then (l, false)
  else if M.isBundle l = true ∧ M.isBundle (M.setE l ⟨s, h, M.putV l s h, false⟩) = true then (M.setE l ⟨s, h, M.putV l s h, false⟩, true) else (l, false)
theorem putB_len (l : List S94) (s h : Int) (hl : l.length ≤ 1048576) : (M.putB l s h).1.length ≤ 1048576 := by
  unfold M.putB; split
  · exact hl
  · split
    · rename_i h1; have := ((isBundle_iff _).1 h1.2).1; simp only; omega
    · exact hl
/-! delete -/
def M.delB (l : List S94) (s h : Int) : List S94 × Bool :=
  if M.isBundle l = true ∧ 0 ≤ M.findEntry l s h ∧ (M.eAt l (M.findEntry l s h)).f3 = false ∧ (M.eAt l (M.findEntry l s h)).f2 ≠ 1000000 then (l.set (M.findEntry l s h).toNat ⟨s, h, (M.eAt l (M.findEntry l s h)).f2 + 1, true⟩, true) else (l, false)
theorem delB_len (l : List S94) (s h : Int) : (M.delB l s h).1.length = l.length := by
  unfold M.delB; split <;> simp
/-! drawbundle -/
theorem put1_mem' (e : S94) : ∀ (l : List S94) (z : S94), z ∈ M.insertE l e → z ∈ l ∨ z = e := by
  intro l z h
  unfold M.insertE at h
  rcases List.mem_append.1 h with h | h
  · rcases List.mem_append.1 h with h | h
    · exact .inl (List.mem_of_mem_take h)
    · exact .inr (List.mem_singleton.1 h)
  · exact .inl (List.mem_of_mem_drop h)
theorem setE_mem (l : List S94) (e z : S94) (h : z ∈ M.setE l e) : z ∈ l ∨ z = e := by
  unfold M.setE at h; split at h
  · rcases List.mem_or_eq_of_mem_set h with h | h
    · exact .inl h
    · exact .inr h
  · exact put1_mem' e l z h
theorem putB_mem (l : List S94) (s h : Int) (z : S94) (hz : z ∈ (M.putB l s h).1) : z ∈ l ∨ z.f0 = s := by
  unfold M.putB at hz; split at hz
  · exact .inl hz
  · split at hz
    · rcases setE_mem _ _ _ hz with hz | rfl
      · exact .inl hz
      · exact .inr rfl
    · exact .inl hz
theorem delB_mem (l : List S94) (s h : Int) (z : S94) (hz : z ∈ (M.delB l s h).1) : z ∈ l ∨ z.f0 = s := by
  unfold M.delB at hz; split at hz
  · rcases List.mem_or_eq_of_mem_set hz with hz | rfl
    · exact .inl hz
    · exact .inr rfl
  · exact .inl hz
theorem putB_ok {l : List S94} (s h : Int) (hl : M.isBundle l = true) : M.isBundle (M.putB l s h).1 = true := by
  unfold M.putB; split
  · exact hl
  · split
    · rename_i hh; exact hh.2
    · exact hl
theorem delB_ok {l : List S94} (s h : Int) (hl : M.isBundle l = true) : M.isBundle (M.delB l s h).1 = true := by
  unfold M.delB; split
  · rename_i hh
    obtain ⟨n, hn, hf, k0, k1⟩ := findEntry_key hh.2.1
    have hok := ok_at hl hn
    have h4 := hh.2.2.2
    unfold M.eAt at *
    rw [hf, rd_Entry hn] at *
    simp only [Int.toNat_natCast]
    rw [set_bundle hn k0.symm k1.symm hl]
    simp [M.okE, inr_true]; omega
  · exact hl
/-- A new entry finds its place. -/
theorem putB_new {l : List S94} {s h : Int} (hl : M.isBundle l = true) (hlen : l.length < 20) (hs : 0 ≤ s ∧ s ≤ 2147483646) (hh : 0 ≤ h ∧ h ≤ 1000000) (hn : ∀ z ∈ l, ¬ (z.f0 = s ∧ z.f1 = h)) : (M.putB l s h).1.length = l.length + 1 := by
  have hf := find_none hn
  obtain ⟨b1, b2, b3⟩ := (isBundle_iff l).1 hl
  have hv : M.putV l s h = 1 := by unfold M.putV; rw [hf, if_neg (by decide)]
  have hs1 : M.setE l ⟨s, h, M.putV l s h, false⟩ = M.insertE l ⟨s, h, 1, false⟩ := by unfold M.setE; rw [hv]; simp only; rw [hf, if_neg (by decide)]
  have hp : M.insertE l ⟨s, h, 1, false⟩ = M.put1 ⟨s, h, 1, false⟩ l := by
    rw [← putS_eq _ l b2, putS_new (by simp only; rw [hf]; decide)]
  have hb : M.isBundle (M.insertE l ⟨s, h, 1, false⟩) = true := by
    refine (isBundle_iff _).2 ⟨by rw [insertE_len]; omega, by rw [hp]; exact put1_asc _ l b2, ?_⟩
    intro z hz
    rcases put1_mem' _ _ _ hz with hz | rfl
    · exact b3 z hz
    · simp [M.okE, inr_true]; omega
  unfold M.putB
  rw [if_neg (by rw [hf]; intro hh; exact absurd hh.1 (by decide)), hs1, if_pos ⟨hl, hb⟩]
  exact insertE_len _ _
/-- A bundle as it is drawn: its sites stay below b. -/
def M.drawnB (b : Int) (l : List S94) : Prop := M.isBundle l = true ∧ ∀ z ∈ l, z.f0 < b
theorem drawnB_put {b : Int} {l : List S94} (hl : M.drawnB b l) (s h b' : Int) (hb : b ≤ b') (hs : s < b') : M.drawnB b' (M.putB l s h).1 := by
  refine ⟨putB_ok s h hl.1, ?_⟩
  intro z hz
  rcases putB_mem _ _ _ _ hz with hz | hz
  · have := hl.2 z hz; omega
  · omega
theorem drawnB_del {b : Int} {l : List S94} (hl : M.drawnB b l) (s h : Int) (hs : s < b) : M.drawnB b (M.delB l s h).1 := by
  refine ⟨delB_ok s h hl.1, ?_⟩
  intro z hz
  rcases delB_mem _ _ _ _ hz with hz | hz
  · exact hl.2 z hz
  · omega
/-! spec_FindEntry -/
theorem spec_FindEntry.ev (l : List S94) (a b : Int) (hl : l.length ≤ 1048576) : Ev (fun k => spec_FindEntry.f k l a b) (M.findEntry l a b) := by
  unfold spec_FindEntry.f
  refine Ev.loop (fun k i (_ : Unit) => spec_FindEntry.l0 k a b (i : Int) l) l.length (fun i _ => M.findFrom a b (l.drop i) i) (fun _ _ => True) ?_ ?_ 0 () (by omega) trivial
  · rintro s _
    refine Ev.round ?_
    simp only [spec_FindEntry.l0]
    exact Ev.no (by omega) (Ev.eq (by rw [drop_end]; rfl))
  · rintro i s hi _ ih
    refine Ev.round ?_
    simp only [spec_FindEntry.l0, rd_Entry hi, wrap_succ hi (by omega : l.length ≤ _)]
    rw [drop_get hi]; unfold M.findFrom
    refine Ev.yes (by omega) (Ev.yes (by omega) (Ev.ite (fun h1 => Ev.ite (fun h2 => ?_) (fun h2 => ?_)) (fun h1 => ?_)))
    · exact Ev.eq (by rw [if_pos ⟨h1, h2⟩])
    · rw [if_neg (fun h => h2 h.2)]; exact ih () trivial
    · rw [if_neg (fun h => h1 h.1)]; exact ih () trivial
/-! spec_l17Less -/
theorem spec_l17Less.eq (a b : S94) : spec_l17Less.f a.f0 a.f1 a.f2 a.f3 b.f0 b.f1 = some (M.lessE a b) := by
  unfold spec_l17Less.f M.lessE
  by_cases h1 : a.f0 < b.f0 <;> by_cases h2 : a.f0 = b.f0 <;> simp [h1, h2]
/-! spec_l1In -/
theorem spec_l1In.eq (a b c : Int) : spec_l1In.f a b c = some (M.inr a b c) := by
  unfold spec_l1In.f M.inr
  by_cases h : a ≥ b
  · rw [if_pos h]; simp [h]
  · rw [if_neg h]; have : ¬ b ≤ a := by omega
    simp [this]
/-! spec_IsBundle -/
theorem spec_IsBundle.ev (l : List S94) (hl : l.length ≤ 1048576) : Ev (fun k => spec_IsBundle.f k l) (M.isBundle l) := by
  unfold spec_IsBundle.f
  refine Ev.conv (Ev.loop (fun k i (_ : Unit) => spec_IsBundle.l0 k (i : Int) l) l.length (fun i _ => decide (l.length ≤ 20) && M.rises (M.before l i) (l.drop i)) (fun _ _ => True) ?_ ?_ 0 () (by omega) trivial) (by simp [M.isBundle, M.before])
  · rintro s _
    refine Ev.round ?_
    simp only [spec_IsBundle.l0]
    refine Ev.no (by omega) (Ev.eq ?_)
    rw [drop_end]; cases M.before l l.length <;> simp [M.rises] <;> omega
  · rintro i s hi _ ih
    refine Ev.round ?_
    simp only [spec_IsBundle.l0, wrap_succ hi (by omega : l.length ≤ _), rd_Entry hi, spec_l1In.eq, bind_some_]
    rw [rises_at l i hi]
    refine Ev.yes (by omega) (Ev.yes (by omega) (Ev.ite (fun h1 => Ev.ite (fun h2 => Ev.ite (fun h3 => ?_) (fun h3 => ?_)) (fun h2 => ?_)) (fun h1 => ?_)))
    · have ho : M.okE l[i] = true := by simp [M.okE, h1, h2, h3]
      refine Ev.ite (fun h0 => ?_) (fun h0 => ?_)
      · have hp : wrap64 ((i : Int) - 1) = ((i - 1 : Nat) : Int) := wrap_pred (by omega) (by omega)
        simp only [hp, rd_Entry (by omega : i - 1 < l.length), spec_l17Less.eq, bind_some_]
        refine Ev.yes (by omega) (Ev.yes (by omega) (Ev.ite (fun h4 => ?_) (fun h4 => ?_)))
        · refine Ev.conv (ih () trivial) (by simp [ho, h4])
        · refine Ev.eq (by simp [ho, h4]; omega)
      · refine Ev.conv (ih () trivial) (by obtain rfl : i = 0 := (by omega); simp [ho])
    · exact Ev.eq (by simp [M.okE, h3])
    · exact Ev.eq (by simp [M.okE, h2])
    · exact Ev.eq (by simp [M.okE, h1])
/-! spec_l17Copy -/
theorem spec_l17Copy.eq (l : List S94) (hl : l.length ≤ 1048577) : spec_l17Copy.f l = some l := by
  unfold spec_l17Copy.f; simp only [bind_some_]; rw [if_pos (by simp; omega)]; rfl
/-! spec_l17Set -/
theorem spec_l17Set.ev (l : List S94) (e : S94) (hl : l.length ≤ 1048576) : Ev (fun k => spec_l17Set.f k l e.f0 e.f1 e.f2 e.f3) (M.setE l e) := by
  unfold spec_l17Set.f
  have hb := findEntry_bounds l e.f0 e.f1
  refine Ev.bindc (spec_l17Copy.eq _ (by omega)) (Ev.bind (spec_FindEntry.ev l _ _ hl) (Ev.ite (fun h1 => Ev.yes (by omega) (Ev.yes (by omega) (Ev.eq ?_))) (fun h1 => ?_)))
  · unfold M.setE; rw [if_pos (by omega)]
  have hr : M.setE l e = M.insertE l e := by unfold M.setE; rw [if_neg (by omega)]
  rw [hr]
  have hi := insE_le e l
  have fin : ∀ i : Nat, i = M.insE e l → (l.take i ++ [(⟨e.f0, e.f1, e.f2, e.f3⟩ : S94)] ++ l.drop i) = M.insertE l e := by rintro i rfl; rfl
  refine Ev.loop (fun k i (_ : Unit) => spec_l17Set.l0 k (i : Int) l e.f0 e.f1 e.f2 e.f3) l.length (fun _ _ => M.insertE l e) (fun i _ => M.insE e l = i + M.insE e (l.drop i)) ?_ ?_ 0 () (by omega) (by simp)
  · rintro s hinv
    rw [drop_end] at hinv
    refine Ev.round ?_
    simp only [spec_l17Set.l0, bind_some_, Int.toNat_natCast]
    refine Ev.no (by omega) (Ev.yes (by omega) (Ev.yes (by omega) (Ev.yes (by simp; omega) (Ev.yes (by simp; omega) (Ev.yes (by simp; omega) (Ev.eq ?_))))))
    rw [List.nil_append]; exact fin _ (by rw [hinv]; rfl)
  · rintro i s hil hinv ih
    rw [insE_drop e l i hil] at hinv
    refine Ev.round ?_
    simp only [spec_l17Set.l0, rd_Entry hil, wrap_succ hil (by omega : l.length ≤ _), spec_l17Less.eq, bind_some_, Int.toNat_natCast]
    refine Ev.yes (by omega) (Ev.yes (by omega) (Ev.ite (fun h2 => ?_) (fun h2 => ?_)))
    · rw [if_pos h2] at hinv; exact ih () (by omega)
    · rw [if_neg h2] at hinv
      refine Ev.yes (by omega) (Ev.yes (by simp; omega) (Ev.yes (by simp; omega) (Ev.yes (by simp; omega) (Ev.eq ?_))))
      rw [List.nil_append]; exact fin _ (by omega)
/-! spec_DeleteEntry -/
theorem spec_DeleteEntry.ev (l : List S94) (s h : Int) (hl : l.length ≤ 1048576) : Ev (fun k => spec_DeleteEntry.f k l s h) (M.delB l s h) := by
  unfold spec_DeleteEntry.f
  have hb := findEntry_bounds l s h
  have no : M.delB l s h = (l, false) → Ev (fun k => spec_DeleteEntry.j0 k s h (M.findEntry l s h) true l) (M.delB l s h) := by
    intro e
    refine Ev.round ?_
    simp only [spec_DeleteEntry.j0, spec_l17Copy.eq l (by omega), bind_some_]
    exact Ev.yes (by trivial) (Ev.eq (by rw [e]))
  refine Ev.bind (spec_FindEntry.ev l s h hl) (Ev.bind (spec_IsBundle.ev l hl) (Ev.ite (fun h1 => Ev.ite (fun h2 => no ?_) (fun h2 => Ev.yes (by omega) (Ev.yes (by omega) (Ev.ite (fun h3 => no ?_) (fun h3 => ?_))))) (fun h1 => no ?_)))
  · unfold M.delB; rw [if_neg]; rintro ⟨_, hh, _⟩; omega
  · unfold M.delB; rw [if_neg]; rintro ⟨_, _, hh, _⟩; unfold M.eAt at hh; rw [h3] at hh; cases hh
  · cases h4 : ((rd_T94 l (M.findEntry l s h)).f2 == 1000000) with
    | true => exact no (by unfold M.delB; rw [if_neg]; rintro ⟨_, _, _, hh⟩; exact hh (by unfold M.eAt; simpa using h4))
    | false =>
      obtain ⟨n, hn, hf, k0, k1⟩ := findEntry_key (by omega : 0 ≤ M.findEntry l s h)
      have hok := ok_at h1 hn
      have hw : wrap64 ((rd_T94 l (M.findEntry l s h)).f2 + 1) = (M.eAt l (M.findEntry l s h)).f2 + 1 := by
        unfold M.eAt; rw [hf, rd_Entry hn]; exact wrap_in (by omega) (by omega)
      refine Ev.round ?_
      simp only [spec_DeleteEntry.j0, hw]
      refine Ev.no (by simp) (Ev.yes (by omega) (Ev.yes (by omega) (Ev.bind (spec_l17Set.ev l ⟨s, h, (M.eAt l (M.findEntry l s h)).f2 + 1, true⟩ hl) (Ev.eq ?_))))
      unfold M.delB; rw [if_pos ⟨h1, by omega, by unfold M.eAt; simpa using h3, by unfold M.eAt; simpa using h4⟩]
      unfold M.setE; simp only; rw [if_pos (by omega)]
  · unfold M.delB; rw [if_neg]; rintro ⟨hh, _⟩; exact h1 hh
/-! spec_PutEntry -/
theorem spec_PutEntry.ev (l : List S94) (s h : Int) (hl : l.length ≤ 1048576) : Ev (fun k => spec_PutEntry.f k l s h) (M.putB l s h) := by
  unfold spec_PutEntry.f
  have hb := findEntry_bounds l s h
  have fin : ¬ (0 ≤ M.findEntry l s h ∧ (M.eAt l (M.findEntry l s h)).f3 = false) → ∀ v, v = M.putV l s h → Ev (fun k => spec_PutEntry.j0 k l s h v false) (M.putB l s h) := by
    rintro hd v rfl
    refine Ev.round ?_
    simp only [spec_PutEntry.j0, spec_l17Copy.eq l (by omega), bind_some_]
    refine Ev.bind (spec_l17Set.ev l ⟨s, h, M.putV l s h, false⟩ hl) (Ev.bind (spec_IsBundle.ev l hl) (Ev.ite (fun h1 => ?_) (fun h1 => Ev.eq ?_)))
    · have h20 := ((isBundle_iff l).1 h1).1
      have hsl := setE_len l ⟨s, h, M.putV l s h, false⟩
      refine Ev.bind (spec_IsBundle.ev (M.setE l ⟨s, h, M.putV l s h, false⟩) (by omega)) (Ev.ite (fun h2 => Ev.eq ?_) (fun h2 => Ev.eq ?_))
      · unfold M.putB; rw [if_neg hd, if_pos ⟨h1, h2⟩]
      · unfold M.putB; rw [if_neg hd, if_neg (fun hh => h2 hh.2)]
    · unfold M.putB; rw [if_neg hd, if_neg (fun hh => h1 hh.1)]
  refine Ev.bind (spec_FindEntry.ev l s h hl) (Ev.ite (fun h1 => Ev.yes (by omega) (Ev.yes (by omega) (Ev.ite (fun h2 => fin ?_ _ ?_) (fun h2 => ?_)))) (fun h1 => fin ?_ _ ?_))
  · rintro ⟨_, hh⟩; unfold M.eAt at hh; rw [h2] at hh; cases hh
  · unfold M.putV M.eAt; rw [if_pos (by omega)]
  · rw [spec_l17Copy.eq l (by omega)]
    exact Ev.eq (by unfold M.putB M.eAt; rw [if_pos ⟨by omega, by simpa using h2⟩])
  · intro hh; omega
  · unfold M.putV; rw [if_neg (by omega)]
/-! spec_l17Step -/
theorem spec_l17Step.ex (s : List Int) (p q : Int) (l : List S94) (hs : s.length ≤ 1048576) (hp : 0 ≤ p) (hl : M.drawnB 10 l) : EvX (fun k => spec_l17Step.f k s p q l) (fun r => M.drawnB 10 r.1 ∧ 0 ≤ r.2.1) := by
  unfold spec_l17Step.f
  have hlen := isBundle_len hl.1
  refine EvX.bindc (spec_l1Below.ex s p q 4 hs hp (by omega)) ?_
  rintro ⟨a, p1, q1⟩ ⟨ha, hp1⟩
  refine EvX.bindc (spec_l1Below.ex s p1 q1 3 hs hp1 (by omega)) ?_
  rintro ⟨b, p2, q2⟩ ⟨hb, hp2⟩
  refine EvX.bindc (spec_l1Once.ex s p2 q2 3 hs hp2 (by omega)) ?_
  rintro ⟨o, p3, q3⟩ hp3
  simp only at ha hp3 ⊢
  exact EvX.ite (fun _ => EvX.bindv (spec_DeleteEntry.ev l a b (by omega)) (EvX.now ⟨drawnB_del hl a b (by omega), hp3⟩)) (fun _ => EvX.bindv (spec_PutEntry.ev l a b (by omega)) (EvX.now ⟨drawnB_put hl a b 10 (by omega) (by omega), hp3⟩))
/-! spec_l17Bundle -/
theorem spec_l17Bundle.ex (s : List Int) (p q : Int) (hs : s.length ≤ 1048576) (hp : 0 ≤ p) : EvX (fun k => spec_l17Bundle.f k s p q) (fun r => M.isBundle r.1 = true ∧ 0 ≤ r.2.1) := by
  unfold spec_l17Bundle.f
  refine EvX.bindc (spec_l1Int.ex s p q _ hs hp (by simp) (by simp)) ?_
  rintro ⟨n, p1, q1⟩ ⟨hn, hp1⟩
  simp only at hn hp1 ⊢
  -- the rows of twenty
  have full : ∀ (d i : Nat) (l : List S94) (p q : Int), l.length + d = 20 → i + d ≤ 20 → M.drawnB (10 + (i : Int)) l → 0 ≤ p → EvX (fun k => spec_l17Bundle.l1 k (i : Int) s p q l) (fun r => M.isBundle r.1 = true ∧ 0 ≤ r.2.1) := by
    intro d
    induction d with
    | zero =>
      intro i l p q hd hi hl hp
      refine EvX.round ?_
      simp only [spec_l17Bundle.l1]
      exact EvX.no (by omega) (EvX.now ⟨hl.1, hp⟩)
    | succ d ih =>
      intro i l p q hd hi hl hp
      have hw1 : wrap64 (10 + (i : Int)) = 10 + (i : Int) := wrap_in (by omega) (by omega)
      have hw2 : wrap64 ((i : Int) + 1) = ((i + 1 : Nat) : Int) := by rw [wrap_in (by omega) (by omega)]; omega
      have hnew := putB_new (s := 10 + (i : Int)) (h := 0) hl.1 (by omega) (by omega) (by omega) (fun z hz hh => by have := hl.2 z hz; omega)
      refine EvX.round ?_
      simp only [spec_l17Bundle.l1, hw1, hw2]
      refine EvX.yes (by omega) (EvX.bindv (spec_PutEntry.ev l _ _ (by omega)) ?_)
      exact ih (i + 1) _ p q (by omega) (by omega) (drawnB_put hl _ _ _ (by omega) (by omega)) hp
  have main : ∀ (m : Nat), m ≤ 9 → ∀ (l : List S94) (p q : Int), M.drawnB 10 l → 0 ≤ p → EvX (fun k => spec_l17Bundle.l0 k (m : Int) s p q l) (fun r => M.isBundle r.1 = true ∧ 0 ≤ r.2.1) := by
    intro m
    induction m with
    | zero =>
      intro _ l p q hl hp
      have hlen := isBundle_len hl.1
      refine EvX.round ?_
      simp only [spec_l17Bundle.l0]
      refine EvX.no (by omega) (EvX.bindc (spec_l1Once.ex s p q 8 hs hp (by omega)) ?_)
      rintro ⟨o, p2, q2⟩ hp2
      exact EvX.ite (fun _ => full (20 - l.length) 0 l p2 q2 (by omega) (by omega) (by simpa using hl) hp2) (fun _ => EvX.now ⟨hl.1, hp2⟩)
    | succ m ih =>
      intro hm l p q hl hp
      have hw : wrap64 (((m + 1 : Nat) : Int) - 1) = (m : Int) := by rw [wrap_in (by omega) (by omega)]; omega
      refine EvX.round ?_
      simp only [spec_l17Bundle.l0, hw]
      refine EvX.yes (by omega) (EvX.bind (spec_l17Step.ex s p q l hs hp hl) ?_)
      rintro ⟨x, p2, q2⟩ ⟨hx, hp2⟩
      exact ih (by omega) x p2 q2 hx hp2
  have hempty : M.drawnB 10 ([] : List S94) := ⟨(isBundle_iff _).2 ⟨by simp, List.Pairwise.nil, by simp⟩, by simp⟩
  have hn2 : n = 0 ∨ n = 2 ∨ n = 5 ∨ n = 9 := by simpa using hn
  rcases hn2 with rfl | rfl | rfl | rfl
  · exact main 0 (by omega) [] p1 q1 hempty hp1
  · exact main 2 (by omega) [] p1 q1 hempty hp1
  · exact main 5 (by omega) [] p1 q1 hempty hp1
  · exact main 9 (by omega) [] p1 q1 hempty hp1
/-! spec_l17Any -/
theorem spec_l17Any.ex (s : List Int) (p q : Int) (hs : s.length ≤ 1048576) (hp : 0 ≤ p) : EvX (fun k => spec_l17Any.f k s p q) (fun r => r.1.length ≤ 21 ∧ 0 ≤ r.2.1) := by
  unfold spec_l17Any.f
  refine EvX.bind (spec_l17Bundle.ex s p q hs hp) ?_
  rintro ⟨l, p1, q1⟩ ⟨hl, hp1⟩
  simp only at hl hp1 ⊢
  have hlen := isBundle_len hl
  refine EvX.bindc (spec_l1Below.ex s p1 q1 8 hs hp1 (by omega)) ?_
  rintro ⟨t, p2, q2⟩ ⟨ht, hp2⟩
  simp only at hp2 ⊢
  refine EvX.ite (fun _ => ?_) (fun _ => EvX.ite (fun _ => EvX.ite (fun h => EvX.yes (by omega) (EvX.now ⟨by simp; omega, hp2⟩)) (fun _ => EvX.now ⟨by simp only; omega, hp2⟩)) (fun _ => EvX.now ⟨by simp only; omega, hp2⟩))
  refine EvX.bindc (spec_l1Int.ex s p2 q2 _ hs hp2 (by simp) (by simp)) ?_
  rintro ⟨a, p3, q3⟩ ⟨_, hp3⟩
  refine EvX.bindc (spec_l1Int.ex s p3 q3 _ hs hp3 (by simp) (by simp)) ?_
  rintro ⟨b, p4, q4⟩ ⟨_, hp4⟩
  refine EvX.bindc (spec_l1Int.ex s p4 q4 _ hs hp4 (by simp) (by simp)) ?_
  rintro ⟨c, p5, q5⟩ ⟨_, hp5⟩
  exact EvX.yes (by omega) (EvX.now ⟨by simp; omega, hp5⟩)
/-! spec_DrawSealBundle -/
theorem spec_DrawSealBundle.ex (l : List Int) (hl : l.length ≤ 1048576) : EvX (fun k => spec_DrawSealBundle.f k l) (fun r => r.2.2.2.length ≤ 21) := by
  unfold spec_DrawSealBundle.f
  refine EvX.bind (spec_l1New.ex l hl) ?_
  rintro ⟨s, p, q⟩ ⟨rfl, hp⟩
  have hp0 : 0 ≤ p := by simp only at hp; omega
  simp only at hl ⊢
  refine EvX.bindc (spec_l6Key.ex s p q hl hp0) ?_
  rintro ⟨k, p1, q1⟩ hp1
  refine EvX.bindc (spec_l1Int.ex s p1 q1 _ hl hp1 (by simp) (by simp)) ?_
  rintro ⟨e, p2, q2⟩ ⟨_, hp2⟩
  refine EvX.bindc (spec_l1Int.ex s p2 q2 _ hl hp2 (by simp) (by simp)) ?_
  rintro ⟨v, p3, q3⟩ ⟨_, hp3⟩
  refine EvX.bind (spec_l17Any.ex s p3 q3 hl hp3) ?_
  rintro ⟨b, p4, q4⟩ ⟨hb, _⟩
  exact EvX.now hb
/-! spec_IsValidKey -/
theorem spec_IsValidKey.eq (a : Int) : spec_IsValidKey.f a = some (M.validKey a) := by unfold spec_IsValidKey.f; rw [spec_l1In.eq]; rfl
/-! spec_l18Range -/
theorem spec_l18Range.eq (key e v : Int) : spec_l18Range.f key e v = some (M.sealOk key e v) := by
  unfold spec_l18Range.f M.sealOk
  simp only [spec_IsValidKey.eq, spec_l1In.eq, bind_some_]
  cases M.validKey key <;> cases M.inr e 0 1000000 <;> cases M.inr v 0 1000000 <;> rfl
/-! spec_Mod -/
theorem spec_Mod.eq (a m : Int) : spec_Mod.f a m = some (M.mod a m) := by
  unfold spec_Mod.f M.mod
  rw [spec_l1In.eq]; simp only [Option.bind_some]
  by_cases h : 1 ≤ m ∧ m ≤ 1000000000000
  · have hb := tmod_bounds a m h.1
    rw [if_pos (inr_true.2 h), if_neg (by omega), if_pos h, wrap_in (by omega) (by omega), mod_add_self a m h.1]
  · rw [if_neg (fun h2 => h (inr_true.1 h2)), if_neg h]
/-! spec_Hash -/
theorem spec_Hash.ev (l : List Int) (hl : l.length ≤ 140737488355328) : Ev (fun k => spec_Hash.f k l) (M.hash l) := by
  refine Ev.loop (fun k i h => spec_Hash.l0 k l h (i : Int)) l.length (fun i h => (l.drop i).foldl M.hstep h) (fun _ h => 0 ≤ h ∧ h < 2147483647) ?_ ?_ 0 11 (by omega) (by omega)
  · intro h _
    refine Ev.round ?_
    simp only [spec_Hash.l0]
    refine Ev.no (by omega) (Ev.eq (by rw [drop_end]; rfl))
  · intro i h hi hh ih
    refine Ev.round ?_
    simp only [spec_Hash.l0, spec_Mod.eq, bind_some_, wrap_succ hi (by omega : l.length ≤ _), hstep_eq _ _ hh.1 hh.2]
    refine Ev.yes (by omega) (Ev.yes (by omega) ?_)
    rw [drop_get hi, rd_get hi]
    exact ih _ (hstep_bounds _ _)
/-! spec_KeyedHash -/
theorem spec_KeyedHash.ev (a : Int) (l : List Int) (hl : l.length ≤ 1000000000000) : Ev (fun k => spec_KeyedHash.f k a l) (M.keyed a l) := by
  unfold spec_KeyedHash.f
  simp only [Option.bind_some]
  exact Ev.yes (by simp; omega) (Ev.yes (by simp; omega) (Ev.bind (spec_Hash.ev _ (by simp; omega)) (Ev.now _)))
/-! spec_Max -/
theorem spec_Max.eq (a b : Int) : spec_Max.f a b = some (if b > a then b else a) := by unfold spec_Max.f; split <;> rfl
/-! spec_DeriveKey -/
theorem spec_DeriveKey.ev (a : Int) (l : List Int) (hl : l.length ≤ 100000000000) : Ev (fun k => spec_DeriveKey.f k a l) (M.derive a l) := by
  unfold spec_DeriveKey.f
  simp only [Option.bind_some]
  refine Ev.yes (by simp; omega) (Ev.bind (spec_KeyedHash.ev _ _ (by simp; omega)) ?_)
  simp only [spec_Max.eq, Option.bind_some]
  exact Ev.eq (orOne_max _ (hash_bounds _).1)
/-! spec_l18Key -/
theorem spec_l18Key.ev (key e v : Int) : Ev (fun k => spec_l18Key.f k key e v) (M.sealKey key e v) := by
  unfold spec_l18Key.f; exact Ev.bind (spec_DeriveKey.ev key _ (by simp)) (Ev.now _)
/-! bits -/
theorem and127 (n : Int) : Go.bits .and .i64 n 127 = n % 128 := Go.i64_and127 n
theorem or128 {y : Int} (h0 : 0 ≤ y) (h1 : y < 128) : Go.bits .or .i64 y 128 = y + 128 := by
  have hc : Go.bits .or .i64 y 128 = Go.bits .or .i64 128 y := by simp only [Go.bits, BitVec.or_comm]
  rw [hc, Go.bits_join .i64 8 (by decide) (fun n h0 h1 => by rw [Go.IntKind.wrap_i64]; omega) 7 128 y (by decide) (by decide) (by decide) h0 (by omega) (by omega)]
  omega
/-! spec_AppendUvarint -/
theorem spec_AppendUvarint.loop (n : Nat) : ∀ (o : List Int), o.length + n ≤ 100000000000000 → Ev (fun k => spec_AppendUvarint.l0 k (n : Int) o) (o ++ M.uvl n) := by
  induction n using Nat.strongRecOn with
  | _ n ih =>
  intro o ho
  refine Ev.round ?_
  simp only [spec_AppendUvarint.l0, and127]
  refine Ev.ite (fun h => Ev.yes (by omega) ?_) (fun h => Ev.yes (by omega) (Ev.eq ?_))
  · rw [or128 (by omega) (by omega), uvl_ge (by omega), show ((n : Int) / 128) = ((n / 128 : Nat) : Int) by omega, show (((n : Int) % 128 + 128) % 256) = ((n % 128 + 128 : Nat) : Int) by omega]
    refine Ev.conv (ih (n / 128) (by omega) _ (by simp; omega)) (by simp)
  · rw [uvl_lt (by omega), show (n : Int) % 256 = n by omega]
theorem spec_AppendUvarint.ev (l : List Int) (n : Int) (hl : l.length ≤ 10000000000000) : Ev (fun k => spec_AppendUvarint.f k l n) (l ++ M.uv n) := by
  unfold spec_AppendUvarint.f
  simp only [bind_some_, spec_l1In.eq]
  refine Ev.yes (by simp; omega) ?_
  unfold M.uv
  refine Ev.ite (fun h => ?_) (fun h => ?_)
  · rw [inr_true] at h
    rw [if_pos h]
    obtain ⟨m, rfl⟩ := Int.eq_ofNat_of_zero_le h.1
    exact Ev.conv (spec_AppendUvarint.loop m _ (by simp; omega)) (by simp)
  · rw [inr_true] at h
    rw [if_neg h]; exact Ev.eq (by simp)
/-! spec_EncodeInts -/
theorem spec_EncodeInts.ev (l : List Int) (hl : l.length ≤ 1000000000) : Ev (fun k => spec_EncodeInts.f k l) (M.encInts l) := by
  unfold spec_EncodeInts.f
  refine Ev.conv (Ev.loop (fun k i o => spec_EncodeInts.l0 k l o (i : Int)) l.length (fun i o => o ++ M.encInts (l.drop i)) (fun i o => o.length ≤ 6 * i) ?_ ?_ 0 [] (by omega) (by simp)) (by simp)
  · intro o ho
    refine Ev.round ?_
    simp only [spec_EncodeInts.l0]
    exact Ev.no (by omega) (Ev.eq (by rw [drop_end]; simp [M.encInts]))
  · intro i o hi ho ih
    have := uv_len l[i]
    refine Ev.round ?_
    simp only [spec_EncodeInts.l0, rd_get hi, wrap_succ hi (by omega : l.length ≤ _)]
    rw [drop_get hi, encInts_cons, ← List.append_assoc]
    exact Ev.yes (by omega) (Ev.yes (by omega) (Ev.bind (spec_AppendUvarint.ev o _ (by omega)) (ih _ (by simp; omega))))
/-! spec_EncodeBundle -/
theorem spec_EncodeBundle.ev (l : List S94) (hl : l.length ≤ 1048576) : Ev (fun k => spec_EncodeBundle.f k l) (M.encB l) := by
  unfold spec_EncodeBundle.f
  refine Ev.bind (spec_IsBundle.ev l hl) (Ev.ite (fun h => ?_) (fun h => Ev.eq (by unfold M.encB; rw [if_neg h])))
  have h20 := isBundle_len h
  unfold M.encB; rw [if_pos h]
  refine Ev.conv (Ev.loop (fun k i o => spec_EncodeBundle.l0 k o (i : Int) l) l.length (fun i o => M.encInts (o ++ (l.drop i).flatMap M.entryInts)) (fun i o => o.length = 4 * i + 1) ?_ ?_ 0 [(l.length : Int)] (by omega) (by simp)) (by simp [M.bundleInts])
  · intro o ho
    refine Ev.round ?_
    simp only [spec_EncodeBundle.l0]
    refine Ev.no (by omega) (Ev.bind (spec_EncodeInts.ev o (by omega)) (Ev.eq (by rw [drop_end]; simp)))
  · intro i o hi ho ih
    refine Ev.round ?_
    simp only [spec_EncodeBundle.l0, rd_Entry hi, wrap_succ hi (by omega : l.length ≤ _), bind_some_]
    rw [drop_get hi, List.flatMap_cons, ← List.append_assoc]
    refine Ev.yes (by omega) (Ev.yes (by omega) (Ev.ite (fun h => Ev.yes (by simp; omega) ?_) (fun h => Ev.yes (by simp; omega) ?_)))
    · exact Ev.conv (ih _ (by simp; omega)) (by simp [M.entryInts, M.bit, h])
    · exact Ev.conv (ih _ (by simp; omega)) (by simp [M.entryInts, M.bit, h])
/-! spec_Encrypt -/
theorem spec_Encrypt.ev (key : Int) (l : List Int) (hl : l.length ≤ 1048576) (hb : M.byt l) : Ev (fun k => spec_Encrypt.f k key l) (M.enc key 0 l) := by
  unfold spec_Encrypt.f
  refine Ev.conv (Ev.loop (fun k i o => spec_Encrypt.l0 k key l o (i : Int)) l.length (fun i o => o ++ M.enc key i (l.drop i)) (fun i o => o.length = i) ?_ ?_ 0 [] (by omega) rfl) (by simp)
  · intro o ho
    refine Ev.round ?_
    simp only [spec_Encrypt.l0]
    exact Ev.no (by omega) (Ev.eq (by rw [drop_end]; simp [M.enc]))
  · intro i o hi ho ih
    refine Ev.round ?_
    simp only [spec_Encrypt.l0, rd_get hi, wrap_succ hi (by omega : l.length ≤ _)]
    rw [drop_get hi, M.enc]
    refine Ev.yes (by omega) (Ev.yes (by omega) (Ev.bind (spec_KeyedHash.ev key _ (by simp)) (Ev.yes (by omega) ?_)))
    rw [enc_s (byt_get hb hi) (keyed_bounds _ _)]
    exact Ev.conv (ih _ (by simp [ho])) (by simp)
/-! spec_BytesToInts -/
theorem spec_BytesToInts.ev (l : List Int) (hl : l.length ≤ 1048576) : Ev (fun k => spec_BytesToInts.f k l) (M.bytesInts l) := by
  unfold spec_BytesToInts.f
  refine Ev.conv (Ev.loop (fun k i x => spec_BytesToInts.l0 k l x (i : Int)) l.length (fun i x => x ++ (l.drop i).map wrap64) (fun i x => x.length = i + 1) ?_ ?_ 0 [(l.length : Int)] (by omega) (by simp)) (by simp [M.bytesInts])
  · intro x hx
    refine Ev.round ?_
    simp only [spec_BytesToInts.l0]
    exact Ev.no (by omega) (Ev.eq (by rw [drop_end]; simp))
  · intro i x hi hx ih
    refine Ev.round ?_
    simp only [spec_BytesToInts.l0, rd_get hi, wrap_succ hi (by omega : l.length ≤ _)]
    refine Ev.yes (by omega) (Ev.yes (by omega) (Ev.yes (by omega) ?_))
    refine Ev.conv (ih _ (by simp [hx])) (by rw [drop_get hi, List.map_cons, List.append_assoc]; rfl)
/-! spec_BundleMAC -/
theorem spec_BundleMAC.ev (key e v : Int) (l : List Int) (m : Int) (hl : l.length ≤ 1048576) : Ev (fun k => spec_BundleMAC.f k key e v l m) (M.bundleMAC key e v l) := by
  unfold spec_BundleMAC.f
  simp only [bind_some_]
  exact Ev.bind (spec_BytesToInts.ev l hl) (Ev.yes (by simp [bytesInts_len]; omega) (Ev.bind (spec_KeyedHash.ev _ _ (by simp [bytesInts_len]; omega)) (Ev.now _)))
/-! spec_SealBundle -/
theorem spec_SealBundle.ev (key e v : Int) (l : List S94) (hl : l.length ≤ 1048576) : Ev (fun k => spec_SealBundle.f k key e v l) (M.seal key e v l) := by
  unfold spec_SealBundle.f
  have no : ¬ (M.sealOk key e v = true ∧ M.isBundle l = true) → Ev (fun k => spec_SealBundle.j0 k key e v true l) (M.seal key e v l) := by
    intro h
    refine Ev.round ?_
    simp only [spec_SealBundle.j0]
    exact Ev.yes (by trivial) (Ev.eq (by unfold M.seal; rw [if_neg h]))
  refine Ev.bindc (spec_l18Range.eq ..) (Ev.ite (fun h => Ev.bind (spec_IsBundle.ev l hl) ?_) (fun h => no (fun hh => h hh.1)))
  cases h2 : M.isBundle l with
  | false => exact no (fun hh => by rw [h2] at hh; cases hh.2)
  | true =>
    have := encB_len l
    refine Ev.round ?_
    simp only [spec_SealBundle.j0]
    refine Ev.no (by simp) (Ev.bind (spec_l18Key.ev ..) (Ev.bind (spec_EncodeBundle.ev l hl) (Ev.bind (spec_Encrypt.ev _ _ (by omega) (encB_byt l)) (Ev.bind (spec_BundleMAC.ev _ _ _ _ _ (by rw [enc_len]; omega)) (Ev.eq ?_)))))
    unfold M.seal; rw [if_pos ⟨h, h2⟩]

/-! the law -/
theorem FnSealedBundles : ∀ (l0 : List Int), (l0.length ≤ 9223372036854775807 ∧ ∀ x ∈ l0, (Lit.int .u8 x).wf = true) → ∃ k, laws_FnSealedBundles.f k l0 = some true := by
  intro l h0
  apply Ev.rounds (r := true)
  unfold laws_FnSealedBundles.f
  simp only [laws_big.eq, bind_some_]
  refine Ev.ite (fun _ => Ev.now _) (fun hbig => ?_)
  have hl : l.length ≤ 1048576 := by simp at hbig; omega
  refine Ev.drawn (spec_DrawSealBundle.ex l hl) ?_
  rintro ⟨key, e, v, b⟩ hb
  simp only at hb ⊢
  refine Ev.bind (impl_SealBundle.ev key e v b (by omega)) (Ev.bind (spec_SealBundle.ev key e v b (by omega)) (Ev.no (by simp) ?_))
  by_cases hok : M.sealOk key e v = true ∧ M.isBundle b = true
  · have hS : M.seal key e v b = (e, v, M.enc (M.sealKey key e v) 0 (M.encB b), M.bundleMAC key e v (M.enc (M.sealKey key e v) 0 (M.encB b)), true) := by unfold M.seal; rw [if_pos hok]
    have hsm := seal_small key e v b
    rw [hS] at hsm ⊢
    simp only at hsm ⊢
    obtain ⟨d, hd⟩ : ∃ d, d = M.enc (M.sealKey key e v) 0 (M.encB b) := ⟨_, rfl⟩
    rw [← hd] at hsm ⊢
    obtain ⟨hdl, hdb⟩ := hsm
    have hkv : (1 ≤ key ∧ key ≤ 2147483646) ∧ (0 ≤ e ∧ e ≤ 1000000) ∧ (0 ≤ v ∧ v ≤ 1000000) := by
      have := hok.1
      simpa [M.sealOk, M.validKey, inr_true] using this
    have hlen := isBundle_len hok.2
    -- opened with its key
    have hO1 : M.open key e v d (M.bundleMAC key e v d) = (b, true) := by
      unfold M.open; rw [if_pos ⟨hok.1, rfl⟩, hd, dec_enc _ _ _ (encB_byt b), decB_encB hok.2]
    -- another key
    have hk2 : wrap64 (1 + (Int.tmod (wrap64 (key + 7)) 5000)) = 1 + (key + 7) % 5000 := by
      rw [wrap_in (n := key + 7) (by omega) (by omega), tmod_pos _ _ (by omega), wrap_in (by omega) (by omega)]
    have hne : (1 + (key + 7) % 5000) ≠ key := by omega
    have hO2 : (M.open (1 + (key + 7) % 5000) e v d (M.bundleMAC key e v d)).2 = false := by
      unfold M.open; rw [if_neg]
      rintro ⟨_, hm⟩
      unfold M.bundleMAC at hm
      have := keyed_other (by simp [bytesInts_len]; omega) (by omega) (by omega) hm
      omega
    -- another version
    have hv2 : Int.tmod (wrap64 (v + 1)) 1000 = (v + 1) % 1000 := by rw [wrap_in (by omega) (by omega), tmod_pos _ _ (by omega)]
    have hvne : (v + 1) % 1000 ≠ v := by omega
    have hO3 : (M.open key e ((v + 1) % 1000) d (M.bundleMAC key e v d)).2 = false := by
      unfold M.open; rw [if_neg]
      rintro ⟨_, hm⟩
      unfold M.bundleMAC M.keyed at hm
      have := hash_mid (pre := [key, 227, e]) (post := M.bytesInts d ++ [key]) (v := v) (w := (v + 1) % 1000) (by omega) (by omega) (by simpa using hm)
      omega
    have O1 := impl_OpenBundle.ev key e v d (M.bundleMAC key e v d) (by omega) hdb
    have O2 := impl_OpenBundle.ev (1 + (key + 7) % 5000) e v d (M.bundleMAC key e v d) (by omega) hdb
    have O3 := impl_OpenBundle.ev key e ((v + 1) % 1000) d (M.bundleMAC key e v d) (by omega) hdb
    have hel := encB_len b
    have E1 := impl_EncodeBundle.ev b (by omega)
    have D1 := impl_DecodeBundle.ev (M.encB b) (by omega) (encB_byt b)
    rw [decB_encB hok.2] at D1
    rw [hO1] at O1
    have Q1 := impl_EqualBundles.ev b b (by omega) (by omega)
    rw [(eqEs_iff _ _).2 rfl] at Q1
    rw [hk2, hv2]
    refine Ev.yes trivial (Ev.bind O1 (Ev.bind O2 (Ev.bind O3 (Ev.bind E1 (Ev.bind D1 (Ev.yes rfl (Ev.bind Q1 (Ev.yes rfl (Ev.yes ?_ (Ev.yes ?_ (Ev.yes rfl (Ev.bind Q1 (Ev.yes rfl ?_)))))))))))))
    · rw [hO2]; simp [hne]
    · rw [hO3]; simp [hvne]
    · simp only [impl_IsFresher.eq, impl_EqualSealed.eq, bind_some_]
      refine Ev.no (by unfold M.fresher; simp) (Ev.eq ?_)
      unfold M.equalSealed M.eqb; simp
  · have hS : M.seal key e v b = (0, 0, [], 0, false) := by unfold M.seal; rw [if_neg hok]
    rw [hS]
    exact Ev.no (by simp) (Ev.eq (by simp))
end Go.Proofs.Ytpgjecknkmmnhaa.Pure
