/- The program's EpochKey returns what the reference's returns, for all arguments. -/
import Derived.Test.YtghbdajdmdcoiaaPFnExactEpochKeyx2
namespace Go.Proofs.Ytghbdajdmdcoiaa.Pure
open Go.RowKit Go.Proofs.Ytghbdajdmdcoiaa.PFnExactEpochKey Go.Proofs.YtghbdajdmdcoiaaW.PrintWords Go.Proofs.YtghbdajdmdcoiaaW.PrintLast

/-! what the functions compute -/
def M.mod (a m : Int) : Int := if 1 ≤ m ∧ m ≤ 1000000000000 then a % m else 0
def M.hstep (h v : Int) : Int := (h * 1000003 + v % 2147483647 + 13) % 2147483647
def M.hash (l : List Int) : Int := l.foldl M.hstep 11
def M.keyed (a : Int) (l : List Int) : Int := M.hash ([a] ++ l ++ [a])
def M.orOne (a : Int) : Int := if a = 0 then 1 else a
def M.derive (a : Int) (l : List Int) : Int := M.orOne (M.keyed a ([151] ++ l))

theorem wrap_in {n : Int} (h1 : -9223372036854775808 ≤ n) (h2 : n ≤ 9223372036854775807) : wrap64 n = n := by unfold wrap64; omega
theorem tmod_bounds (a m : Int) (h : 1 ≤ m) : -m < Int.tmod a m ∧ Int.tmod a m < m := by
  have h1 := Int.tmod_lt_of_pos a (by omega : 0 < m)
  have h2 := Int.lt_tmod_of_pos a (by omega : 0 < m)
  exact ⟨h2, h1⟩
theorem tmod_emod (a m : Int) (h : 1 ≤ m) : Int.tmod a m = if Int.tmod a m < 0 then a % m - m else a % m := by
  rw [Int.tmod_eq_emod]
  have := Int.emod_nonneg a (by omega : m ≠ 0)
  have := Int.emod_lt_of_pos a (by omega : 0 < m)
  have e : ((m.natAbs : Nat) : Int) = m := by omega
  by_cases h0 : 0 ≤ a ∨ m ∣ a
  · rw [if_pos h0]
    split <;> omega
  · rw [if_neg h0, e]
    split <;> omega
theorem tmod_nonneg_emod (a m : Int) (h : 0 ≤ a) : Int.tmod a m = a % m := Int.tmod_eq_emod_of_nonneg h
theorem mod_add_self (a m : Int) (h : 1 ≤ m) : Int.tmod (Int.tmod a m + m) m = a % m := by
  have hb := tmod_bounds a m h
  have := Int.emod_nonneg a (by omega : m ≠ 0)
  have := Int.emod_lt_of_pos a (by omega : 0 < m)
  rw [tmod_nonneg_emod _ _ (by omega)]
  have e := tmod_emod a m h
  by_cases hn : Int.tmod a m < 0
  · rw [if_pos hn] at e; rw [e, show a % m - m + m = a % m by omega, Int.emod_emod_of_dvd _ (Int.dvd_refl m)]
  · rw [if_neg hn] at e; rw [e, Int.add_emod_right, Int.emod_emod_of_dvd _ (Int.dvd_refl m)]

theorem spec_l1In.eq (a b c : Int) : spec_l1In.f a b c = some (decide (b ≤ a ∧ a ≤ c)) := by
  unfold spec_l1In.f
  by_cases h : a ≥ b
  · rw [if_pos h]; simp [h]
  · rw [if_neg h]; have : ¬ b ≤ a := by omega
    simp [this]
theorem spec_Mod.eq (a m : Int) : spec_Mod.f a m = some (M.mod a m) := by
  unfold spec_Mod.f M.mod
  rw [spec_l1In.eq]; simp only [Option.bind_some]
  by_cases h : 1 ≤ m ∧ m ≤ 1000000000000
  · have hb := tmod_bounds a m h.1
    rw [if_pos (by simp [h]), if_neg (by omega), if_pos h, wrap_in (by omega) (by omega), mod_add_self a m h.1]
  · rw [if_neg (by simp; omega), if_neg h]
theorem impl_Mod.eq (k : Nat) (a m : Int) : impl_Mod.f (k + 1) a m = some (M.mod a m) := by
  unfold impl_Mod.f M.mod
  by_cases h : m < 1
  · rw [if_pos h, if_neg (by omega)]; simp only [impl_Mod.j0]; simp
  · rw [if_neg h]; simp only [impl_Mod.j0]
    by_cases h2 : m > 1000000000000
    · rw [if_pos (by simp [h2]), if_neg (by omega)]
    · have e := tmod_emod a m (by omega)
      have hb := tmod_bounds a m (by omega)
      rw [if_neg (by simp [h2]), if_neg (by omega), if_pos (⟨by omega, by omega⟩ : 1 ≤ m ∧ m ≤ 1000000000000)]
      by_cases hn : Int.tmod a m < 0
      · rw [if_pos hn, wrap_in (by omega) (by omega)]; rw [if_pos hn] at e; rw [e]; congr 1; omega
      · rw [if_neg hn] at e; rw [if_neg hn, e]
theorem impl_Mod.ev (a m : Int) : Ev (fun k => impl_Mod.f k a m) (M.mod a m) := Ev.step (f := fun _ => some (M.mod a m)) (impl_Mod.eq · a m) (Ev.now _)

theorem Ev.eq {α : Type} {r s : α} (h : r = s) : Ev (fun _ => some r) s := h ▸ Ev.now r
theorem hstep_bounds (h v : Int) : 0 ≤ M.hstep h v ∧ M.hstep h v < 2147483647 := ⟨Int.emod_nonneg _ (by decide), Int.emod_lt_of_pos _ (by decide)⟩
theorem hstep_eq (h v : Int) (h0 : 0 ≤ h) (h1 : h < 2147483647) : Int.tmod (wrap64 ((wrap64 ((wrap64 (h * 1000003)) + M.mod v 2147483647)) + 13)) 2147483647 = M.hstep h v := by
  have e : M.mod v 2147483647 = v % 2147483647 := by unfold M.mod; rw [if_pos (by omega)]
  have := Int.emod_nonneg v (by decide : (2147483647 : Int) ≠ 0)
  have := Int.emod_lt_of_pos v (by decide : 0 < (2147483647 : Int))
  rw [e, wrap_in (n := h * 1000003) (by omega) (by omega), wrap_in (n := _ + v % 2147483647) (by omega) (by omega), wrap_in (by omega) (by omega), tmod_nonneg_emod _ _ (by omega)]
  rfl
theorem rd_drop {l : List Int} {i : Nat} (h : i < l.length) : l.drop i = rd l i :: l.drop (i + 1) := by
  rw [List.drop_eq_getElem_cons h]; unfold rd; simp [h]
theorem wrap_succ {i n : Nat} (h : i < n) (hn : n ≤ 140737488355328) : wrap64 ((i : Int) + 1) = ((i + 1 : Nat) : Int) := by unfold wrap64; omega

theorem spec_Hash.evl (l : List Int) (hl : l.length ≤ 140737488355328) : ∀ (d i : Nat) (h : Int), i + d = l.length → 0 ≤ h → h < 2147483647 →
    Ev (fun k => spec_Hash.l0 k l h i) ((l.drop i).foldl M.hstep h) := by
  intro d
  induction d with
  | zero =>
    intro i h hi h0 h1
    refine Ev.step (f := fun _ => some h) (fun k => ?_) (Ev.eq ?_)
    · simp only [spec_Hash.l0]; rw [if_neg (by omega)]
    · rw [List.drop_eq_nil_of_le (by omega)]; rfl
  | succ d ih =>
    intro i h hi h0 h1
    refine Ev.step (f := fun k => spec_Hash.l0 k l (M.hstep h (rd l i)) ((i + 1 : Nat) : Int)) (fun k => ?_) ?_
    · simp only [spec_Hash.l0]
      rw [if_pos (by omega), if_pos (by omega), spec_Mod.eq, Option.bind_some, hstep_eq _ _ h0 h1, wrap_succ (by omega : i < l.length) hl]
    · rw [rd_drop (by omega)]
      exact ih (i + 1) _ (by omega) (hstep_bounds _ _).1 (hstep_bounds _ _).2
theorem spec_Hash.ev (l : List Int) (hl : l.length ≤ 140737488355328) : Ev (fun k => spec_Hash.f k l) (M.hash l) := by
  have := spec_Hash.evl l hl l.length 0 11 (by omega) (by omega) (by omega)
  exact this
theorem impl_Hash.evl (l : List Int) (hl : l.length ≤ 140737488355328) : ∀ (d i : Nat) (h : Int), i + d = l.length → 0 ≤ h → h < 2147483647 →
    Ev (fun k => impl_Hash.l0 k h l l.length i) ((l.drop i).foldl M.hstep h) := by
  intro d
  induction d with
  | zero =>
    intro i h hi h0 h1
    refine Ev.step (f := fun _ => some h) (fun k => ?_) (Ev.eq ?_)
    · simp only [impl_Hash.l0]; rw [if_neg (by omega)]
    · rw [List.drop_eq_nil_of_le (by omega)]; rfl
  | succ d ih =>
    intro i h hi h0 h1
    refine Ev.step (f := fun k => (impl_Mod.f k (rd l i) 2147483647).bind fun t => impl_Hash.l0 k (Int.tmod (wrap64 ((wrap64 ((wrap64 (h * 1000003)) + t)) + 13)) 2147483647) l l.length ((i + 1 : Nat) : Int)) (fun k => ?_) ?_
    · simp only [impl_Hash.l0]
      rw [if_pos (by omega), if_pos (by omega), if_pos (by omega), wrap_succ (by omega : i < l.length) hl]
    · refine Ev.bind (impl_Mod.ev _ _) ?_
      rw [rd_drop (by omega), hstep_eq _ _ h0 h1]
      exact ih (i + 1) _ (by omega) (hstep_bounds _ _).1 (hstep_bounds _ _).2
theorem impl_Hash.ev (l : List Int) (hl : l.length ≤ 140737488355328) : Ev (fun k => impl_Hash.f k l) (M.hash l) := by
  have := impl_Hash.evl l hl l.length 0 11 (by omega) (by omega) (by omega)
  exact this

theorem Ev.if_pos {α : Type} {c : Prop} [Decidable c] {g f : Nat → Option α} {r : α} (h : c) (k : Ev g r) : Ev (fun n => if c then g n else f n) r := by simpa [h] using k
theorem Ev.if_neg {α : Type} {c : Prop} [Decidable c] {g f : Nat → Option α} {r : α} (h : ¬ c) (k : Ev f r) : Ev (fun n => if c then g n else f n) r := by simpa [h] using k
theorem Ev.some_bind {α β : Type} {a : α} {f : Nat → α → Option β} {r : β} (k : Ev (fun n => f n a) r) : Ev (fun n => (some a).bind (f n)) r := k

theorem spec_KeyedHash.ev (a : Int) (l : List Int) (hl : l.length ≤ 1000000000000) : Ev (fun k => spec_KeyedHash.f k a l) (M.keyed a l) := by
  unfold spec_KeyedHash.f
  simp only [Option.bind_some]
  refine Ev.if_pos (by simp; omega) (Ev.if_pos (by simp; omega) (Ev.bind (spec_Hash.ev _ (by simp; omega)) (Ev.now _)))
theorem orOne_max (a : Int) (h : 0 ≤ a) : (if a > 1 then a else 1) = M.orOne a := by unfold M.orOne; split <;> split <;> omega
theorem hash_bounds (l : List Int) : 0 ≤ M.hash l ∧ M.hash l < 2147483647 := by
  unfold M.hash
  have : ∀ (l : List Int) (h : Int), 0 ≤ h ∧ h < 2147483647 → 0 ≤ l.foldl M.hstep h ∧ l.foldl M.hstep h < 2147483647 := by
    intro l
    induction l with
    | nil => intro h hh; exact hh
    | cons x l ih => intro h hh; exact ih _ (hstep_bounds _ _)
  exact this l 11 (by omega)
theorem spec_Max.eq (a b : Int) : spec_Max.f a b = some (if b > a then b else a) := by unfold spec_Max.f; split <;> rfl
theorem impl_orOne.eq (a : Int) : impl_orOne.f a = some (M.orOne a) := by unfold impl_orOne.f M.orOne; split <;> rfl
theorem spec_DeriveKey.ev (a : Int) (l : List Int) (hl : l.length ≤ 100000000000) : Ev (fun k => spec_DeriveKey.f k a l) (M.derive a l) := by
  unfold spec_DeriveKey.f
  simp only [Option.bind_some]
  refine Ev.if_pos (by simp; omega) (Ev.bind (spec_KeyedHash.ev _ _ (by simp; omega)) ?_)
  simp only [spec_Max.eq, Option.bind_some]
  exact Ev.eq (orOne_max _ (hash_bounds _).1)

def M.joined (l : List Int) (ls : List (List Int)) : List Int := l ++ ls.flatten
theorem rdL_drop {ls : List (List Int)} {i : Nat} (h : i < ls.length) : ls.drop i = rd_L1 ls i :: ls.drop (i + 1) := by
  rw [List.drop_eq_getElem_cons h]; unfold rd_L1; simp [h]
theorem impl_joined.evl (ls : List (List Int)) (hn : ls.length ≤ 1000000) : ∀ (d i : Nat) (x : List Int), i + d = ls.length → x.length + ((ls.drop i).flatten).length < 17592186044416 →
    Ev (fun k => impl_joined.l0 k x ls ls.length i) (x ++ (ls.drop i).flatten) := by
  intro d
  induction d with
  | zero =>
    intro i x hi hx
    refine Ev.step (f := fun _ => some x) (fun k => ?_) (Ev.eq ?_)
    · simp only [impl_joined.l0]; rw [_root_.if_neg (by omega)]
    · rw [List.drop_eq_nil_of_le (by omega)]; simp
  | succ d ih =>
    intro i x hi hx
    rw [rdL_drop (by omega)] at hx ⊢
    simp only [List.flatten_cons, List.length_append] at hx
    refine Ev.step (f := fun k => impl_joined.l0 k (x ++ rd_L1 ls i) ls ls.length ((i + 1 : Nat) : Int)) (fun k => ?_) ?_
    · simp only [impl_joined.l0]
      rw [_root_.if_pos (by omega), _root_.if_pos (by omega), _root_.if_pos (by omega), _root_.if_pos (by omega), wrap_succ (by omega : i < ls.length) (by omega)]
    · have := ih (i + 1) (x ++ rd_L1 ls i) (by omega) (by simp only [List.length_append]; omega)
      simpa [List.append_assoc] using this
theorem impl_joined.ev (l : List Int) (ls : List (List Int)) (hn : ls.length ≤ 1000000) (hl : l.length + (ls.flatten).length < 17592186044416) : Ev (fun k => impl_joined.f k l ls) (M.joined l ls) := by
  unfold impl_joined.f
  simp only [Option.bind_some]
  refine Ev.if_pos (by simp; omega) ?_
  have := impl_joined.evl ls hn ls.length 0 ([] ++ l) (by omega) (by simpa using hl)
  simpa [M.joined] using this
theorem impl_KeyedHash.ev (a : Int) (l : List Int) (hl : l.length ≤ 1000000000000) : Ev (fun k => impl_KeyedHash.f k a l) (M.keyed a l) := by
  unfold impl_KeyedHash.f
  refine Ev.bind (impl_joined.ev _ _ (by simp) (by simp; omega)) (Ev.bind (impl_Hash.ev _ (by simp [M.joined]; omega)) (Ev.eq ?_))
  simp [M.joined, M.keyed]
theorem impl_DeriveKey.ev (a : Int) (l : List Int) (hl : l.length ≤ 100000000000) : Ev (fun k => impl_DeriveKey.f k a l) (M.derive a l) := by
  unfold impl_DeriveKey.f
  refine Ev.bind (impl_joined.ev _ _ (by simp) (by simp; omega)) (Ev.bind (impl_KeyedHash.ev _ _ (by simp [M.joined]; omega)) ?_)
  simp only [impl_orOne.eq, Option.bind_some]
  exact Ev.eq (by simp [M.derive, M.joined])

theorem FnExactEpochKey : laws_FnExactEpochKey.Pure := by
  intro a b _ _
  apply Ev.rounds (r := true)
  unfold laws_FnExactEpochKey.f spec_EpochKey.f impl_EpochKey.f
  refine Ev.bind (Ev.bind (spec_DeriveKey.ev _ _ (by simp)) (Ev.now _)) (Ev.bind (Ev.bind (impl_DeriveKey.ev _ _ (by simp)) (Ev.now _)) ?_)
  exact Ev.if_pos rfl (Ev.now _)

end Go.Proofs.Ytghbdajdmdcoiaa.Pure
