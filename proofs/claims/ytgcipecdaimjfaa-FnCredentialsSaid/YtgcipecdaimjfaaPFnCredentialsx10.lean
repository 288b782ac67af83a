/- Printed functions of the program (by a changed copy of the printer). No condition. -/
import Derived.Test.YtgcipecdaimjfaaCmp
import Derived.Test.YtgcipecdaimjfaaPFnCredentialsx0
import Derived.Test.YtgcipecdaimjfaaPFnCredentialsx9
namespace Go.Proofs.Ytgcipecdaimjfaa.PFnCredentials
open Go.Proofs.Ytgcipecdaimjfaa
open Go.RowKit Go.Proofs.YtgcipecdaimjfaaW.PrintWords Go.Proofs.YtgcipecdaimjfaaW.PrintLast Go.Proofs.YtgcipecdaimjfaaW.PrintMore
attribute [local go_sem] max2_int min2_int max_two min_two max_three min_three max_four min_four   -- for this text's walks alone
set_option linter.unusedVariables false
set_option linter.unusedSimpArgs false

/-! ### impl_IsValidAccount: function 16 -/
mutual
def impl_IsValidAccount.j0 : Nat → Bool → Int → Int → List (S35) → Option (Bool)
  | 0, _, _, _, _ => none
  | k + 1, x22, x407000, x407001, x407002 => if x22 = true then (some false) else (impl_IsValidAccount.l0 k x407002 (x407002.length : Int) 0 x407000 x407001 x407002)
def impl_IsValidAccount.l0 : Nat → List (S35) → Int → Int → Int → Int → List (S35) → Option (Bool)
  | 0, _, _, _, _, _, _ => none
  | k + 1, x24, x25, x26, x407000, x407001, x407002 => if x26 < x25 then (if 0 ≤ x26 then (if x26 < (x24.length : Int) then ((impl_InRange.f ((rd_T35 x24 x26).f0) 0 1000000).bind fun t411 => (if t411 = true then (if x26 > 0 then (if 0 ≤ (wrap64 (x26 - 1)) then (if (wrap64 (x26 - 1)) < (x407002.length : Int) then (if ((rd_T35 x407002 (wrap64 (x26 - 1))).f0) ≥ ((rd_T35 x24 x26).f0) then (impl_IsValidAccount.j2 k x26 x24 x25 x26 true x407000 x407001 x407002 ((rd_T35 x24 x26).f0) ((rd_T35 x24 x26).f1) ((rd_T35 x24 x26).f2) ((rd_T35 x24 x26).f3)) else ((impl_PrivateKey.f k ((rd_T35 x24 x26).f1)).bind fun t413 => (if t413 = 0 then (impl_IsValidAccount.j2 k x26 x24 x25 x26 true x407000 x407001 x407002 ((rd_T35 x24 x26).f0) ((rd_T35 x24 x26).f1) ((rd_T35 x24 x26).f2) ((rd_T35 x24 x26).f3)) else ((impl_InRange.f ((rd_T35 x24 x26).f2) 0 1000000).bind fun t414 => (impl_IsValidAccount.j2 k x26 x24 x25 x26 (!t414) x407000 x407001 x407002 ((rd_T35 x24 x26).f0) ((rd_T35 x24 x26).f1) ((rd_T35 x24 x26).f2) ((rd_T35 x24 x26).f3)))))) else (none)) else (none)) else ((impl_PrivateKey.f k ((rd_T35 x24 x26).f1)).bind fun t415 => (if t415 = 0 then (impl_IsValidAccount.j2 k x26 x24 x25 x26 true x407000 x407001 x407002 ((rd_T35 x24 x26).f0) ((rd_T35 x24 x26).f1) ((rd_T35 x24 x26).f2) ((rd_T35 x24 x26).f3)) else ((impl_InRange.f ((rd_T35 x24 x26).f2) 0 1000000).bind fun t416 => (impl_IsValidAccount.j2 k x26 x24 x25 x26 (!t416) x407000 x407001 x407002 ((rd_T35 x24 x26).f0) ((rd_T35 x24 x26).f1) ((rd_T35 x24 x26).f2) ((rd_T35 x24 x26).f3)))))) else (impl_IsValidAccount.j2 k x26 x24 x25 x26 true x407000 x407001 x407002 ((rd_T35 x24 x26).f0) ((rd_T35 x24 x26).f1) ((rd_T35 x24 x26).f2) ((rd_T35 x24 x26).f3)))) else (none)) else (none)) else (some true)
def impl_IsValidAccount.j2 : Nat → Int → List (S35) → Int → Int → Bool → Int → Int → List (S35) → Int → Int → Int → Bool → Option (Bool)
  | 0, _, _, _, _, _, _, _, _, _, _, _, _ => none
  | k + 1, x3, x24, x25, x26, x62, x407000, x407001, x407002, x411000, x411001, x411002, x411003 => if x62 = true then (some false) else (if 0 ≤ x3 then (if x3 ≤ (x407002.length : Int) then ((some (x407002.take (x3 : Int).toNat : List (S35))).bind fun y417 => (impl_IsValidAccount.l1 k x24 x25 x26 y417 (y417.length : Int) 0 x407000 x407001 x407002 x411000 x411001 x411002 x411003)) else (none)) else (none))
def impl_IsValidAccount.l1 : Nat → List (S35) → Int → Int → List (S35) → Int → Int → Int → Int → List (S35) → Int → Int → Int → Bool → Option (Bool)
  | 0, _, _, _, _, _, _, _, _, _, _, _, _, _ => none
  | k + 1, x24, x25, x26, x66, x67, x68, x407000, x407001, x407002, x411000, x411001, x411002, x411003 => if x68 < x67 then (if 0 ≤ x68 then (if x68 < (x66.length : Int) then (if ((rd_T35 x66 x68).f1) = x411001 then (some false) else (impl_IsValidAccount.l1 k x24 x25 x26 x66 x67 (wrap64 (x68 + 1)) x407000 x407001 x407002 x411000 x411001 x411002 x411003)) else (none)) else (none)) else (impl_IsValidAccount.l0 k x24 x25 (wrap64 (x26 + 1)) x407000 x407001 x407002)
end
def impl_IsValidAccount.f (k : Nat) (a0_0 : Int) (a0_1 : Int) (l0_2 : List (S35)) : Option (Bool) := (impl_InRange.f a0_0 0 1000000).bind fun t407 => (if t407 = true then ((impl_InRange.f a0_1 1 3).bind fun t408 => (if t408 = true then (impl_IsValidAccount.j0 k (decide ((l0_2.length : Int) > 8)) a0_0 a0_1 l0_2) else (impl_IsValidAccount.j0 k true a0_0 a0_1 l0_2))) else (impl_IsValidAccount.j0 k true a0_0 a0_1 l0_2))
theorem impl_IsValidAccount.mono_l : ∀ k, (∀ y0 y1 y2 y3, LeO (impl_IsValidAccount.j0 k y0 y1 y2 y3) (impl_IsValidAccount.j0 (k + 1) y0 y1 y2 y3)) ∧ (∀ y0 y1 y2 y3 y4 y5, LeO (impl_IsValidAccount.l0 k y0 y1 y2 y3 y4 y5) (impl_IsValidAccount.l0 (k + 1) y0 y1 y2 y3 y4 y5)) ∧ (∀ y0 y1 y2 y3 y4 y5 y6 y7 y8 y9 y10 y11, LeO (impl_IsValidAccount.j2 k y0 y1 y2 y3 y4 y5 y6 y7 y8 y9 y10 y11) (impl_IsValidAccount.j2 (k + 1) y0 y1 y2 y3 y4 y5 y6 y7 y8 y9 y10 y11)) ∧ (∀ y0 y1 y2 y3 y4 y5 y6 y7 y8 y9 y10 y11 y12, LeO (impl_IsValidAccount.l1 k y0 y1 y2 y3 y4 y5 y6 y7 y8 y9 y10 y11 y12) (impl_IsValidAccount.l1 (k + 1) y0 y1 y2 y3 y4 y5 y6 y7 y8 y9 y10 y11 y12))
  | 0 => ⟨fun _ _ _ _ r h => by simp [impl_IsValidAccount.j0] at h, fun _ _ _ _ _ _ r h => by simp [impl_IsValidAccount.l0] at h, fun _ _ _ _ _ _ _ _ _ _ _ _ r h => by simp [impl_IsValidAccount.j2] at h, fun _ _ _ _ _ _ _ _ _ _ _ _ _ r h => by simp [impl_IsValidAccount.l1] at h⟩
  | k + 1 => by
    obtain ⟨ih0, ih1, ih2, ih3⟩ := impl_IsValidAccount.mono_l k
    refine ⟨?_, ?_, ?_, ?_⟩
    · intro y0 y1 y2 y3
      unfold impl_IsValidAccount.j0
      repeat' first
      | (with_reducible exact ih0 _ _ _ _)
      | (with_reducible exact ih1 _ _ _ _ _ _)
      | (with_reducible exact ih2 _ _ _ _ _ _ _ _ _ _ _ _)
      | (with_reducible exact ih3 _ _ _ _ _ _ _ _ _ _ _ _ _)
      | (with_reducible exact impl_PrivateKey.mono _ _)
      | (with_reducible exact LeO.refl _)
      | (with_reducible exact LeO.none _)
      | (with_reducible refine LeO.ite ?_ ?_)
      | (with_reducible refine LeO.bind ?_ (fun _ => ?_))
      | exact ih0 _ _ _ _
      | exact ih1 _ _ _ _ _ _
      | exact ih2 _ _ _ _ _ _ _ _ _ _ _ _
      | exact ih3 _ _ _ _ _ _ _ _ _ _ _ _ _
      | exact impl_PrivateKey.mono _ _
      | exact LeO.none _
      | refine LeO.ite ?_ ?_
      | refine LeO.bind ?_ (fun _ => ?_)
    · intro y0 y1 y2 y3 y4 y5
      unfold impl_IsValidAccount.l0
      repeat' first
      | (with_reducible exact ih0 _ _ _ _)
      | (with_reducible exact ih1 _ _ _ _ _ _)
      | (with_reducible exact ih2 _ _ _ _ _ _ _ _ _ _ _ _)
      | (with_reducible exact ih3 _ _ _ _ _ _ _ _ _ _ _ _ _)
      | (with_reducible exact impl_PrivateKey.mono _ _)
      | (with_reducible exact LeO.refl _)
      | (with_reducible exact LeO.none _)
      | (with_reducible refine LeO.ite ?_ ?_)
      | (with_reducible refine LeO.bind ?_ (fun _ => ?_))
      | exact ih0 _ _ _ _
      | exact ih1 _ _ _ _ _ _
      | exact ih2 _ _ _ _ _ _ _ _ _ _ _ _
      | exact ih3 _ _ _ _ _ _ _ _ _ _ _ _ _
      | exact impl_PrivateKey.mono _ _
      | exact LeO.none _
      | refine LeO.ite ?_ ?_
      | refine LeO.bind ?_ (fun _ => ?_)
    · intro y0 y1 y2 y3 y4 y5 y6 y7 y8 y9 y10 y11
      unfold impl_IsValidAccount.j2
      repeat' first
      | (with_reducible exact ih0 _ _ _ _)
      | (with_reducible exact ih1 _ _ _ _ _ _)
      | (with_reducible exact ih2 _ _ _ _ _ _ _ _ _ _ _ _)
      | (with_reducible exact ih3 _ _ _ _ _ _ _ _ _ _ _ _ _)
      | (with_reducible exact impl_PrivateKey.mono _ _)
      | (with_reducible exact LeO.refl _)
      | (with_reducible exact LeO.none _)
      | (with_reducible refine LeO.ite ?_ ?_)
      | (with_reducible refine LeO.bind ?_ (fun _ => ?_))
      | exact ih0 _ _ _ _
      | exact ih1 _ _ _ _ _ _
      | exact ih2 _ _ _ _ _ _ _ _ _ _ _ _
      | exact ih3 _ _ _ _ _ _ _ _ _ _ _ _ _
      | exact impl_PrivateKey.mono _ _
      | exact LeO.none _
      | refine LeO.ite ?_ ?_
      | refine LeO.bind ?_ (fun _ => ?_)
    · intro y0 y1 y2 y3 y4 y5 y6 y7 y8 y9 y10 y11 y12
      unfold impl_IsValidAccount.l1
      repeat' first
      | (with_reducible exact ih0 _ _ _ _)
      | (with_reducible exact ih1 _ _ _ _ _ _)
      | (with_reducible exact ih2 _ _ _ _ _ _ _ _ _ _ _ _)
      | (with_reducible exact ih3 _ _ _ _ _ _ _ _ _ _ _ _ _)
      | (with_reducible exact impl_PrivateKey.mono _ _)
      | (with_reducible exact LeO.refl _)
      | (with_reducible exact LeO.none _)
      | (with_reducible refine LeO.ite ?_ ?_)
      | (with_reducible refine LeO.bind ?_ (fun _ => ?_))
      | exact ih0 _ _ _ _
      | exact ih1 _ _ _ _ _ _
      | exact ih2 _ _ _ _ _ _ _ _ _ _ _ _
      | exact ih3 _ _ _ _ _ _ _ _ _ _ _ _ _
      | exact impl_PrivateKey.mono _ _
      | exact LeO.none _
      | refine LeO.ite ?_ ?_
      | refine LeO.bind ?_ (fun _ => ?_)
theorem impl_IsValidAccount.mono : ∀ a0 a1 a2 k, LeO (impl_IsValidAccount.f k a0 a1 a2) (impl_IsValidAccount.f (k + 1) a0 a1 a2) := by
  intro a0 a1 a2 k
  obtain ⟨ih0, ih1, ih2, ih3⟩ := impl_IsValidAccount.mono_l k
  unfold impl_IsValidAccount.f
  repeat' first
      | (with_reducible exact ih0 _ _ _ _)
      | (with_reducible exact ih1 _ _ _ _ _ _)
      | (with_reducible exact ih2 _ _ _ _ _ _ _ _ _ _ _ _)
      | (with_reducible exact ih3 _ _ _ _ _ _ _ _ _ _ _ _ _)
      | (with_reducible exact impl_PrivateKey.mono _ _)
      | (with_reducible exact LeO.refl _)
      | (with_reducible exact LeO.none _)
      | (with_reducible refine LeO.ite ?_ ?_)
      | (with_reducible refine LeO.bind ?_ (fun _ => ?_))
      | exact ih0 _ _ _ _
      | exact ih1 _ _ _ _ _ _
      | exact ih2 _ _ _ _ _ _ _ _ _ _ _ _
      | exact ih3 _ _ _ _ _ _ _ _ _ _ _ _ _
      | exact impl_PrivateKey.mono _ _
      | exact LeO.none _
      | refine LeO.ite ?_ ?_
      | refine LeO.bind ?_ (fun _ => ?_)
def impl_IsValidAccount.T6 : Bool × List (List Nat × List Nat) := (true, [([], []), ([0], [0]), ([1], [1]), ([2], [2]), ([3, 2], [3]), ([4], [4]), ([5, 4], [4, 5]), ([6, 4, 4], [4, 6]), ([7], [7]), ([8, 7], [7, 8]), ([7], [7]), ([10, 7], [7, 10]), ([9, 11, 7], [7, 9, 11]), ([12, 7], [7, 12]), ([13, 7], [7, 13]), ([7], [7]), ([15, 7], [7, 15]), ([14, 16, 7], [7, 14, 16]), ([7, 17, 4], [4, 7, 17]), ([4, 18], [4, 18]), ([19, 7], [19]), ([20], [20]), ([21, 20], [20, 21]), ([22, 20, 20], [20, 22]), ([23, 20], [20, 23]), ([20, 24], [20, 24]), ([25, 23], [25]), ([26], [26]), ([27, 26], [26, 27]), ([28, 26, 26], [26, 28]), ([29, 26], [26, 29]), ([26, 30], [26, 30])])
def impl_IsValidAccount.B6 : List Nat := [0, 1, 3, 7, 15, 31, 63, 127, 255, 511, 255, 1279, 4095, 8191, 16383, 255, 33023, 131071, 262143, 524287, 1048575, 2097151, 4194303, 8388607, 16777215, 33554431, 67108863, 134217727, 268435455, 536870911, 1073741823, 2147483647]
theorem impl_IsValidAccount.tab6 : rtab .any (opsOf Try.f16 6) = impl_IsValidAccount.T6 := by kernel_rfl
theorem impl_IsValidAccount.bits6 : waitsOk impl_IsValidAccount.T6.2 impl_IsValidAccount.B6 = true := by kernel_rfl
set_option maxHeartbeats 8000000 in
set_option maxRecDepth 100000 in
theorem impl_IsValidAccount.calls (k : Nat) (a0_0 : Int) (a0_1 : Int) (A0_2 : Option Addr) (c0_2 : Nat) (l0_2 : List (S35)) (r : Bool) (w : World) (hr0_2 : Kd.C k35 w A0_2 l0_2.length l0_2) (hc0_2 : l0_2.length ≤ c0_2) (h : impl_IsValidAccount.f k a0_0 a0_1 l0_2 = some r) :
    Calls Try.prog 16 #[.agg #[.int .i64 a0_0, .int .i64 a0_1, .slice A0_2 l0_2.length c0_2]] w fun e w' => e = .returned (.bool r) ∧ Below w.heap.size w w' := by
 have hu26 := Try.underlying26; have hu35 := Try.underlying35; have Du := Aside0.mk hr0_2; have HC0_2 := Aside0.mk hc0_2; clear hr0_2 hc0_2
 have HB := Aside0.mk (Below.refl w.heap.size w)
 have H : ((impl_InRange.f a0_0 0 1000000).bind fun F4 => (if F4 = true then ((impl_InRange.f a0_1 1 3).bind fun F5 => (if F5 = true then (impl_IsValidAccount.j0 k (decide ((l0_2.length : Int) > 8)) a0_0 a0_1 l0_2) else (impl_IsValidAccount.j0 k true a0_0 a0_1 l0_2))) else (impl_IsValidAccount.j0 k true a0_0 a0_1 l0_2))) = some r := h
 clear h; have HC2 := Aside0.mk H; clear H
 go_enter Try.func16, Try.ntmps16
 go_upto_region 1 with (first | ((with_reducible refine gate_dst (N := 1) rfl ?_); (try (refine gate_guard (by rfl) ?_; dsimp only)); refine box_event ?hg (N := 1) ?hd (cs := #[.int .i64 a0_0, .int .i64 a0_1, .slice A0_2 l0_2.length c0_2]) (t := 26) ?hr ?_; (case hd => rfl); (case hg => rfl); (case hr => first | (go_simp; done) | (go_simp; rfl)); intro D6 hg w3 hbox hb; have D3 := Aside0.mk (hbox); have Gr := Cmp.gw hg HB; have Gp := Cmp.gw hg HB; replace HB := Cmp.bs HB hb; clear hb hbox hg))
 (try simp only [Act.put, List.setIfInBounds_toArray, List.set_cons_zero, List.set_cons_succ])
 go_cut [22] (fun v22 wc => ∃ (kq : Nat) (E8 : Bool), v22 = .bool E8 ∧ Aside0 (impl_IsValidAccount.j0 kq E8 a0_0 a0_1 l0_2 = some r) ∧ Aside0 (kq ≤ k) ∧ Aside0 (wc.heap[D6]? = some (.cells #[.int .i64 a0_0, .int .i64 a0_1, (.slice A0_2 l0_2.length c0_2)] 26 (0, 0))) ∧ Aside0 (Below w.heap.size w wc))
 case first =>
  have H := HC2.out; clear HC2; replace H := Option.bind_eq_some_iff.mp H; obtain ⟨F4, Fg, H⟩ := H; (try dsimp only at H); have A4 := Aside0.mk Fg; clear Fg
  by_cases c5 : F4 = true
  ·subst c5; rw [if_pos rfl] at H; replace H := Option.bind_eq_some_iff.mp H; obtain ⟨F5, Go, H⟩ := H; (try dsimp only at H); have A6 := Aside0.mk Go; clear Go
   by_cases c7 : F5 = true
   ·subst c7; rw [if_pos rfl] at H
    have H' := Aside0.mk H
    clear H
    have Ea := Cmp.c0 D3
    have Eb := Cmp.c1 D3
    have Ec := Cmp.c2 D3
    have Eg := blk_frozen D3.out 0; have Eh := blk_frozen D3.out 1; have Ei := blk_frozen D3.out 2
    go_wp2_with (first | ((with_reducible refine gate_callee (f := 59) rfl ?_); refine goesL_ (some 9) rfl rfl Try.func59 (by kernel_rfl) rfl #[.int .i64 a0_0, .int .i64 0, .int .i64 1000000] rfl Cmp.q ?_; (with_reducible refine (impl_InRange.calls a0_0 0 1000000 true _ A4.out).mono ?_); rintro e w' ⟨rfl, ⟨nd, rfl⟩⟩; refine ⟨_, rfl, ?_⟩) | (go_at_call 59; (with_reducible refine (impl_InRange.calls a0_1 1 3 true _ A6.out).mono ?_); rintro e w' ⟨rfl, ⟨nd, rfl⟩⟩))
    go_meet
    case rel => exact ⟨_, (decide ((l0_2.length : Int) > 8)), (by first | rfl | simp | simp [*]), H', ⟨by first | omega | exact Nat.le_refl _⟩, Cmp.bq D3, ⟨Cmp.g HB.out⟩⟩
   ·replace c7 := Bool.eq_false_iff.mpr c7
    subst c7
    have H1 : (impl_IsValidAccount.j0 k true a0_0 a0_1 l0_2) = some r := by rw [if_neg (show ¬ (false = true) by decide)] at H; exact H
    clear H; have H := H1; clear H1
    have H' := Aside0.mk H
    clear H
    have Ed := Cmp.c0 D3
    have Ee := Cmp.c1 D3
    have Ef := Cmp.c2 D3
    have Ej := blk_frozen D3.out 0; have Ek := blk_frozen D3.out 1; have El := blk_frozen D3.out 2
    go_wp2_with (first | ((with_reducible refine gate_callee (f := 59) rfl ?_); refine goesL_ (some 9) rfl rfl Try.func59 (by kernel_rfl) rfl #[.int .i64 a0_0, .int .i64 0, .int .i64 1000000] rfl Cmp.q ?_; (with_reducible refine (impl_InRange.calls a0_0 0 1000000 true _ A4.out).mono ?_); rintro e w' ⟨rfl, ⟨nd, rfl⟩⟩; refine ⟨_, rfl, ?_⟩) | (go_at_call 59; (with_reducible refine (impl_InRange.calls a0_1 1 3 false _ A6.out).mono ?_); rintro e w' ⟨rfl, ⟨nd, rfl⟩⟩))
    go_meet
    case rel => exact ⟨_, (true), (by first | rfl | simp | simp [*]), H', ⟨by first | omega | exact Nat.le_refl _⟩, Cmp.bq D3, ⟨Cmp.g HB.out⟩⟩
  ·replace c5 := Bool.eq_false_iff.mpr c5
   subst c5
   have H1 : (impl_IsValidAccount.j0 k true a0_0 a0_1 l0_2) = some r := by rw [if_neg (show ¬ (false = true) by decide)] at H; exact H
   clear H; have H := H1; clear H1
   have H' := Aside0.mk H
   clear H
   have Dx := Cmp.c0 D3
   have Dy := Cmp.c1 D3
   have Dz := Cmp.c2 D3
   have E0 := blk_frozen D3.out 0; have E1 := blk_frozen D3.out 1; have E2 := blk_frozen D3.out 2
   go_wp2_with (first | ((with_reducible refine gate_callee (f := 59) rfl ?_); refine goesL_ (some 9) rfl rfl Try.func59 (by kernel_rfl) rfl #[.int .i64 a0_0, .int .i64 0, .int .i64 1000000] rfl Cmp.q ?_; (with_reducible refine (impl_InRange.calls a0_0 0 1000000 false _ A4.out).mono ?_); rintro e w' ⟨rfl, ⟨nd, rfl⟩⟩; refine ⟨_, rfl, ?_⟩))
   go_meet
   case rel => exact ⟨_, (true), (by first | rfl | simp | simp [*]), H', ⟨by first | omega | exact Nat.le_refl _⟩, Cmp.bq D3, ⟨Cmp.g HB.out⟩⟩
 case rest =>
  clear HC2; (try clear c1); (try clear p2); (try clear c5); (try clear c7); (try clear Dx); (try clear Dy); (try clear Dz); (try clear Ea); (try clear Eb); (try clear Ec); (try clear Ed); (try clear Ee); (try clear Ef); (try clear E0); (try clear E1); (try clear E2); (try clear Eg); (try clear Eh); (try clear Ei); (try clear Ej); (try clear Ek); (try clear El)
  obtain ⟨kq, E8, rfl, HA, HJ1, D3, HB⟩ := hcut
  cases kq with
  | zero => exact absurd HA.out (by simp [impl_IsValidAccount.j0])
  | succ kj1 =>
   have H := HA.out; clear HA
   simp only [impl_IsValidAccount.j0] at H
   by_cases c11 : E8 = true
   ·subst c11; rw [if_pos rfl] at H
    obtain rfl := Option.some.inj H
    go_wp2
    go_ret
    exact ⟨by first | rfl | (simp [errW_none, errW_some] <;> rfl) | (simp [*, errW_none, errW_some] <;> rfl), Cmp.g HB.out⟩
   ·replace c11 := Bool.eq_false_iff.mpr c11
    subst c11
    have H1 : (impl_IsValidAccount.l0 kj1 l0_2 (l0_2.length : Int) 0 a0_0 a0_1 l0_2) = some r := by rw [if_neg (show ¬ (false = true) by decide)] at H; exact H
    clear H; have H := H1; clear H1
    have H' := Aside0.mk H
    clear H
    have Em : wc.cell? ⟨D6, 0, none⟩ = some (.int .i64 a0_0) := (blk_cell D3.out 0).trans rfl
    have En : wc.cell? ⟨D6, 1, none⟩ = some (.int .i64 a0_1) := (blk_cell D3.out 1).trans rfl
    have Eo : wc.cell? ⟨D6, 2, none⟩ = some (.slice A0_2 l0_2.length c0_2) := (blk_cell D3.out 2).trans rfl
    have Es := blk_frozen D3.out 0; have Et := blk_frozen D3.out 1; have Eu := blk_frozen D3.out 2
    go_wp2
    go_loopg [26] kj1 (fun kq v26 w' => ∃ (D0 : Int), v26 = .int .i64 D0 ∧ Aside0 (impl_IsValidAccount.l0 kq l0_2 (l0_2.length : Int) D0 a0_0 a0_1 l0_2 = some r) ∧ Aside0 (kq ≤ kj1) ∧ Aside0 (w'.heap[D6]? = some (.cells #[.int .i64 a0_0, .int .i64 a0_1, (.slice A0_2 l0_2.length c0_2)] 26 (0, 0))) ∧ Aside0 (Below w.heap.size w w'))
    case atStart => exact ⟨(0), (by first | rfl | simp | simp [*]), H', ⟨Nat.le_refl _⟩, Cmp.bq D3, ⟨Cmp.g HB.out⟩⟩
    case round =>
     clear H'
     (try clear c1); (try clear p2); (try clear c5); (try clear c7); (try clear c11); (try clear Dx); (try clear Dy); (try clear Dz); (try clear Em); (try clear En); (try clear Eo); (try clear Ea); (try clear Eb); (try clear Ec); (try clear Ed); (try clear Ee); (try clear Ef); (try clear E0); (try clear E1); (try clear E2); (try clear Es); (try clear Et); (try clear Eu); (try clear Eg); (try clear Eh); (try clear Ei); (try clear Ej); (try clear Ek); (try clear El); (try clear p2)
     obtain ⟨D0, rfl, HA, HK2, D3, HB⟩ := hrel
     cases gk with
     | zero => exact absurd HA.out (by simp [impl_IsValidAccount.l0])
     | succ k2 =>
      have H := HA.out; clear HA
      simp only [impl_IsValidAccount.l0] at H
      by_cases c13 : D0 < (l0_2.length : Int)
      ·rw [if_pos c13] at H
       have c13b0 : decide (D0 < (l0_2.length : Int)) = true := decide_eq_true c13
       clear c13
       by_cases c14 : 0 ≤ D0
       ·rw [if_pos c14] at H; have c14b0 : decide (0 ≤ D0) = true := decide_eq_true c14; clear c14
        by_cases c15 : D0 < (l0_2.length : Int)
        ·rw [if_pos c15] at H
         have c15b0 : decide (D0 < (l0_2.length : Int)) = true := decide_eq_true c15
         clear c15; have F2 := Aside0.mk H; clear H
         have p409 : 0 ≤ (D0 : Int) := of_decide_eq_true Cmp.d
         have q409 : D0 < (l0_2.length : Int) := of_decide_eq_true Cmp.d
         obtain ⟨D4, e409, E4, E5, E6, E7⟩ := at_T35 Du.out D0 p409 q409
         cases e409
         replace E4 := Cmp.hc HB E4
         replace E5 := Cmp.hc HB E5
         replace E6 := Cmp.hc HB E6
         replace E7 := Cmp.hc HB E7
         replace p409 := eq_true p409; replace q409 := eq_true q409
         go_upto_region 6 with (first | ((with_reducible refine gate_dst (N := 4) rfl ?_); (try (refine gate_guard (by rfl) ?_; dsimp only)); refine box_event ?hg (N := 4) ?hd (cs := #[.int .i64 0, .int .i64 0, .int .i64 0, .bool false]) (t := 35) ?hr ?_; (case hd => rfl); (case hg => rfl); (case hr => first | (go_simp; done) | (go_simp; rfl)); intro D2 hg w17 hbox hb; have D1 := Aside0.mk (hbox); have Gs := Cmp.gw hg HB; have Gq := Cmp.gw hg HB; have Di := Cmp.nl hg D3; have Dj := Cmp.ng hg D3; replace D3 := Cmp.be D3 hb; replace HB := Cmp.bs HB hb; clear hb hbox hg; have Gu := Dj.out; have J2 := Di.out; have Fh := Cmp.c0 D1; have Fi := Cmp.c1 D1; have Fj := Cmp.c2 D1; have Fk := Cmp.c3 D1; have G1 := blk_frozen D1.out 0; have G2 := blk_frozen D1.out 1; have G3 := blk_frozen D1.out 2; have G4 := blk_frozen D1.out 3))
         (try simp only [Act.put, List.setIfInBounds_toArray, List.set_cons_zero, List.set_cons_succ])
         go_cut [62] (fun v62 wc => ∃ (kq : Nat) (Dt : Bool), v62 = .bool Dt ∧ Aside0 (impl_IsValidAccount.j2 kq D0 l0_2 (l0_2.length : Int) D0 Dt a0_0 a0_1 l0_2 ((rd_T35 l0_2 D0).f0) ((rd_T35 l0_2 D0).f1) ((rd_T35 l0_2 D0).f2) ((rd_T35 l0_2 D0).f3) = some r) ∧ Aside0 (kq ≤ k2) ∧ Aside0 (wc.heap[D6]? = some (.cells #[.int .i64 a0_0, .int .i64 a0_1, (.slice (some D4) l0_2.length c0_2)] 26 (0, 0))) ∧ Aside0 (wc.heap[D2]? = some (.cells #[.int .i64 ((rd_T35 l0_2 D0).f0), .int .i64 ((rd_T35 l0_2 D0).f1), .int .i64 ((rd_T35 l0_2 D0).f2), .bool ((rd_T35 l0_2 D0).f3)] 35 (0, 0))) ∧ Aside0 (Below w.heap.size w wc))
         case first =>
          have H := F2.out; clear F2; replace H := Option.bind_eq_some_iff.mp H; obtain ⟨Gl, F6, H⟩ := H; (try dsimp only at H); have F1 := Aside0.mk F6; clear F6
          by_cases c21 : Gl = true
          ·subst c21; rw [if_pos rfl] at H
           by_cases c22 : D0 > 0
           ·rw [if_pos c22] at H; have c22b0 : decide (0 < D0) = true := decide_eq_true c22; clear c22
            (first | rw [c22b0] | (simp only [i64_w, i32_w]; rw [c22b0]) | skip)
            obtain ⟨D5, hji23⟩ : ∃ j_ : Int, (wrap64 (D0 - 1)) = j_ := ⟨_, rfl⟩
            replace H : (if 0 ≤ (D5) then (if (D5) < (l0_2.length : Int) then (if ((rd_T35 l0_2 (D5)).f0) ≥ ((rd_T35 l0_2 D0).f0) then (impl_IsValidAccount.j2 k2 D0 l0_2 (l0_2.length : Int) D0 true a0_0 a0_1 l0_2 ((rd_T35 l0_2 D0).f0) ((rd_T35 l0_2 D0).f1) ((rd_T35 l0_2 D0).f2) ((rd_T35 l0_2 D0).f3)) else ((impl_PrivateKey.f k2 ((rd_T35 l0_2 D0).f1)).bind fun Ds => (if Ds = 0 then (impl_IsValidAccount.j2 k2 D0 l0_2 (l0_2.length : Int) D0 true a0_0 a0_1 l0_2 ((rd_T35 l0_2 D0).f0) ((rd_T35 l0_2 D0).f1) ((rd_T35 l0_2 D0).f2) ((rd_T35 l0_2 D0).f3)) else ((impl_InRange.f ((rd_T35 l0_2 D0).f2) 0 1000000).bind fun Ey => (impl_IsValidAccount.j2 k2 D0 l0_2 (l0_2.length : Int) D0 (!Ey) a0_0 a0_1 l0_2 ((rd_T35 l0_2 D0).f0) ((rd_T35 l0_2 D0).f1) ((rd_T35 l0_2 D0).f2) ((rd_T35 l0_2 D0).f3)))))) else (none)) else (none)) = some r := by first | (rw [hji23] at H; exact H) | (simp only [hji23] at H ⊢; exact H)
            (try rw [hji23] at F1)
            have hji23w : (IntKind.i64.wrap (D0 - 1)) = D5 := (i64_w _).trans hji23
            by_cases c24 : 0 ≤ (D5)
            ·rw [if_pos c24] at H; have c24b0 : decide (0 ≤ (D5)) = true := decide_eq_true c24; clear c24
             by_cases c25 : (D5) < (l0_2.length : Int)
             ·rw [if_pos c25] at H
              have c25b0 : decide ((D5) < (l0_2.length : Int)) = true := decide_eq_true c25
              clear c25
              by_cases c26 : ((rd_T35 l0_2 (D5)).f0) ≥ ((rd_T35 l0_2 D0).f0)
              ·rw [if_pos c26] at H; have c26b0 : decide (((rd_T35 l0_2 D0).f0) ≤ ((rd_T35 l0_2 (D5)).f0)) = true := decide_eq_true c26; clear c26
               have H' := Aside0.mk H
               clear H
               try go_wp2
               have n0_ : Aside0 (((((w17.setCell ⟨D2, 0, none⟩ (.int .i64 ((rd_T35 l0_2 D0).f0))).setCell ⟨D2, 1, none⟩ (.int .i64 ((rd_T35 l0_2 D0).f1))).setCell ⟨D2, 2, none⟩ (.int .i64 ((rd_T35 l0_2 D0).f2))).setCell ⟨D2, 3, none⟩ (.bool ((rd_T35 l0_2 D0).f3))).heap[D6]? = some (.cells #[.int .i64 a0_0, .int .i64 a0_1, .slice (some D4) l0_2.length c0_2] 26 (0, 0))) := ⟨Cmp.bw D3.out⟩
               have n1_ : Aside0 (((((w17.setCell ⟨D2, 0, none⟩ (.int .i64 ((rd_T35 l0_2 D0).f0))).setCell ⟨D2, 1, none⟩ (.int .i64 ((rd_T35 l0_2 D0).f1))).setCell ⟨D2, 2, none⟩ (.int .i64 ((rd_T35 l0_2 D0).f2))).setCell ⟨D2, 3, none⟩ (.bool ((rd_T35 l0_2 D0).f3))).heap[D2]? = some (.cells #[.int .i64 ((rd_T35 l0_2 D0).f0), .int .i64 ((rd_T35 l0_2 D0).f1), .int .i64 ((rd_T35 l0_2 D0).f2), .bool ((rd_T35 l0_2 D0).f3)] 35 (0, 0))) := ⟨Cmp.bw D1.out⟩
               have n2_ : Aside0 (Below w.heap.size w ((((w17.setCell ⟨D2, 0, none⟩ (.int .i64 ((rd_T35 l0_2 D0).f0))).setCell ⟨D2, 1, none⟩ (.int .i64 ((rd_T35 l0_2 D0).f1))).setCell ⟨D2, 2, none⟩ (.int .i64 ((rd_T35 l0_2 D0).f2))).setCell ⟨D2, 3, none⟩ (.bool ((rd_T35 l0_2 D0).f3)))) := ⟨Cmp.g HB.out⟩
               (try clear D3); (try clear D1); (try clear HB)
               generalize ((((w17.setCell ⟨D2, 0, none⟩ (.int .i64 ((rd_T35 l0_2 D0).f0))).setCell ⟨D2, 1, none⟩ (.int .i64 ((rd_T35 l0_2 D0).f1))).setCell ⟨D2, 2, none⟩ (.int .i64 ((rd_T35 l0_2 D0).f2))).setCell ⟨D2, 3, none⟩ (.bool ((rd_T35 l0_2 D0).f3))) = w27 at n0_ n1_ n2_ ⊢
               have D3 := n0_; have D1 := n1_; have HB := n2_; clear n0_ n1_ n2_; replace D3 := Aside0.mk (blk_drew D3.out); replace D1 := Aside0.mk (blk_drew D1.out); replace HB := Aside0.mk (below_drew1 HB.out)
               have p412 : 0 ≤ ((D5) : Int) := of_decide_eq_true Cmp.d
               have q412 : (D5) < (l0_2.length : Int) := of_decide_eq_true Cmp.d
               obtain ⟨Dv, e412, D7, D8, D9, Da⟩ := at_T35 Du.out (D5) p412 q412
               have Df := Da; have De := D9; have Dd := D8; have Dc := D7
               obtain rfl : D4 = Dv := (by injection e412)
               replace D7 := Cmp.hc HB D7
               replace D8 := Cmp.hc HB D8
               replace D9 := Cmp.hc HB D9
               replace Da := Cmp.hc HB Da
               replace p412 := eq_true p412; replace q412 := eq_true q412
               refine start_ (n := 32) (S := fun w' => w'.cell? ⟨D2, 0, none⟩ = some (.int .i64 ((rd_T35 l0_2 D0).f0)) ∧ w'.cell? ⟨D2, 1, none⟩ = some (.int .i64 ((rd_T35 l0_2 D0).f1)) ∧ w'.cell? ⟨D2, 2, none⟩ = some (.int .i64 ((rd_T35 l0_2 D0).f2)) ∧ w'.cell? ⟨D2, 3, none⟩ = some (.bool ((rd_T35 l0_2 D0).f3)) ∧ w'.cell? ⟨D6, 0, none⟩ = some (.int .i64 a0_0) ∧ w'.cell? ⟨D6, 1, none⟩ = some (.int .i64 a0_1) ∧ w'.cell? ⟨D6, 2, none⟩ = some (.slice (some D4) l0_2.length c0_2) ∧ w'.cell? (D4.add (((D5)).toNat * 4)) = some (.int .i64 ((rd_T35 l0_2 (D5)).f0)) ∧ w'.cell? ⟨(D4.add (((D5)).toNat * 4)).block, (D4.add (((D5)).toNat * 4)).off + 1, none⟩ = some (.int .i64 ((rd_T35 l0_2 (D5)).f1)) ∧ w'.cell? ⟨(D4.add (((D5)).toNat * 4)).block, (D4.add (((D5)).toNat * 4)).off + 2, none⟩ = some (.int .i64 ((rd_T35 l0_2 (D5)).f2)) ∧ w'.cell? ⟨(D4.add (((D5)).toNat * 4)).block, (D4.add (((D5)).toNat * 4)).off + 3, none⟩ = some (.bool ((rd_T35 l0_2 (D5)).f3))) (ds := []) (Cmp.bm 0 32) (by kernel_rfl) rfl rfl ⟨(Cmp.c0 D1 :), (Cmp.c1 D1 :), (Cmp.c2 D1 :), (Cmp.c3 D1 :), (Cmp.c0 D3 :), (Cmp.c1 D3 :), (Cmp.c2 D3 :), (Cmp.hc HB Dc :), (Cmp.hc HB Dd :), (Cmp.hc HB De :), (Cmp.hc HB Df :)⟩ (fun hHeld => ?_); refine with_tabW impl_IsValidAccount.tab6 impl_IsValidAccount.bits6 (fun HT_ HW_ => ?_)
               generalize w27.drew = w28 at D3 D1 HB D7 D8 D9 Da hHeld ⊢
               refine Cmp.pu HT_ 0 31 (Cmp.bm 1 31) ?_; refine Cmp.tk HT_ HW_ hHeld 1 32 (Cmp.bm 2 30) ?_
               refine one_ (i := 2) (N := some 33) (Cmp.bm 3 29) rfl rfl (one_of HT_.out (by kernel_rfl)) (by decide) (fun K hK => ?_)
               refine goes_ Try.func59 (by kernel_rfl) rfl #[.int .i64 ((rd_T35 l0_2 D0).f0), .int .i64 0, .int .i64 1000000] (by rfl) rfl rfl Cmp.q ?_
               with_reducible refine (impl_InRange.calls ((rd_T35 l0_2 D0).f0) 0 1000000 true _ F1.out).mono ?_
               rintro e w' ⟨rfl, ⟨nd, rfl⟩⟩; refine ⟨_, rfl, ?_⟩
               refine hK.out _ _ ⟨(Cmp.c0 D1 :), (Cmp.c1 D1 :), (Cmp.c2 D1 :), (Cmp.c3 D1 :), (Cmp.c0 D3 :), (Cmp.c1 D3 :), (Cmp.c2 D3 :), (Cmp.hc HB Dc :), (Cmp.hc HB Dd :), (Cmp.hc HB De :), (Cmp.hc HB Df :)⟩ (fun hHeld => ?_)
               clear hK K
               refine norm_ (a' := ?_) ?_ ?_
               rotate_left
               ·show Act.put _ (some 33) _ = _
                simp only [Act.put, Cmp.s, Cmp.z, Cmp.c, i64_w, i32_w]; rfl
               refine Cmp.pu HT_ 3 34 (Cmp.bm 4 28) ?_; refine Cmp.pu HT_ 4 35 (Cmp.bm 5 27) ?_; refine Cmp.pu HT_ 5 36 (Cmp.bm 6 26) ?_; refine Cmp.pu HT_ 6 37 (Cmp.bm 7 25) ?_; refine Cmp.pu HT_ 7 38 (Cmp.bm 8 24) ?_; refine Cmp.pu HT_ 8 39 (Cmp.bm 9 23) ?_; refine Cmp.pu HT_ 10 41 (Cmp.bb 32 1535) ?_; refine Cmp.pu HT_ 11 42 (Cmp.bb 32 3583) ?_; refine Cmp.pu HT_ 15 46 (Cmp.bb 32 36351) ?_; refine Cmp.tk HT_ HW_ hHeld 9 40 (Cmp.bb 32 36863) ?_; refine Cmp.pu HT_ 12 43 (Cmp.bb 32 40959) ?_; refine Cmp.pu HT_ 13 44 (Cmp.bb 32 49151) ?_; refine Cmp.tk HT_ HW_ hHeld 14 45 (Cmp.bm 16 16) ?_; refine Cmp.tk HT_ HW_ hHeld 16 47 (Cmp.bm 17 15) ?_; refine Cmp.pu HT_ 17 48 (Cmp.bm 18 14) ?_; refine Cmp.pu HT_ 18 49 (Cmp.bm 19 13) ?_; refine Cmp.pu HT_ 19 50 (Cmp.bm 20 12) ?_; refine Cmp.pu HT_ 20 51 (Cmp.bm 21 11) ?_; refine Cmp.pv HT_ 21 52 (Cmp.bm 22 10) ?_; refine Cmp.pv HT_ 22 53 (Cmp.bm 23 9) ?_; refine Cmp.pv HT_ 23 54 (Cmp.bm 24 8) ?_; refine Cmp.pv HT_ 24 55 (Cmp.bm 25 7) ?_; refine Cmp.pu HT_ 25 56 (Cmp.bm 26 6) ?_; refine Cmp.pu HT_ 26 57 (Cmp.bm 27 5) ?_; refine Cmp.pv HT_ 27 58 (Cmp.bm 28 4) ?_; refine Cmp.pv HT_ 28 59 (Cmp.bm 29 3) ?_; refine Cmp.pv HT_ 29 60 (Cmp.bm 30 2) ?_; refine Cmp.pv HT_ 30 61 (Cmp.bm 31 1) ?_; refine Cmp.pu HT_ 31 62 (Cmp.bm 32 0) ?_
               refine done_ (done_of HT_.out (by kernel_rfl)) ?_
               try go_wp2
               go_meet
               case rel => exact ⟨_, (true), (by first | rfl | simp | simp [*]), H', ⟨by have := HJ1.out; have := HK2.out; first | omega | exact Nat.le_refl _⟩, Cmp.bq D3, Cmp.bq D1, ⟨Cmp.g HB.out⟩⟩
              ·rw [if_neg c26] at H; have c26b0 : decide (((rd_T35 l0_2 D0).f0) ≤ ((rd_T35 l0_2 (D5)).f0)) = false := decide_eq_false c26; clear c26; replace H := Option.bind_eq_some_iff.mp H; obtain ⟨Ds, F7, H⟩ := H; (try dsimp only at H); have Gm := Aside0.mk F7; clear F7
               by_cases c30 : Ds = 0
               ·rw [if_pos c30] at H; have c30b0 : (Ds == 0) = true := beq_iff_eq.mpr c30; have c30b1 : (Ds != 0) = false := bne_eq_false_iff_eq.mpr c30; clear c30
                have H' := Aside0.mk H
                clear H
                try go_wp2
                have n0_ : Aside0 (((((w17.setCell ⟨D2, 0, none⟩ (.int .i64 ((rd_T35 l0_2 D0).f0))).setCell ⟨D2, 1, none⟩ (.int .i64 ((rd_T35 l0_2 D0).f1))).setCell ⟨D2, 2, none⟩ (.int .i64 ((rd_T35 l0_2 D0).f2))).setCell ⟨D2, 3, none⟩ (.bool ((rd_T35 l0_2 D0).f3))).heap[D6]? = some (.cells #[.int .i64 a0_0, .int .i64 a0_1, .slice (some D4) l0_2.length c0_2] 26 (0, 0))) := ⟨Cmp.bw D3.out⟩
                have n1_ : Aside0 (((((w17.setCell ⟨D2, 0, none⟩ (.int .i64 ((rd_T35 l0_2 D0).f0))).setCell ⟨D2, 1, none⟩ (.int .i64 ((rd_T35 l0_2 D0).f1))).setCell ⟨D2, 2, none⟩ (.int .i64 ((rd_T35 l0_2 D0).f2))).setCell ⟨D2, 3, none⟩ (.bool ((rd_T35 l0_2 D0).f3))).heap[D2]? = some (.cells #[.int .i64 ((rd_T35 l0_2 D0).f0), .int .i64 ((rd_T35 l0_2 D0).f1), .int .i64 ((rd_T35 l0_2 D0).f2), .bool ((rd_T35 l0_2 D0).f3)] 35 (0, 0))) := ⟨Cmp.bw D1.out⟩
                have n2_ : Aside0 (Below w.heap.size w ((((w17.setCell ⟨D2, 0, none⟩ (.int .i64 ((rd_T35 l0_2 D0).f0))).setCell ⟨D2, 1, none⟩ (.int .i64 ((rd_T35 l0_2 D0).f1))).setCell ⟨D2, 2, none⟩ (.int .i64 ((rd_T35 l0_2 D0).f2))).setCell ⟨D2, 3, none⟩ (.bool ((rd_T35 l0_2 D0).f3)))) := ⟨Cmp.g HB.out⟩
                (try clear D3); (try clear D1); (try clear HB)
                generalize ((((w17.setCell ⟨D2, 0, none⟩ (.int .i64 ((rd_T35 l0_2 D0).f0))).setCell ⟨D2, 1, none⟩ (.int .i64 ((rd_T35 l0_2 D0).f1))).setCell ⟨D2, 2, none⟩ (.int .i64 ((rd_T35 l0_2 D0).f2))).setCell ⟨D2, 3, none⟩ (.bool ((rd_T35 l0_2 D0).f3))) = w31 at n0_ n1_ n2_ ⊢
                have D3 := n0_; have D1 := n1_; have HB := n2_; clear n0_ n1_ n2_; replace D3 := Aside0.mk (blk_drew D3.out); replace D1 := Aside0.mk (blk_drew D1.out); replace HB := Aside0.mk (below_drew1 HB.out)
                have p412 : 0 ≤ ((D5) : Int) := of_decide_eq_true Cmp.d
                have q412 : (D5) < (l0_2.length : Int) := of_decide_eq_true Cmp.d
                obtain ⟨Dv, e412, D7, D8, D9, Da⟩ := at_T35 Du.out (D5) p412 q412
                have Df := Da; have De := D9; have Dd := D8; have Dc := D7
                obtain rfl : D4 = Dv := (by injection e412)
                replace D7 := Cmp.hc HB D7
                replace D8 := Cmp.hc HB D8
                replace D9 := Cmp.hc HB D9
                replace Da := Cmp.hc HB Da
                replace p412 := eq_true p412; replace q412 := eq_true q412
                refine start_ (n := 32) (S := fun w' => w'.cell? ⟨D2, 0, none⟩ = some (.int .i64 ((rd_T35 l0_2 D0).f0)) ∧ w'.cell? ⟨D2, 1, none⟩ = some (.int .i64 ((rd_T35 l0_2 D0).f1)) ∧ w'.cell? ⟨D2, 2, none⟩ = some (.int .i64 ((rd_T35 l0_2 D0).f2)) ∧ w'.cell? ⟨D2, 3, none⟩ = some (.bool ((rd_T35 l0_2 D0).f3)) ∧ w'.cell? ⟨D6, 0, none⟩ = some (.int .i64 a0_0) ∧ w'.cell? ⟨D6, 1, none⟩ = some (.int .i64 a0_1) ∧ w'.cell? ⟨D6, 2, none⟩ = some (.slice (some D4) l0_2.length c0_2) ∧ w'.cell? (D4.add (((D5)).toNat * 4)) = some (.int .i64 ((rd_T35 l0_2 (D5)).f0)) ∧ w'.cell? ⟨(D4.add (((D5)).toNat * 4)).block, (D4.add (((D5)).toNat * 4)).off + 1, none⟩ = some (.int .i64 ((rd_T35 l0_2 (D5)).f1)) ∧ w'.cell? ⟨(D4.add (((D5)).toNat * 4)).block, (D4.add (((D5)).toNat * 4)).off + 2, none⟩ = some (.int .i64 ((rd_T35 l0_2 (D5)).f2)) ∧ w'.cell? ⟨(D4.add (((D5)).toNat * 4)).block, (D4.add (((D5)).toNat * 4)).off + 3, none⟩ = some (.bool ((rd_T35 l0_2 (D5)).f3))) (ds := []) (Cmp.bm 0 32) (by kernel_rfl) rfl rfl ⟨(Cmp.c0 D1 :), (Cmp.c1 D1 :), (Cmp.c2 D1 :), (Cmp.c3 D1 :), (Cmp.c0 D3 :), (Cmp.c1 D3 :), (Cmp.c2 D3 :), (Cmp.hc HB Dc :), (Cmp.hc HB Dd :), (Cmp.hc HB De :), (Cmp.hc HB Df :)⟩ (fun hHeld => ?_); refine with_tabW impl_IsValidAccount.tab6 impl_IsValidAccount.bits6 (fun HT_ HW_ => ?_)
                generalize w31.drew = w32 at D3 D1 HB D7 D8 D9 Da hHeld ⊢
                refine Cmp.pu HT_ 0 31 (Cmp.bm 1 31) ?_; refine Cmp.tk HT_ HW_ hHeld 1 32 (Cmp.bm 2 30) ?_
                refine one_ (i := 2) (N := some 33) (Cmp.bm 3 29) rfl rfl (one_of HT_.out (by kernel_rfl)) (by decide) (fun K hK => ?_)
                refine goes_ Try.func59 (by kernel_rfl) rfl #[.int .i64 ((rd_T35 l0_2 D0).f0), .int .i64 0, .int .i64 1000000] (by rfl) rfl rfl Cmp.q ?_
                with_reducible refine (impl_InRange.calls ((rd_T35 l0_2 D0).f0) 0 1000000 true _ F1.out).mono ?_
                rintro e w' ⟨rfl, ⟨nd, rfl⟩⟩; refine ⟨_, rfl, ?_⟩
                refine hK.out _ _ ⟨(Cmp.c0 D1 :), (Cmp.c1 D1 :), (Cmp.c2 D1 :), (Cmp.c3 D1 :), (Cmp.c0 D3 :), (Cmp.c1 D3 :), (Cmp.c2 D3 :), (Cmp.hc HB Dc :), (Cmp.hc HB Dd :), (Cmp.hc HB De :), (Cmp.hc HB Df :)⟩ (fun hHeld => ?_)
                clear hK K
                refine norm_ (a' := ?_) ?_ ?_
                rotate_left
                ·show Act.put _ (some 33) _ = _
                 simp only [Act.put, Cmp.s, Cmp.z, Cmp.c, i64_w, i32_w]; rfl
                refine Cmp.pu HT_ 3 34 (Cmp.bm 4 28) ?_; refine Cmp.pu HT_ 4 35 (Cmp.bm 5 27) ?_; refine Cmp.pu HT_ 5 36 (Cmp.bm 6 26) ?_; refine Cmp.pu HT_ 6 37 (Cmp.bm 7 25) ?_; refine Cmp.pu HT_ 7 38 (Cmp.bm 8 24) ?_; refine Cmp.pu HT_ 8 39 (Cmp.bm 9 23) ?_; refine Cmp.pu HT_ 10 41 (Cmp.bb 32 1535) ?_; refine Cmp.pu HT_ 11 42 (Cmp.bb 32 3583) ?_; refine Cmp.pu HT_ 15 46 (Cmp.bb 32 36351) ?_; refine Cmp.tk HT_ HW_ hHeld 9 40 (Cmp.bb 32 36863) ?_; refine Cmp.pu HT_ 12 43 (Cmp.bb 32 40959) ?_; refine Cmp.pu HT_ 13 44 (Cmp.bb 32 49151) ?_; refine Cmp.tk HT_ HW_ hHeld 14 45 (Cmp.bm 16 16) ?_; refine Cmp.tk HT_ HW_ hHeld 16 47 (Cmp.bm 17 15) ?_; refine Cmp.pu HT_ 17 48 (Cmp.bm 18 14) ?_; refine Cmp.pu HT_ 18 49 (Cmp.bm 19 13) ?_; refine Cmp.pu HT_ 19 50 (Cmp.bm 20 12) ?_; refine Cmp.pu HT_ 20 51 (Cmp.bm 21 11) ?_; refine Cmp.pu HT_ 21 52 (Cmp.bm 22 10) ?_; refine Cmp.tk HT_ HW_ hHeld 22 53 (Cmp.bm 23 9) ?_
                refine one_ (i := 23) (N := some 54) (Cmp.bm 24 8) rfl rfl (one_of HT_.out (by kernel_rfl)) (by decide) (fun K hK => ?_)
                refine goes_ Try.func60 (by kernel_rfl) rfl #[.int .i64 ((rd_T35 l0_2 D0).f1)] (by rfl) rfl rfl Cmp.q ?_
                with_reducible refine (impl_PrivateKey.calls k2 ((rd_T35 l0_2 D0).f1) Ds _ Gm.out).mono ?_
                rintro e w' ⟨rfl, ⟨nd, rfl⟩⟩; refine ⟨_, rfl, ?_⟩
                refine hK.out _ _ ⟨(Cmp.c0 D1 :), (Cmp.c1 D1 :), (Cmp.c2 D1 :), (Cmp.c3 D1 :), (Cmp.c0 D3 :), (Cmp.c1 D3 :), (Cmp.c2 D3 :), (Cmp.hc HB Dc :), (Cmp.hc HB Dd :), (Cmp.hc HB De :), (Cmp.hc HB Df :)⟩ (fun hHeld => ?_)
                clear hK K
                refine norm_ (a' := ?_) ?_ ?_
                rotate_left
                ·show Act.put _ (some 54) _ = _
                 simp only [Act.put, Cmp.s, Cmp.z, Cmp.c, i64_w, i32_w]; rfl
                refine Cmp.pu HT_ 24 55 (Cmp.bm 25 7) ?_; refine Cmp.pu HT_ 25 56 (Cmp.bm 26 6) ?_; refine Cmp.pu HT_ 26 57 (Cmp.bm 27 5) ?_; refine Cmp.pv HT_ 27 58 (Cmp.bm 28 4) ?_; refine Cmp.pv HT_ 28 59 (Cmp.bm 29 3) ?_; refine Cmp.pv HT_ 29 60 (Cmp.bm 30 2) ?_; refine Cmp.pv HT_ 30 61 (Cmp.bm 31 1) ?_; refine Cmp.pu HT_ 31 62 (Cmp.bm 32 0) ?_
                refine done_ (done_of HT_.out (by kernel_rfl)) ?_
                try go_wp2
                go_meet
                case rel => exact ⟨_, (true), (by first | rfl | simp | simp [*]), H', ⟨by have := HJ1.out; have := HK2.out; first | omega | exact Nat.le_refl _⟩, Cmp.bq D3, Cmp.bq D1, ⟨Cmp.g HB.out⟩⟩
               ·rw [if_neg c30] at H; have c30b0 : (Ds == 0) = false := beq_eq_false_iff_ne.mpr c30; have c30b1 : (Ds != 0) = true := bne_iff_ne.mpr c30; replace H := Option.bind_eq_some_iff.mp H; obtain ⟨Ey, F8, H⟩ := H; (try dsimp only at H); have Ja := Aside0.mk F8; clear F8
                have H' := Aside0.mk H
                clear H
                try go_wp2
                have n0_ : Aside0 (((((w17.setCell ⟨D2, 0, none⟩ (.int .i64 ((rd_T35 l0_2 D0).f0))).setCell ⟨D2, 1, none⟩ (.int .i64 ((rd_T35 l0_2 D0).f1))).setCell ⟨D2, 2, none⟩ (.int .i64 ((rd_T35 l0_2 D0).f2))).setCell ⟨D2, 3, none⟩ (.bool ((rd_T35 l0_2 D0).f3))).heap[D6]? = some (.cells #[.int .i64 a0_0, .int .i64 a0_1, .slice (some D4) l0_2.length c0_2] 26 (0, 0))) := ⟨Cmp.bw D3.out⟩
                have n1_ : Aside0 (((((w17.setCell ⟨D2, 0, none⟩ (.int .i64 ((rd_T35 l0_2 D0).f0))).setCell ⟨D2, 1, none⟩ (.int .i64 ((rd_T35 l0_2 D0).f1))).setCell ⟨D2, 2, none⟩ (.int .i64 ((rd_T35 l0_2 D0).f2))).setCell ⟨D2, 3, none⟩ (.bool ((rd_T35 l0_2 D0).f3))).heap[D2]? = some (.cells #[.int .i64 ((rd_T35 l0_2 D0).f0), .int .i64 ((rd_T35 l0_2 D0).f1), .int .i64 ((rd_T35 l0_2 D0).f2), .bool ((rd_T35 l0_2 D0).f3)] 35 (0, 0))) := ⟨Cmp.bw D1.out⟩
                have n2_ : Aside0 (Below w.heap.size w ((((w17.setCell ⟨D2, 0, none⟩ (.int .i64 ((rd_T35 l0_2 D0).f0))).setCell ⟨D2, 1, none⟩ (.int .i64 ((rd_T35 l0_2 D0).f1))).setCell ⟨D2, 2, none⟩ (.int .i64 ((rd_T35 l0_2 D0).f2))).setCell ⟨D2, 3, none⟩ (.bool ((rd_T35 l0_2 D0).f3)))) := ⟨Cmp.g HB.out⟩
                (try clear D3); (try clear D1); (try clear HB)
                generalize ((((w17.setCell ⟨D2, 0, none⟩ (.int .i64 ((rd_T35 l0_2 D0).f0))).setCell ⟨D2, 1, none⟩ (.int .i64 ((rd_T35 l0_2 D0).f1))).setCell ⟨D2, 2, none⟩ (.int .i64 ((rd_T35 l0_2 D0).f2))).setCell ⟨D2, 3, none⟩ (.bool ((rd_T35 l0_2 D0).f3))) = w34 at n0_ n1_ n2_ ⊢
                have D3 := n0_; have D1 := n1_; have HB := n2_; clear n0_ n1_ n2_; replace D3 := Aside0.mk (blk_drew D3.out); replace D1 := Aside0.mk (blk_drew D1.out); replace HB := Aside0.mk (below_drew1 HB.out)
                have p412 : 0 ≤ ((D5) : Int) := of_decide_eq_true Cmp.d
                have q412 : (D5) < (l0_2.length : Int) := of_decide_eq_true Cmp.d
                obtain ⟨Dv, e412, D7, D8, D9, Da⟩ := at_T35 Du.out (D5) p412 q412
                have Df := Da; have De := D9; have Dd := D8; have Dc := D7
                obtain rfl : D4 = Dv := (by injection e412)
                replace D7 := Cmp.hc HB D7
                replace D8 := Cmp.hc HB D8
                replace D9 := Cmp.hc HB D9
                replace Da := Cmp.hc HB Da
                replace p412 := eq_true p412; replace q412 := eq_true q412
                refine start_ (n := 32) (S := fun w' => w'.cell? ⟨D2, 0, none⟩ = some (.int .i64 ((rd_T35 l0_2 D0).f0)) ∧ w'.cell? ⟨D2, 1, none⟩ = some (.int .i64 ((rd_T35 l0_2 D0).f1)) ∧ w'.cell? ⟨D2, 2, none⟩ = some (.int .i64 ((rd_T35 l0_2 D0).f2)) ∧ w'.cell? ⟨D2, 3, none⟩ = some (.bool ((rd_T35 l0_2 D0).f3)) ∧ w'.cell? ⟨D6, 0, none⟩ = some (.int .i64 a0_0) ∧ w'.cell? ⟨D6, 1, none⟩ = some (.int .i64 a0_1) ∧ w'.cell? ⟨D6, 2, none⟩ = some (.slice (some D4) l0_2.length c0_2) ∧ w'.cell? (D4.add (((D5)).toNat * 4)) = some (.int .i64 ((rd_T35 l0_2 (D5)).f0)) ∧ w'.cell? ⟨(D4.add (((D5)).toNat * 4)).block, (D4.add (((D5)).toNat * 4)).off + 1, none⟩ = some (.int .i64 ((rd_T35 l0_2 (D5)).f1)) ∧ w'.cell? ⟨(D4.add (((D5)).toNat * 4)).block, (D4.add (((D5)).toNat * 4)).off + 2, none⟩ = some (.int .i64 ((rd_T35 l0_2 (D5)).f2)) ∧ w'.cell? ⟨(D4.add (((D5)).toNat * 4)).block, (D4.add (((D5)).toNat * 4)).off + 3, none⟩ = some (.bool ((rd_T35 l0_2 (D5)).f3))) (ds := []) (Cmp.bm 0 32) (by kernel_rfl) rfl rfl ⟨(Cmp.c0 D1 :), (Cmp.c1 D1 :), (Cmp.c2 D1 :), (Cmp.c3 D1 :), (Cmp.c0 D3 :), (Cmp.c1 D3 :), (Cmp.c2 D3 :), (Cmp.hc HB Dc :), (Cmp.hc HB Dd :), (Cmp.hc HB De :), (Cmp.hc HB Df :)⟩ (fun hHeld => ?_); refine with_tabW impl_IsValidAccount.tab6 impl_IsValidAccount.bits6 (fun HT_ HW_ => ?_)
                generalize w34.drew = w35 at D3 D1 HB D7 D8 D9 Da hHeld ⊢
                refine Cmp.pu HT_ 0 31 (Cmp.bm 1 31) ?_; refine Cmp.tk HT_ HW_ hHeld 1 32 (Cmp.bm 2 30) ?_
                refine one_ (i := 2) (N := some 33) (Cmp.bm 3 29) rfl rfl (one_of HT_.out (by kernel_rfl)) (by decide) (fun K hK => ?_)
                refine goes_ Try.func59 (by kernel_rfl) rfl #[.int .i64 ((rd_T35 l0_2 D0).f0), .int .i64 0, .int .i64 1000000] (by rfl) rfl rfl Cmp.q ?_
                with_reducible refine (impl_InRange.calls ((rd_T35 l0_2 D0).f0) 0 1000000 true _ F1.out).mono ?_
                rintro e w' ⟨rfl, ⟨nd, rfl⟩⟩; refine ⟨_, rfl, ?_⟩
                refine hK.out _ _ ⟨(Cmp.c0 D1 :), (Cmp.c1 D1 :), (Cmp.c2 D1 :), (Cmp.c3 D1 :), (Cmp.c0 D3 :), (Cmp.c1 D3 :), (Cmp.c2 D3 :), (Cmp.hc HB Dc :), (Cmp.hc HB Dd :), (Cmp.hc HB De :), (Cmp.hc HB Df :)⟩ (fun hHeld => ?_)
                clear hK K
                refine norm_ (a' := ?_) ?_ ?_
                rotate_left
                ·show Act.put _ (some 33) _ = _
                 simp only [Act.put, Cmp.s, Cmp.z, Cmp.c, i64_w, i32_w]; rfl
                refine Cmp.pu HT_ 3 34 (Cmp.bm 4 28) ?_; refine Cmp.pu HT_ 4 35 (Cmp.bm 5 27) ?_; refine Cmp.pu HT_ 5 36 (Cmp.bm 6 26) ?_; refine Cmp.pu HT_ 6 37 (Cmp.bm 7 25) ?_; refine Cmp.pu HT_ 7 38 (Cmp.bm 8 24) ?_; refine Cmp.pu HT_ 8 39 (Cmp.bm 9 23) ?_; refine Cmp.pu HT_ 10 41 (Cmp.bb 32 1535) ?_; refine Cmp.pu HT_ 11 42 (Cmp.bb 32 3583) ?_; refine Cmp.pu HT_ 15 46 (Cmp.bb 32 36351) ?_; refine Cmp.tk HT_ HW_ hHeld 9 40 (Cmp.bb 32 36863) ?_; refine Cmp.pu HT_ 12 43 (Cmp.bb 32 40959) ?_; refine Cmp.pu HT_ 13 44 (Cmp.bb 32 49151) ?_; refine Cmp.tk HT_ HW_ hHeld 14 45 (Cmp.bm 16 16) ?_; refine Cmp.tk HT_ HW_ hHeld 16 47 (Cmp.bm 17 15) ?_; refine Cmp.pu HT_ 17 48 (Cmp.bm 18 14) ?_; refine Cmp.pu HT_ 18 49 (Cmp.bm 19 13) ?_; refine Cmp.pu HT_ 19 50 (Cmp.bm 20 12) ?_; refine Cmp.pu HT_ 20 51 (Cmp.bm 21 11) ?_; refine Cmp.pu HT_ 21 52 (Cmp.bm 22 10) ?_; refine Cmp.tk HT_ HW_ hHeld 22 53 (Cmp.bm 23 9) ?_
                refine one_ (i := 23) (N := some 54) (Cmp.bm 24 8) rfl rfl (one_of HT_.out (by kernel_rfl)) (by decide) (fun K hK => ?_)
                refine goes_ Try.func60 (by kernel_rfl) rfl #[.int .i64 ((rd_T35 l0_2 D0).f1)] (by rfl) rfl rfl Cmp.q ?_
                with_reducible refine (impl_PrivateKey.calls k2 ((rd_T35 l0_2 D0).f1) Ds _ Gm.out).mono ?_
                rintro e w' ⟨rfl, ⟨nd, rfl⟩⟩; refine ⟨_, rfl, ?_⟩
                refine hK.out _ _ ⟨(Cmp.c0 D1 :), (Cmp.c1 D1 :), (Cmp.c2 D1 :), (Cmp.c3 D1 :), (Cmp.c0 D3 :), (Cmp.c1 D3 :), (Cmp.c2 D3 :), (Cmp.hc HB Dc :), (Cmp.hc HB Dd :), (Cmp.hc HB De :), (Cmp.hc HB Df :)⟩ (fun hHeld => ?_)
                clear hK K
                refine norm_ (a' := ?_) ?_ ?_
                rotate_left
                ·show Act.put _ (some 54) _ = _
                 simp only [Act.put, Cmp.s, Cmp.z, Cmp.c, i64_w, i32_w]; rfl
                refine Cmp.pu HT_ 24 55 (Cmp.bm 25 7) ?_; refine Cmp.pu HT_ 25 56 (Cmp.bm 26 6) ?_; refine Cmp.pu HT_ 26 57 (Cmp.bm 27 5) ?_; refine Cmp.pu HT_ 27 58 (Cmp.bm 28 4) ?_; refine Cmp.tk HT_ HW_ hHeld 28 59 (Cmp.bm 29 3) ?_
                refine one_ (i := 29) (N := some 60) (Cmp.bm 30 2) rfl rfl (one_of HT_.out (by kernel_rfl)) (by decide) (fun K hK => ?_)
                refine goes_ Try.func59 (by kernel_rfl) rfl #[.int .i64 ((rd_T35 l0_2 D0).f2), .int .i64 0, .int .i64 1000000] (by rfl) rfl rfl Cmp.q ?_
                with_reducible refine (impl_InRange.calls ((rd_T35 l0_2 D0).f2) 0 1000000 Ey _ Ja.out).mono ?_
                rintro e w' ⟨rfl, ⟨nd, rfl⟩⟩; refine ⟨_, rfl, ?_⟩
                refine hK.out _ _ ⟨(Cmp.c0 D1 :), (Cmp.c1 D1 :), (Cmp.c2 D1 :), (Cmp.c3 D1 :), (Cmp.c0 D3 :), (Cmp.c1 D3 :), (Cmp.c2 D3 :), (Cmp.hc HB Dc :), (Cmp.hc HB Dd :), (Cmp.hc HB De :), (Cmp.hc HB Df :)⟩ (fun hHeld => ?_)
                clear hK K
                refine norm_ (a' := ?_) ?_ ?_
                rotate_left
                ·show Act.put _ (some 60) _ = _
                 simp only [Act.put, Cmp.s, Cmp.z, Cmp.c, i64_w, i32_w]; rfl
                refine Cmp.pu HT_ 30 61 (Cmp.bm 31 1) ?_; refine Cmp.pu HT_ 31 62 (Cmp.bm 32 0) ?_
                refine done_ (done_of HT_.out (by kernel_rfl)) ?_
                try go_wp2
                go_meet
                case rel => exact ⟨_, (!Ey), (by first | rfl | simp | simp [*]), H', ⟨by have := HJ1.out; have := HK2.out; first | omega | exact Nat.le_refl _⟩, Cmp.bq D3, Cmp.bq D1, ⟨Cmp.g HB.out⟩⟩
             ·rw [if_neg c25] at H; exact absurd H (by simp)
            ·rw [if_neg c24] at H; exact absurd H (by simp)
           ·rw [if_neg c22] at H; have c22b0 : decide (0 < D0) = false := decide_eq_false c22; clear c22
            (first | rw [c22b0] | (simp only [i64_w, i32_w]; rw [c22b0]) | skip)
            replace H := Option.bind_eq_some_iff.mp H; obtain ⟨Dw, F9, H⟩ := H; (try dsimp only at H); have Gn := Aside0.mk F9; clear F9
            by_cases c37 : Dw = 0
            ·rw [if_pos c37] at H; have c37b0 : (Dw == 0) = true := beq_iff_eq.mpr c37; have c37b1 : (Dw != 0) = false := bne_eq_false_iff_eq.mpr c37; clear c37
             have H' := Aside0.mk H
             clear H
             try go_wp2
             have n0_ : Aside0 (((((w17.setCell ⟨D2, 0, none⟩ (.int .i64 ((rd_T35 l0_2 D0).f0))).setCell ⟨D2, 1, none⟩ (.int .i64 ((rd_T35 l0_2 D0).f1))).setCell ⟨D2, 2, none⟩ (.int .i64 ((rd_T35 l0_2 D0).f2))).setCell ⟨D2, 3, none⟩ (.bool ((rd_T35 l0_2 D0).f3))).heap[D6]? = some (.cells #[.int .i64 a0_0, .int .i64 a0_1, .slice (some D4) l0_2.length c0_2] 26 (0, 0))) := ⟨Cmp.bw D3.out⟩
             have n1_ : Aside0 (((((w17.setCell ⟨D2, 0, none⟩ (.int .i64 ((rd_T35 l0_2 D0).f0))).setCell ⟨D2, 1, none⟩ (.int .i64 ((rd_T35 l0_2 D0).f1))).setCell ⟨D2, 2, none⟩ (.int .i64 ((rd_T35 l0_2 D0).f2))).setCell ⟨D2, 3, none⟩ (.bool ((rd_T35 l0_2 D0).f3))).heap[D2]? = some (.cells #[.int .i64 ((rd_T35 l0_2 D0).f0), .int .i64 ((rd_T35 l0_2 D0).f1), .int .i64 ((rd_T35 l0_2 D0).f2), .bool ((rd_T35 l0_2 D0).f3)] 35 (0, 0))) := ⟨Cmp.bw D1.out⟩
             have n2_ : Aside0 (Below w.heap.size w ((((w17.setCell ⟨D2, 0, none⟩ (.int .i64 ((rd_T35 l0_2 D0).f0))).setCell ⟨D2, 1, none⟩ (.int .i64 ((rd_T35 l0_2 D0).f1))).setCell ⟨D2, 2, none⟩ (.int .i64 ((rd_T35 l0_2 D0).f2))).setCell ⟨D2, 3, none⟩ (.bool ((rd_T35 l0_2 D0).f3)))) := ⟨Cmp.g HB.out⟩
             (try clear D3); (try clear D1); (try clear HB)
             generalize ((((w17.setCell ⟨D2, 0, none⟩ (.int .i64 ((rd_T35 l0_2 D0).f0))).setCell ⟨D2, 1, none⟩ (.int .i64 ((rd_T35 l0_2 D0).f1))).setCell ⟨D2, 2, none⟩ (.int .i64 ((rd_T35 l0_2 D0).f2))).setCell ⟨D2, 3, none⟩ (.bool ((rd_T35 l0_2 D0).f3))) = w38 at n0_ n1_ n2_ ⊢
             have D3 := n0_; have D1 := n1_; have HB := n2_; clear n0_ n1_ n2_; replace D3 := Aside0.mk (blk_drew D3.out); replace D1 := Aside0.mk (blk_drew D1.out); replace HB := Aside0.mk (below_drew1 HB.out)
             refine start_ (n := 32) (S := fun w' => w'.cell? ⟨D2, 0, none⟩ = some (.int .i64 ((rd_T35 l0_2 D0).f0)) ∧ w'.cell? ⟨D2, 1, none⟩ = some (.int .i64 ((rd_T35 l0_2 D0).f1)) ∧ w'.cell? ⟨D2, 2, none⟩ = some (.int .i64 ((rd_T35 l0_2 D0).f2)) ∧ w'.cell? ⟨D2, 3, none⟩ = some (.bool ((rd_T35 l0_2 D0).f3))) (ds := []) (Cmp.bm 0 32) (by kernel_rfl) rfl rfl ⟨(Cmp.c0 D1 :), (Cmp.c1 D1 :), (Cmp.c2 D1 :), (Cmp.c3 D1 :)⟩ (fun hHeld => ?_); refine with_tabW impl_IsValidAccount.tab6 impl_IsValidAccount.bits6 (fun HT_ HW_ => ?_)
             generalize w38.drew = w39 at D3 D1 HB hHeld ⊢
             refine Cmp.pu HT_ 0 31 (Cmp.bm 1 31) ?_; refine Cmp.tk HT_ HW_ hHeld 1 32 (Cmp.bm 2 30) ?_
             refine one_ (i := 2) (N := some 33) (Cmp.bm 3 29) rfl rfl (one_of HT_.out (by kernel_rfl)) (by decide) (fun K hK => ?_)
             refine goes_ Try.func59 (by kernel_rfl) rfl #[.int .i64 ((rd_T35 l0_2 D0).f0), .int .i64 0, .int .i64 1000000] (by rfl) rfl rfl Cmp.q ?_
             with_reducible refine (impl_InRange.calls ((rd_T35 l0_2 D0).f0) 0 1000000 true _ F1.out).mono ?_
             rintro e w' ⟨rfl, ⟨nd, rfl⟩⟩; refine ⟨_, rfl, ?_⟩
             refine hK.out _ _ ⟨(Cmp.c0 D1 :), (Cmp.c1 D1 :), (Cmp.c2 D1 :), (Cmp.c3 D1 :)⟩ (fun hHeld => ?_)
             clear hK K
             refine norm_ (a' := ?_) ?_ ?_
             rotate_left
             ·show Act.put _ (some 33) _ = _
              simp only [Act.put, Cmp.s, Cmp.z, Cmp.c, i64_w, i32_w]; rfl
             refine Cmp.pu HT_ 3 34 (Cmp.bm 4 28) ?_; refine Cmp.pu HT_ 4 35 (Cmp.bm 5 27) ?_; refine Cmp.pu HT_ 5 36 (Cmp.bm 6 26) ?_; refine Cmp.pu HT_ 6 37 (Cmp.bm 7 25) ?_; refine Cmp.pu HT_ 7 38 (Cmp.bm 8 24) ?_; refine Cmp.pv HT_ 8 39 (Cmp.bm 9 23) ?_; refine Cmp.pv HT_ 9 40 (Cmp.bm 10 22) ?_; refine Cmp.pv HT_ 10 41 (Cmp.bm 11 21) ?_; refine Cmp.pv HT_ 11 42 (Cmp.bm 12 20) ?_; refine Cmp.pv HT_ 12 43 (Cmp.bm 13 19) ?_; refine Cmp.pv HT_ 13 44 (Cmp.bm 14 18) ?_; refine Cmp.pv HT_ 14 45 (Cmp.bm 15 17) ?_; refine Cmp.pv HT_ 15 46 (Cmp.bm 16 16) ?_; refine Cmp.pv HT_ 16 47 (Cmp.bm 17 15) ?_; refine Cmp.pv HT_ 17 48 (Cmp.bm 18 14) ?_; refine Cmp.pu HT_ 18 49 (Cmp.bm 19 13) ?_; refine Cmp.pu HT_ 19 50 (Cmp.bm 20 12) ?_; refine Cmp.pu HT_ 20 51 (Cmp.bm 21 11) ?_; refine Cmp.pu HT_ 21 52 (Cmp.bm 22 10) ?_; refine Cmp.tk HT_ HW_ hHeld 22 53 (Cmp.bm 23 9) ?_
             refine one_ (i := 23) (N := some 54) (Cmp.bm 24 8) rfl rfl (one_of HT_.out (by kernel_rfl)) (by decide) (fun K hK => ?_)
             refine goes_ Try.func60 (by kernel_rfl) rfl #[.int .i64 ((rd_T35 l0_2 D0).f1)] (by rfl) rfl rfl Cmp.q ?_
             with_reducible refine (impl_PrivateKey.calls k2 ((rd_T35 l0_2 D0).f1) Dw _ Gn.out).mono ?_
             rintro e w' ⟨rfl, ⟨nd, rfl⟩⟩; refine ⟨_, rfl, ?_⟩
             refine hK.out _ _ ⟨(Cmp.c0 D1 :), (Cmp.c1 D1 :), (Cmp.c2 D1 :), (Cmp.c3 D1 :)⟩ (fun hHeld => ?_)
             clear hK K
             refine norm_ (a' := ?_) ?_ ?_
             rotate_left
             ·show Act.put _ (some 54) _ = _
              simp only [Act.put, Cmp.s, Cmp.z, Cmp.c, i64_w, i32_w]; rfl
             refine Cmp.pu HT_ 24 55 (Cmp.bm 25 7) ?_; refine Cmp.pu HT_ 25 56 (Cmp.bm 26 6) ?_; refine Cmp.pu HT_ 26 57 (Cmp.bm 27 5) ?_; refine Cmp.pv HT_ 27 58 (Cmp.bm 28 4) ?_; refine Cmp.pv HT_ 28 59 (Cmp.bm 29 3) ?_; refine Cmp.pv HT_ 29 60 (Cmp.bm 30 2) ?_; refine Cmp.pv HT_ 30 61 (Cmp.bm 31 1) ?_; refine Cmp.pu HT_ 31 62 (Cmp.bm 32 0) ?_
             refine done_ (done_of HT_.out (by kernel_rfl)) ?_
             try go_wp2
             go_meet
             case rel => exact ⟨_, (true), (by first | rfl | simp | simp [*]), H', ⟨by have := HJ1.out; have := HK2.out; first | omega | exact Nat.le_refl _⟩, Cmp.bq D3, Cmp.bq D1, ⟨Cmp.g HB.out⟩⟩
            ·rw [if_neg c37] at H; have c37b0 : (Dw == 0) = false := beq_eq_false_iff_ne.mpr c37; have c37b1 : (Dw != 0) = true := bne_iff_ne.mpr c37; replace H := Option.bind_eq_some_iff.mp H; obtain ⟨Ff, Fa, H⟩ := H; (try dsimp only at H); have Fg := Aside0.mk Fa; clear Fa
             have H' := Aside0.mk H
             clear H
             try go_wp2
             have n0_ : Aside0 (((((w17.setCell ⟨D2, 0, none⟩ (.int .i64 ((rd_T35 l0_2 D0).f0))).setCell ⟨D2, 1, none⟩ (.int .i64 ((rd_T35 l0_2 D0).f1))).setCell ⟨D2, 2, none⟩ (.int .i64 ((rd_T35 l0_2 D0).f2))).setCell ⟨D2, 3, none⟩ (.bool ((rd_T35 l0_2 D0).f3))).heap[D6]? = some (.cells #[.int .i64 a0_0, .int .i64 a0_1, .slice (some D4) l0_2.length c0_2] 26 (0, 0))) := ⟨Cmp.bw D3.out⟩
             have n1_ : Aside0 (((((w17.setCell ⟨D2, 0, none⟩ (.int .i64 ((rd_T35 l0_2 D0).f0))).setCell ⟨D2, 1, none⟩ (.int .i64 ((rd_T35 l0_2 D0).f1))).setCell ⟨D2, 2, none⟩ (.int .i64 ((rd_T35 l0_2 D0).f2))).setCell ⟨D2, 3, none⟩ (.bool ((rd_T35 l0_2 D0).f3))).heap[D2]? = some (.cells #[.int .i64 ((rd_T35 l0_2 D0).f0), .int .i64 ((rd_T35 l0_2 D0).f1), .int .i64 ((rd_T35 l0_2 D0).f2), .bool ((rd_T35 l0_2 D0).f3)] 35 (0, 0))) := ⟨Cmp.bw D1.out⟩
             have n2_ : Aside0 (Below w.heap.size w ((((w17.setCell ⟨D2, 0, none⟩ (.int .i64 ((rd_T35 l0_2 D0).f0))).setCell ⟨D2, 1, none⟩ (.int .i64 ((rd_T35 l0_2 D0).f1))).setCell ⟨D2, 2, none⟩ (.int .i64 ((rd_T35 l0_2 D0).f2))).setCell ⟨D2, 3, none⟩ (.bool ((rd_T35 l0_2 D0).f3)))) := ⟨Cmp.g HB.out⟩
             (try clear D3); (try clear D1); (try clear HB)
             generalize ((((w17.setCell ⟨D2, 0, none⟩ (.int .i64 ((rd_T35 l0_2 D0).f0))).setCell ⟨D2, 1, none⟩ (.int .i64 ((rd_T35 l0_2 D0).f1))).setCell ⟨D2, 2, none⟩ (.int .i64 ((rd_T35 l0_2 D0).f2))).setCell ⟨D2, 3, none⟩ (.bool ((rd_T35 l0_2 D0).f3))) = w41 at n0_ n1_ n2_ ⊢
             have D3 := n0_; have D1 := n1_; have HB := n2_; clear n0_ n1_ n2_; replace D3 := Aside0.mk (blk_drew D3.out); replace D1 := Aside0.mk (blk_drew D1.out); replace HB := Aside0.mk (below_drew1 HB.out)
             refine start_ (n := 32) (S := fun w' => w'.cell? ⟨D2, 0, none⟩ = some (.int .i64 ((rd_T35 l0_2 D0).f0)) ∧ w'.cell? ⟨D2, 1, none⟩ = some (.int .i64 ((rd_T35 l0_2 D0).f1)) ∧ w'.cell? ⟨D2, 2, none⟩ = some (.int .i64 ((rd_T35 l0_2 D0).f2)) ∧ w'.cell? ⟨D2, 3, none⟩ = some (.bool ((rd_T35 l0_2 D0).f3))) (ds := []) (Cmp.bm 0 32) (by kernel_rfl) rfl rfl ⟨(Cmp.c0 D1 :), (Cmp.c1 D1 :), (Cmp.c2 D1 :), (Cmp.c3 D1 :)⟩ (fun hHeld => ?_); refine with_tabW impl_IsValidAccount.tab6 impl_IsValidAccount.bits6 (fun HT_ HW_ => ?_)
             generalize w41.drew = w42 at D3 D1 HB hHeld ⊢
             refine Cmp.pu HT_ 0 31 (Cmp.bm 1 31) ?_; refine Cmp.tk HT_ HW_ hHeld 1 32 (Cmp.bm 2 30) ?_
             refine one_ (i := 2) (N := some 33) (Cmp.bm 3 29) rfl rfl (one_of HT_.out (by kernel_rfl)) (by decide) (fun K hK => ?_)
             refine goes_ Try.func59 (by kernel_rfl) rfl #[.int .i64 ((rd_T35 l0_2 D0).f0), .int .i64 0, .int .i64 1000000] (by rfl) rfl rfl Cmp.q ?_
             with_reducible refine (impl_InRange.calls ((rd_T35 l0_2 D0).f0) 0 1000000 true _ F1.out).mono ?_
             rintro e w' ⟨rfl, ⟨nd, rfl⟩⟩; refine ⟨_, rfl, ?_⟩
             refine hK.out _ _ ⟨(Cmp.c0 D1 :), (Cmp.c1 D1 :), (Cmp.c2 D1 :), (Cmp.c3 D1 :)⟩ (fun hHeld => ?_)
             clear hK K
             refine norm_ (a' := ?_) ?_ ?_
             rotate_left
             ·show Act.put _ (some 33) _ = _
              simp only [Act.put, Cmp.s, Cmp.z, Cmp.c, i64_w, i32_w]; rfl
             refine Cmp.pu HT_ 3 34 (Cmp.bm 4 28) ?_; refine Cmp.pu HT_ 4 35 (Cmp.bm 5 27) ?_; refine Cmp.pu HT_ 5 36 (Cmp.bm 6 26) ?_; refine Cmp.pu HT_ 6 37 (Cmp.bm 7 25) ?_; refine Cmp.pu HT_ 7 38 (Cmp.bm 8 24) ?_; refine Cmp.pv HT_ 8 39 (Cmp.bm 9 23) ?_; refine Cmp.pv HT_ 9 40 (Cmp.bm 10 22) ?_; refine Cmp.pv HT_ 10 41 (Cmp.bm 11 21) ?_; refine Cmp.pv HT_ 11 42 (Cmp.bm 12 20) ?_; refine Cmp.pv HT_ 12 43 (Cmp.bm 13 19) ?_; refine Cmp.pv HT_ 13 44 (Cmp.bm 14 18) ?_; refine Cmp.pv HT_ 14 45 (Cmp.bm 15 17) ?_; refine Cmp.pv HT_ 15 46 (Cmp.bm 16 16) ?_; refine Cmp.pv HT_ 16 47 (Cmp.bm 17 15) ?_; refine Cmp.pv HT_ 17 48 (Cmp.bm 18 14) ?_; refine Cmp.pu HT_ 18 49 (Cmp.bm 19 13) ?_; refine Cmp.pu HT_ 19 50 (Cmp.bm 20 12) ?_; refine Cmp.pu HT_ 20 51 (Cmp.bm 21 11) ?_; refine Cmp.pu HT_ 21 52 (Cmp.bm 22 10) ?_; refine Cmp.tk HT_ HW_ hHeld 22 53 (Cmp.bm 23 9) ?_
             refine one_ (i := 23) (N := some 54) (Cmp.bm 24 8) rfl rfl (one_of HT_.out (by kernel_rfl)) (by decide) (fun K hK => ?_)
             refine goes_ Try.func60 (by kernel_rfl) rfl #[.int .i64 ((rd_T35 l0_2 D0).f1)] (by rfl) rfl rfl Cmp.q ?_
             with_reducible refine (impl_PrivateKey.calls k2 ((rd_T35 l0_2 D0).f1) Dw _ Gn.out).mono ?_
             rintro e w' ⟨rfl, ⟨nd, rfl⟩⟩; refine ⟨_, rfl, ?_⟩
             refine hK.out _ _ ⟨(Cmp.c0 D1 :), (Cmp.c1 D1 :), (Cmp.c2 D1 :), (Cmp.c3 D1 :)⟩ (fun hHeld => ?_)
             clear hK K
             refine norm_ (a' := ?_) ?_ ?_
             rotate_left
             ·show Act.put _ (some 54) _ = _
              simp only [Act.put, Cmp.s, Cmp.z, Cmp.c, i64_w, i32_w]; rfl
             refine Cmp.pu HT_ 24 55 (Cmp.bm 25 7) ?_; refine Cmp.pu HT_ 25 56 (Cmp.bm 26 6) ?_; refine Cmp.pu HT_ 26 57 (Cmp.bm 27 5) ?_; refine Cmp.pu HT_ 27 58 (Cmp.bm 28 4) ?_; refine Cmp.tk HT_ HW_ hHeld 28 59 (Cmp.bm 29 3) ?_
             refine one_ (i := 29) (N := some 60) (Cmp.bm 30 2) rfl rfl (one_of HT_.out (by kernel_rfl)) (by decide) (fun K hK => ?_)
             refine goes_ Try.func59 (by kernel_rfl) rfl #[.int .i64 ((rd_T35 l0_2 D0).f2), .int .i64 0, .int .i64 1000000] (by rfl) rfl rfl Cmp.q ?_
             with_reducible refine (impl_InRange.calls ((rd_T35 l0_2 D0).f2) 0 1000000 Ff _ Fg.out).mono ?_
             rintro e w' ⟨rfl, ⟨nd, rfl⟩⟩; refine ⟨_, rfl, ?_⟩
             refine hK.out _ _ ⟨(Cmp.c0 D1 :), (Cmp.c1 D1 :), (Cmp.c2 D1 :), (Cmp.c3 D1 :)⟩ (fun hHeld => ?_)
             clear hK K
             refine norm_ (a' := ?_) ?_ ?_
             rotate_left
             ·show Act.put _ (some 60) _ = _
              simp only [Act.put, Cmp.s, Cmp.z, Cmp.c, i64_w, i32_w]; rfl
             refine Cmp.pu HT_ 30 61 (Cmp.bm 31 1) ?_; refine Cmp.pu HT_ 31 62 (Cmp.bm 32 0) ?_
             refine done_ (done_of HT_.out (by kernel_rfl)) ?_
             try go_wp2
             go_meet
             case rel => exact ⟨_, (!Ff), (by first | rfl | simp | simp [*]), H', ⟨by have := HJ1.out; have := HK2.out; first | omega | exact Nat.le_refl _⟩, Cmp.bq D3, Cmp.bq D1, ⟨Cmp.g HB.out⟩⟩
          ·replace c21 := Bool.eq_false_iff.mpr c21
           subst c21
           have H1 : (impl_IsValidAccount.j2 k2 D0 l0_2 (l0_2.length : Int) D0 true a0_0 a0_1 l0_2 ((rd_T35 l0_2 D0).f0) ((rd_T35 l0_2 D0).f1) ((rd_T35 l0_2 D0).f2) ((rd_T35 l0_2 D0).f3)) = some r := by rw [if_neg (show ¬ (false = true) by decide)] at H; exact H
           clear H; have H := H1; clear H1
           have H' := Aside0.mk H
           clear H
           try go_wp2
           have n0_ : Aside0 (((((w17.setCell ⟨D2, 0, none⟩ (.int .i64 ((rd_T35 l0_2 D0).f0))).setCell ⟨D2, 1, none⟩ (.int .i64 ((rd_T35 l0_2 D0).f1))).setCell ⟨D2, 2, none⟩ (.int .i64 ((rd_T35 l0_2 D0).f2))).setCell ⟨D2, 3, none⟩ (.bool ((rd_T35 l0_2 D0).f3))).heap[D6]? = some (.cells #[.int .i64 a0_0, .int .i64 a0_1, .slice (some D4) l0_2.length c0_2] 26 (0, 0))) := ⟨Cmp.bw D3.out⟩
           have n1_ : Aside0 (((((w17.setCell ⟨D2, 0, none⟩ (.int .i64 ((rd_T35 l0_2 D0).f0))).setCell ⟨D2, 1, none⟩ (.int .i64 ((rd_T35 l0_2 D0).f1))).setCell ⟨D2, 2, none⟩ (.int .i64 ((rd_T35 l0_2 D0).f2))).setCell ⟨D2, 3, none⟩ (.bool ((rd_T35 l0_2 D0).f3))).heap[D2]? = some (.cells #[.int .i64 ((rd_T35 l0_2 D0).f0), .int .i64 ((rd_T35 l0_2 D0).f1), .int .i64 ((rd_T35 l0_2 D0).f2), .bool ((rd_T35 l0_2 D0).f3)] 35 (0, 0))) := ⟨Cmp.bw D1.out⟩
           have n2_ : Aside0 (Below w.heap.size w ((((w17.setCell ⟨D2, 0, none⟩ (.int .i64 ((rd_T35 l0_2 D0).f0))).setCell ⟨D2, 1, none⟩ (.int .i64 ((rd_T35 l0_2 D0).f1))).setCell ⟨D2, 2, none⟩ (.int .i64 ((rd_T35 l0_2 D0).f2))).setCell ⟨D2, 3, none⟩ (.bool ((rd_T35 l0_2 D0).f3)))) := ⟨Cmp.g HB.out⟩
           (try clear D3); (try clear D1); (try clear HB)
           generalize ((((w17.setCell ⟨D2, 0, none⟩ (.int .i64 ((rd_T35 l0_2 D0).f0))).setCell ⟨D2, 1, none⟩ (.int .i64 ((rd_T35 l0_2 D0).f1))).setCell ⟨D2, 2, none⟩ (.int .i64 ((rd_T35 l0_2 D0).f2))).setCell ⟨D2, 3, none⟩ (.bool ((rd_T35 l0_2 D0).f3))) = w43 at n0_ n1_ n2_ ⊢
           have D3 := n0_; have D1 := n1_; have HB := n2_; clear n0_ n1_ n2_; replace D3 := Aside0.mk (blk_drew D3.out); replace D1 := Aside0.mk (blk_drew D1.out); replace HB := Aside0.mk (below_drew1 HB.out)
           refine start_ (n := 32) (S := fun w' => w'.cell? ⟨D2, 0, none⟩ = some (.int .i64 ((rd_T35 l0_2 D0).f0)) ∧ w'.cell? ⟨D2, 1, none⟩ = some (.int .i64 ((rd_T35 l0_2 D0).f1)) ∧ w'.cell? ⟨D2, 2, none⟩ = some (.int .i64 ((rd_T35 l0_2 D0).f2)) ∧ w'.cell? ⟨D2, 3, none⟩ = some (.bool ((rd_T35 l0_2 D0).f3))) (ds := []) (Cmp.bm 0 32) (by kernel_rfl) rfl rfl ⟨(Cmp.c0 D1 :), (Cmp.c1 D1 :), (Cmp.c2 D1 :), (Cmp.c3 D1 :)⟩ (fun hHeld => ?_); refine with_tabW impl_IsValidAccount.tab6 impl_IsValidAccount.bits6 (fun HT_ HW_ => ?_)
           generalize w43.drew = w44 at D3 D1 HB hHeld ⊢
           refine Cmp.pu HT_ 0 31 (Cmp.bm 1 31) ?_; refine Cmp.tk HT_ HW_ hHeld 1 32 (Cmp.bm 2 30) ?_
           refine one_ (i := 2) (N := some 33) (Cmp.bm 3 29) rfl rfl (one_of HT_.out (by kernel_rfl)) (by decide) (fun K hK => ?_)
           refine goes_ Try.func59 (by kernel_rfl) rfl #[.int .i64 ((rd_T35 l0_2 D0).f0), .int .i64 0, .int .i64 1000000] (by rfl) rfl rfl Cmp.q ?_
           with_reducible refine (impl_InRange.calls ((rd_T35 l0_2 D0).f0) 0 1000000 false _ F1.out).mono ?_
           rintro e w' ⟨rfl, ⟨nd, rfl⟩⟩; refine ⟨_, rfl, ?_⟩
           refine hK.out _ _ ⟨(Cmp.c0 D1 :), (Cmp.c1 D1 :), (Cmp.c2 D1 :), (Cmp.c3 D1 :)⟩ (fun hHeld => ?_)
           clear hK K
           refine norm_ (a' := ?_) ?_ ?_
           rotate_left
           ·show Act.put _ (some 33) _ = _
            simp only [Act.put, Cmp.s, Cmp.z, Cmp.c, i64_w, i32_w]; rfl
           refine Cmp.pu HT_ 3 34 (Cmp.bm 4 28) ?_; refine Cmp.pu HT_ 4 35 (Cmp.bm 5 27) ?_; refine Cmp.pv HT_ 5 36 (Cmp.bm 6 26) ?_; refine Cmp.pv HT_ 6 37 (Cmp.bm 7 25) ?_; refine Cmp.pv HT_ 7 38 (Cmp.bm 8 24) ?_; refine Cmp.pv HT_ 8 39 (Cmp.bm 9 23) ?_; refine Cmp.pv HT_ 9 40 (Cmp.bm 10 22) ?_; refine Cmp.pv HT_ 10 41 (Cmp.bm 11 21) ?_; refine Cmp.pv HT_ 11 42 (Cmp.bm 12 20) ?_; refine Cmp.pv HT_ 12 43 (Cmp.bm 13 19) ?_; refine Cmp.pv HT_ 13 44 (Cmp.bm 14 18) ?_; refine Cmp.pv HT_ 14 45 (Cmp.bm 15 17) ?_; refine Cmp.pv HT_ 15 46 (Cmp.bm 16 16) ?_; refine Cmp.pv HT_ 16 47 (Cmp.bm 17 15) ?_; refine Cmp.pv HT_ 17 48 (Cmp.bm 18 14) ?_; refine Cmp.pv HT_ 18 49 (Cmp.bm 19 13) ?_; refine Cmp.pu HT_ 19 50 (Cmp.bm 20 12) ?_; refine Cmp.pu HT_ 20 51 (Cmp.bm 21 11) ?_; refine Cmp.pv HT_ 21 52 (Cmp.bm 22 10) ?_; refine Cmp.pv HT_ 22 53 (Cmp.bm 23 9) ?_; refine Cmp.pv HT_ 23 54 (Cmp.bm 24 8) ?_; refine Cmp.pv HT_ 24 55 (Cmp.bm 25 7) ?_; refine Cmp.pu HT_ 25 56 (Cmp.bm 26 6) ?_; refine Cmp.pu HT_ 26 57 (Cmp.bm 27 5) ?_; refine Cmp.pv HT_ 27 58 (Cmp.bm 28 4) ?_; refine Cmp.pv HT_ 28 59 (Cmp.bm 29 3) ?_; refine Cmp.pv HT_ 29 60 (Cmp.bm 30 2) ?_; refine Cmp.pv HT_ 30 61 (Cmp.bm 31 1) ?_; refine Cmp.pu HT_ 31 62 (Cmp.bm 32 0) ?_
           refine done_ (done_of HT_.out (by kernel_rfl)) ?_
           try go_wp2
           go_meet
           case rel => exact ⟨_, (true), (by first | rfl | simp | simp [*]), H', ⟨by have := HJ1.out; have := HK2.out; first | omega | exact Nat.le_refl _⟩, Cmp.bq D3, Cmp.bq D1, ⟨Cmp.g HB.out⟩⟩
         case rest =>
          clear F2; (try clear c2); (try clear p2); (try clear c3); (try clear c5); (try clear c6); (try clear c21); (try clear c37); (try clear c37b0); (try clear c37b1)
          obtain ⟨kq, Dt, rfl, HA, HJ15, D3, D1, HB⟩ := hcut
          cases kq with
          | zero => exact absurd HA.out (by simp [impl_IsValidAccount.j2])
          | succ kj15 =>
           have H := HA.out; clear HA
           simp only [impl_IsValidAccount.j2] at H
           by_cases c45 : Dt = true
           ·subst c45; rw [if_pos rfl] at H
            obtain rfl := Option.some.inj H
            go_wp2
            go_ret
            exact ⟨by first | rfl | (simp [errW_none, errW_some] <;> rfl) | (simp [*, errW_none, errW_some] <;> rfl), Cmp.g HB.out⟩
           ·replace c45 := Bool.eq_false_iff.mpr c45
            subst c45
            have H1 : (if 0 ≤ D0 then (if D0 ≤ (l0_2.length : Int) then ((some (l0_2.take (D0 : Int).toNat : List (S35))).bind fun Dh => (impl_IsValidAccount.l1 kj15 l0_2 (l0_2.length : Int) D0 Dh (Dh.length : Int) 0 a0_0 a0_1 l0_2 ((rd_T35 l0_2 D0).f0) ((rd_T35 l0_2 D0).f1) ((rd_T35 l0_2 D0).f2) ((rd_T35 l0_2 D0).f3))) else (none)) else (none)) = some r := by rw [if_neg (show ¬ (false = true) by decide)] at H; exact H
            clear H; have H := H1; clear H1
            by_cases c46 : 0 ≤ D0
            ·rw [if_pos c46] at H
             have c46b0 := eq_true c46
             have c46b1 : decide (0 ≤ D0) = true := decide_eq_true c46; clear c46
             by_cases c47 : D0 ≤ (l0_2.length : Int)
             ·rw [if_pos c47] at H
              have c47b0 := eq_true c47
              have c47b1 : decide (D0 ≤ (l0_2.length : Int)) = true := decide_eq_true c47
              clear c47
              obtain ⟨Dh, hy417⟩ : ∃ y_ : List (S35), y_ = (l0_2.take (D0 : Int).toNat) := ⟨_, rfl⟩
              replace H : (impl_IsValidAccount.l1 kj15 l0_2 (l0_2.length : Int) D0 Dh (Dh.length : Int) 0 a0_0 a0_1 l0_2 ((rd_T35 l0_2 D0).f0) ((rd_T35 l0_2 D0).f1) ((rd_T35 l0_2 D0).f2) ((rd_T35 l0_2 D0).f3)) = some r := by first | (rw [hy417]; with_reducible exact H) | (have H2_ := (Option.bind_some _ _).symm.trans H; rw [hy417]; with_reducible exact H2_) | (have H2_ := (Option.bind_some _ _).symm.trans H; with_reducible exact H2_) | with_reducible exact H | (rw [hy417]; exact H) | exact H
              have Ez := Aside0.mk hy417; clear hy417
              have H' := Aside0.mk H
              clear H; have Gv := Di.out; have J3 := Dj.out
              have Ep : wc.cell? ⟨D6, 0, none⟩ = some (.int .i64 a0_0) := (blk_cell D3.out 0).trans rfl
              have Eq : wc.cell? ⟨D6, 1, none⟩ = some (.int .i64 a0_1) := (blk_cell D3.out 1).trans rfl
              have Er : wc.cell? ⟨D6, 2, none⟩ = some (.slice (some D4) l0_2.length c0_2) := (blk_cell D3.out 2).trans rfl
              have Ev := blk_frozen D3.out 0; have Ew := blk_frozen D3.out 1; have Ex := blk_frozen D3.out 2
              have q50 : (D0 : Int) ≤ ((l0_2.length : Int) : Int) := of_decide_eq_true Cmp.d
              obtain ⟨i050, F0, _, hsz50, _⟩ := info_parts info35
              have E3 : l0_2.length ≤ c0_2 := HC0_2.out
              have Fe : Kd.C k35 _ (some D4) l0_2.length l0_2 := Du.out
              have F3 := cut_to (P := Try.prog) 24 35 .i64 Try.underlying24 F0 (some D4) l0_2.length c0_2 D0 (of_decide_eq_true Cmp.d) q50 E3
              have hr50 := Kd.C_take (m := (D0 : Int).toNat) Fe (by omega)
              have hy50 : Dh.length = (D0 : Int).toNat := (by rw [Ez.out, List.length_take]; omega)
              rw [← Ez.out] at hr50
              rw [← hy50] at F3
              have HR420 := Aside0.mk hr50
              have Gt := Aside0.mk (show Dh.length ≤ c0_2 from by omega)
              clear hr50 Fe E3 F0 hsz50; have KY50 := Aside0.mk hy50; clear hy50; replace q50 := eq_true q50
              go_wp2
              go_loopg [68] kj15 (fun kq v68 w' => ∃ (Db : Int), v68 = .int .i64 Db ∧ Aside0 (impl_IsValidAccount.l1 kq l0_2 (l0_2.length : Int) D0 Dh (Dh.length : Int) Db a0_0 a0_1 l0_2 ((rd_T35 l0_2 D0).f0) ((rd_T35 l0_2 D0).f1) ((rd_T35 l0_2 D0).f2) ((rd_T35 l0_2 D0).f3) = some r) ∧ Aside0 (kq ≤ kj15) ∧ Aside0 (w'.heap[D6]? = some (.cells #[.int .i64 a0_0, .int .i64 a0_1, (.slice (some D4) l0_2.length c0_2)] 26 (0, 0))) ∧ Aside0 (w'.heap[D2]? = some (.cells #[.int .i64 ((rd_T35 l0_2 D0).f0), .int .i64 ((rd_T35 l0_2 D0).f1), .int .i64 ((rd_T35 l0_2 D0).f2), .bool ((rd_T35 l0_2 D0).f3)] 35 (0, 0))) ∧ Aside0 (Below w.heap.size w w'))
              case atStart => exact ⟨(0), (by first | rfl | simp | simp [*]), H', ⟨Nat.le_refl _⟩, Cmp.bq D3, Cmp.bq D1, ⟨Cmp.g HB.out⟩⟩
              case round =>
               clear H'
               (try clear c2); (try clear p2); (try clear c3); (try clear c4); (try clear c5); (try clear q5); (try clear c6); (try clear c21); (try clear c37); (try clear c37b0); (try clear c37b1); (try clear c45); (try clear c46); (try clear c46b0); (try clear c46b1); (try clear c47); (try clear c47b0); (try clear c47b1); (try clear c48); (try clear q50); (try clear Ep); (try clear Eq); (try clear Er); (try clear Ev); (try clear Ew); (try clear Ex); (try clear p2); (try clear q50)
               obtain ⟨Db, rfl, HA, HK4, D3, D1, HB⟩ := hrel
               cases gk with
               | zero => exact absurd HA.out (by simp [impl_IsValidAccount.l1])
               | succ k4 =>
                have H := HA.out; clear HA
                simp only [impl_IsValidAccount.l1] at H
                by_cases c51 : Db < (Dh.length : Int)
                ·rw [if_pos c51] at H
                 have c51b0 : decide (Db < (Dh.length : Int)) = true := decide_eq_true c51
                 clear c51
                 by_cases c52 : 0 ≤ Db
                 ·rw [if_pos c52] at H; have c52b0 : decide (0 ≤ Db) = true := decide_eq_true c52; clear c52
                  by_cases c53 : Db < (Dh.length : Int)
                  ·rw [if_pos c53] at H
                   have c53b0 : decide (Db < (Dh.length : Int)) = true := decide_eq_true c53
                   clear c53
                   by_cases c54 : ((rd_T35 Dh Db).f1) = ((rd_T35 l0_2 D0).f1)
                   ·rw [if_pos c54] at H; have c54b0 : (((rd_T35 Dh Db).f1) == ((rd_T35 l0_2 D0).f1)) = true := beq_iff_eq.mpr c54; have c54b1 : (((rd_T35 Dh Db).f1) != ((rd_T35 l0_2 D0).f1)) = false := bne_eq_false_iff_eq.mpr c54; clear c54
                    obtain rfl := Option.some.inj H
                    have p421 : 0 ≤ (Db : Int) := of_decide_eq_true Cmp.d
                    have q421 : Db < (Dh.length : Int) := of_decide_eq_true Cmp.d
                    obtain ⟨E9, e421, Dk, Dl, Dm, Dn⟩ := at_T35 HR420.out Db p421 q421
                    obtain rfl : D4 = E9 := (by injection e421)
                    replace Dk := Cmp.hc HB Dk
                    replace Dl := Cmp.hc HB Dl
                    replace Dm := Cmp.hc HB Dm
                    replace Dn := Cmp.hc HB Dn
                    replace p421 := eq_true p421; replace q421 := eq_true q421
                    go_wp2_with (first | ((with_reducible refine gate_dst (N := 6) rfl ?_); (try (refine gate_guard (by rfl) ?_; dsimp only)); refine box_event ?hg (N := 6) ?hd (cs := #[.int .i64 0, .int .i64 0, .int .i64 0, .bool false]) (t := 35) ?hr ?_; (case hd => rfl); (case hg => rfl); (case hr => first | (go_simp; done) | (go_simp; rfl)); intro Fd hg w55 hbox hb; have Dg := Aside0.mk (hbox); have Fc := Cmp.gw hg HB; have Fb := Cmp.gw hg HB; have Do := Cmp.nl hg D3; have Dq := Cmp.ng hg D3; have Dp := Cmp.nl hg D1; have Dr := Cmp.ng hg D1; replace D3 := Cmp.be D3 hb; replace D1 := Cmp.be D1 hb; replace HB := Cmp.bs HB hb; clear hb hbox hg; have Gw := Dq.out; have J4 := Do.out; have Gx := Dr.out; have J5 := Dp.out; have Fl := Cmp.c0 Dg; have Fm := Cmp.c1 Dg; have Fn := Cmp.c2 Dg; have Fo := Cmp.c3 Dg; have G5 := blk_frozen Dg.out 0; have G6 := blk_frozen Dg.out 1; have G7 := blk_frozen Dg.out 2; have G8 := blk_frozen Dg.out 3; have Gy := Dj.out; have J6 := Di.out; have Fp := Cmp.c0 D1; have Fq := Cmp.c1 D1; have Fr := Cmp.c2 D1; have Fs := Cmp.c3 D1; have G9 := blk_frozen D1.out 0; have Ga := blk_frozen D1.out 1; have Gb := blk_frozen D1.out 2; have Gc := blk_frozen D1.out 3))
                    go_ret
                    exact ⟨by first | rfl | (simp [errW_none, errW_some] <;> rfl) | (simp [*, errW_none, errW_some] <;> rfl), Cmp.g HB.out⟩
                   ·rw [if_neg c54] at H; have c54b0 : (((rd_T35 Dh Db).f1) == ((rd_T35 l0_2 D0).f1)) = false := beq_eq_false_iff_ne.mpr c54; have c54b1 : (((rd_T35 Dh Db).f1) != ((rd_T35 l0_2 D0).f1)) = true := bne_iff_ne.mpr c54
                    have H' := Aside0.mk H
                    clear H
                    have p421 : 0 ≤ (Db : Int) := of_decide_eq_true Cmp.d
                    have q421 : Db < (Dh.length : Int) := of_decide_eq_true Cmp.d
                    obtain ⟨E9, e421, Dk, Dl, Dm, Dn⟩ := at_T35 HR420.out Db p421 q421
                    obtain rfl : D4 = E9 := (by injection e421)
                    replace Dk := Cmp.hc HB Dk
                    replace Dl := Cmp.hc HB Dl
                    replace Dm := Cmp.hc HB Dm
                    replace Dn := Cmp.hc HB Dn
                    replace p421 := eq_true p421; replace q421 := eq_true q421
                    go_wp2_with (first | ((with_reducible refine gate_dst (N := 6) rfl ?_); (try (refine gate_guard (by rfl) ?_; dsimp only)); refine box_event ?hg (N := 6) ?hd (cs := #[.int .i64 0, .int .i64 0, .int .i64 0, .bool false]) (t := 35) ?hr ?_; (case hd => rfl); (case hg => rfl); (case hr => first | (go_simp; done) | (go_simp; rfl)); intro Fd hg w61 hbox hb; have Dg := Aside0.mk (hbox); have Fc := Cmp.gw hg HB; have Fb := Cmp.gw hg HB; have Do := Cmp.nl hg D3; have Dq := Cmp.ng hg D3; have Dp := Cmp.nl hg D1; have Dr := Cmp.ng hg D1; replace D3 := Cmp.be D3 hb; replace D1 := Cmp.be D1 hb; replace HB := Cmp.bs HB hb; clear hb hbox hg; have Gz := Dq.out; have J7 := Do.out; have J0 := Dr.out; have J8 := Dp.out; have Ft := Cmp.c0 Dg; have Fu := Cmp.c1 Dg; have Fv := Cmp.c2 Dg; have Fw := Cmp.c3 Dg; have Gd := blk_frozen Dg.out 0; have Ge := blk_frozen Dg.out 1; have Gf := blk_frozen Dg.out 2; have Gg := blk_frozen Dg.out 3; have J1 := Dj.out; have J9 := Di.out; have Fx := Cmp.c0 D1; have Fy := Cmp.c1 D1; have Fz := Cmp.c2 D1; have G0 := Cmp.c3 D1; have Gh := blk_frozen D1.out 0; have Gi := blk_frozen D1.out 1; have Gj := blk_frozen D1.out 2; have Gk := blk_frozen D1.out 3))
                    go_roundg k4
                    case measure => have := HJ1.out; have := HK2.out; have := HJ15.out; have := HK4.out; omega
                    case rel => exact ⟨(wrap64 (Db + 1)), (by first | rfl | simp | simp [*]), H', ⟨by have := HJ1.out; have := HK2.out; have := HJ15.out; have := HK4.out; omega⟩, ⟨Cmp.bw D3.out⟩, ⟨Cmp.bw D1.out⟩, ⟨Cmp.g HB.out⟩⟩
                  ·rw [if_neg c53] at H; exact absurd H (by simp)
                 ·rw [if_neg c52] at H; exact absurd H (by simp)
                ·rw [if_neg c51] at H
                 have c51b0 : decide (Db < (Dh.length : Int)) = false := decide_eq_false c51
                 clear c51
                 have H' := Aside0.mk H
                 clear H
                 go_wp2
                 go_roundg k4
                 case measure => have := HJ1.out; have := HK2.out; have := HJ15.out; have := HK4.out; omega
                 case rel => exact ⟨(wrap64 (D0 + 1)), (by first | rfl | simp | simp [*]), H', ⟨by have := HJ1.out; have := HK2.out; have := HJ15.out; have := HK4.out; omega⟩, Cmp.bq D3, ⟨Cmp.g HB.out⟩⟩
             ·rw [if_neg c47] at H; exact absurd H (by simp)
            ·rw [if_neg c46] at H; exact absurd H (by simp)
        ·rw [if_neg c15] at H; exact absurd H (by simp)
       ·rw [if_neg c14] at H; exact absurd H (by simp)
      ·rw [if_neg c13] at H
       have c13b0 : decide (D0 < (l0_2.length : Int)) = false := decide_eq_false c13
       clear c13
       obtain rfl := Option.some.inj H
       go_wp2
       go_ret
       exact ⟨by first | rfl | (simp [errW_none, errW_some] <;> rfl) | (simp [*, errW_none, errW_some] <;> rfl), Cmp.g HB.out⟩

end Go.Proofs.Ytgcipecdaimjfaa.PFnCredentials
