/- Printed functions of the program, out of print.sh, told more shortly. No condition. -/
import Derived.Test.YtpgjecknkmmnhaaDoorCmp
import Derived.Test.YtpgjecknkmmnhaaDoorPFnExactOpenTabx0
import Derived.Test.YtpgjecknkmmnhaaDoorPFnExactOpenTabx5
namespace Go.Proofs.YtpgjecknkmmnhaaDoor.PFnExactOpenTab
open Go.Proofs.YtpgjecknkmmnhaaDoor
open Go.RowKit Go.Proofs.YtpgjecknkmmnhaaDoorW.PrintWords Go.Proofs.YtpgjecknkmmnhaaDoorW.PrintLast Go.Proofs.YtpgjecknkmmnhaaDoorW.PrintMore
attribute [local go_sem] max2_int min2_int max_two min_two max_three min_three max_four min_four   -- for this text's walks alone
set_option linter.unusedVariables false
set_option linter.unusedSimpArgs false
/-! ### laws_heldTabS: function 26 -/
def laws_heldTabS.l0 : Nat → List (S49) → Int → Int → Option (Int)
  | 0, _, _, _ => none
  | k + 1, x0, x1, x5 => if x5 < (x0.length : Int) then (if 0 ≤ x5 then (if (((rd_T49 x0 x5).f0.f0) != ((Int.tmod x1 3) == 0)) = true then (some (-1)) else ((laws_markText.f k (wrap64 (x1 + 1))).bind fun t257 => (if ((rd_T49 x0 x5).f0.f1).toList = t257.toList then (if ((rd_T49 x0 x5).f0.f2) = (wrap64 ((wrap64 (x1 + 1)) + 1)) then (if (((rd_T49 x0 x5).f1.f0) != ((Int.tmod (wrap64 ((wrap64 ((wrap64 (x1 + 1)) + 1)) + 1)) 3) == 0)) = true then (some (-1)) else ((laws_markText.f k (wrap64 ((wrap64 ((wrap64 ((wrap64 (x1 + 1)) + 1)) + 1)) + 1))).bind fun t261 => (if ((rd_T49 x0 x5).f1.f1).toList = t261.toList then (if ((rd_T49 x0 x5).f1.f2) = (wrap64 ((wrap64 ((wrap64 ((wrap64 ((wrap64 (x1 + 1)) + 1)) + 1)) + 1)) + 1)) then (laws_heldTabS.l0 k x0 (wrap64 ((wrap64 ((wrap64 ((wrap64 ((wrap64 ((wrap64 (x1 + 1)) + 1)) + 1)) + 1)) + 1)) + 1)) (wrap64 (x5 + 1))) else (some (-1))) else (some (-1))))) else (some (-1))) else (some (-1))))) else (none)) else (some x1)
def laws_heldTabS.f (k : Nat) (l0 : List (S49)) (a1 : Int) : Option (Int) := laws_heldTabS.l0 k l0 a1 0
theorem laws_heldTabS.mono_l : ∀ k, (∀ y0 y1 y2, LeO (laws_heldTabS.l0 k y0 y1 y2) (laws_heldTabS.l0 (k + 1) y0 y1 y2))
 | 0 => fun _ _ _ r h => by simp [laws_heldTabS.l0] at h
 | k + 1 => by
    have ih0 := laws_heldTabS.mono_l k
    · intro y0 y1 y2
      unfold laws_heldTabS.l0
      repeat' first
 | (with_reducible exact ih0 _ _ _)
 | (with_reducible exact laws_markText.mono _ _)
 | (with_reducible exact LeO.refl _)
 | (with_reducible exact LeO.none _)
 | (with_reducible refine LeO.ite ?_ ?_)
 | (with_reducible refine LeO.bind ?_ (fun _ => ?_))
theorem laws_heldTabS.mono : ∀ a0 a1 k, LeO (laws_heldTabS.f k a0 a1) (laws_heldTabS.f (k + 1) a0 a1) := by
  intro a0 a1 k
  have ih0 := laws_heldTabS.mono_l k
  unfold laws_heldTabS.f
  repeat' first
 | (with_reducible exact ih0 _ _ _)
 | (with_reducible exact laws_markText.mono _ _)
 | (with_reducible exact LeO.refl _)
 | (with_reducible exact LeO.none _)
 | (with_reducible refine LeO.ite ?_ ?_)
 | (with_reducible refine LeO.bind ?_ (fun _ => ?_))
def laws_heldTabS.T7 : Bool × List (List Nat × List Nat) := (true, [([], []), ([], []), ([0, 1], [0, 1]), ([2], [2]), ([3], [3]), ([4], [4]), ([], []), ([6], [6]), ([5, 7], [5, 7])])
def laws_heldTabS.B7 : List Nat := [0, 0, 3, 7, 15, 31, 0, 64, 255]
theorem laws_heldTabS.tab7 : rtab .any (opsOf Tryd.f26 7) = laws_heldTabS.T7 := by kernel_rfl
theorem laws_heldTabS.bits7 : waitsOk laws_heldTabS.T7.2 laws_heldTabS.B7 = true := by kernel_rfl
def laws_heldTabS.T16 : Bool × List (List Nat × List Nat) := (true, [([], []), ([], []), ([0, 1], [0, 1]), ([2], [2]), ([3], [3]), ([4], [4]), ([], []), ([6], [6]), ([5, 7], [5, 7])])
def laws_heldTabS.B16 : List Nat := [0, 0, 3, 7, 15, 31, 0, 64, 255]
theorem laws_heldTabS.tab16 : rtab .any (opsOf Tryd.f26 16) = laws_heldTabS.T16 := by kernel_rfl
theorem laws_heldTabS.bits16 : waitsOk laws_heldTabS.T16.2 laws_heldTabS.B16 = true := by kernel_rfl
set_option maxHeartbeats 8000000 in
set_option maxRecDepth 100000 in
theorem laws_heldTabS.calls (k : Nat) (A0 : Option Addr) (c0 : Nat) (l0 : List (S49)) (a1 : Int) (r : Int) (w : World) (hr0 : Kd.C k49 w A0 l0.length l0) (hc0 : l0.length ≤ c0) (h : laws_heldTabS.f k l0 a1 = some r) :
    Calls Tryd.prog 26 #[.slice A0 l0.length c0, .int .i64 a1] w fun e w' => e = .returned (.int .i64 r) ∧ Below w.heap.size w w' := by
 have HR0 := Cmp.A hr0; have HC0 := Cmp.A hc0; clear hr0 hc0
 have HB := Cmp.A (Below.refl w.heap.size w)
 have H : (laws_heldTabS.l0 k l0 a1 0) = some r := h
 clear h
 have H' := Cmp.A H
 clear H
 go_enter Tryd.func26, Tryd.ntmps26
 go_wp2
 go_loopg [1, 5] k (fun kq v1 v5 w' => ∃ (De : Int) (D0 : Int), v1 = .int .i64 De ∧ v5 = .int .i64 D0 ∧ Aside0 (laws_heldTabS.l0 kq l0 De D0 = some r) ∧ Aside0 (kq ≤ k) ∧ Aside0 (Below w.heap.size w w'))
 case atStart => exact ⟨(a1), (0), (by first | rfl | simp | simp [*]), (by first | rfl | simp | simp [*]), H', ⟨Nat.le_refl _⟩, ⟨Cmp.g HB.out⟩⟩
 case round =>
  clear H'
  (try clear c2); (try clear p2)
  obtain ⟨De, D0, rfl, rfl, HA, HK1, HB⟩ := hrel
  cases gk with
  | zero => exact absurd HA.out (by simp [laws_heldTabS.l0])
  | succ k1 =>
   have H := HA.out; clear HA
   simp only [laws_heldTabS.l0] at H
   by_cases c3 : D0 < (l0.length : Int)
   ·rw [if_pos c3] at H
    have c3b0 : decide (D0 < (l0.length : Int)) = true := decide_eq_true c3
    clear c3
    by_cases c4 : 0 ≤ D0
    ·rw [if_pos c4] at H; have c4b0 : decide (0 ≤ D0) = true := decide_eq_true c4; clear c4
     by_cases c5 : (((rd_T49 l0 D0).f0.f0) != ((Int.tmod De 3) == 0)) = true
     ·rw [if_pos c5] at H
      have c5b0 : (((rd_T49 l0 D0).f0.f0) != ((Int.tmod De 3) == 0)) = true := c5
      (try (have c5b1 : decide (((rd_T49 l0 D0).f0.f0) = ((Int.tmod De 3) == 0)) = false := by simpa using c5))
      (try (have c5b2 : (((rd_T49 l0 D0).f0.f0) == ((Int.tmod De 3) == 0)) = false := by simpa using c5))
      (try (have c5b3 : ¬ (((rd_T49 l0 D0).f0.f0) = ((Int.tmod De 3) == 0)) := by simpa using c5))
      clear c5
      obtain rfl := Option.some.inj H
      have p255 : 0 ≤ (D0 : Int) := of_decide_eq_true Cmp.d
      have q255 : D0 < (l0.length : Int) := of_decide_eq_true Cmp.d
      obtain ⟨D1, e255, D8, D9, Da, Db, Dc, Dd⟩ := at_T49 HR0.out D0 p255 q255
      cases e255
      replace D8 := Cmp.hc HB D8
      replace D9 := Cmp.hc HB D9
      replace Da := Cmp.hc HB Da
      replace Db := Cmp.hc HB Db
      replace Dc := Cmp.hc HB Dc
      replace Dd := Cmp.hc HB Dd
      replace p255 := eq_true p255; replace q255 := eq_true q255
      go_wp2
      go_ret
      exact ⟨by first | rfl | (simp [errW_none, errW_some] <;> rfl) | (simp [*, errW_none, errW_some] <;> rfl), Cmp.g HB.out⟩
     ·rw [if_neg c5] at H
      have c5b0 : (((rd_T49 l0 D0).f0.f0) != ((Int.tmod De 3) == 0)) = false := by simpa using c5
      (try (have c5b1 : decide (((rd_T49 l0 D0).f0.f0) = ((Int.tmod De 3) == 0)) = true := by simpa using c5))
      (try (have c5b2 : (((rd_T49 l0 D0).f0.f0) == ((Int.tmod De 3) == 0)) = true := by simpa using c5))
      clear c5; replace H := Option.bind_eq_some_iff.mp H; obtain ⟨Ei, Eo, H⟩ := H; (try dsimp only at H); have A6 := Cmp.A Eo; clear Eo
      by_cases c7 : ((rd_T49 l0 D0).f0.f1).toList = Ei.toList
      ·rw [if_pos c7] at H; have c7b0 : (((rd_T49 l0 D0).f0.f1).toList == Ei.toList) = true := beq_iff_eq.mpr c7; have c7b1 : (((rd_T49 l0 D0).f0.f1).toList != Ei.toList) = false := bne_eq_false_iff_eq.mpr c7; clear c7
       by_cases c8 : ((rd_T49 l0 D0).f0.f2) = (wrap64 ((wrap64 (De + 1)) + 1))
       ·rw [if_pos c8] at H; have c8b0 : (((rd_T49 l0 D0).f0.f2) == (wrap64 ((wrap64 (De + 1)) + 1))) = true := beq_iff_eq.mpr c8; have c8b1 : (((rd_T49 l0 D0).f0.f2) != (wrap64 ((wrap64 (De + 1)) + 1))) = false := bne_eq_false_iff_eq.mpr c8; clear c8
        by_cases c9 : (((rd_T49 l0 D0).f1.f0) != ((Int.tmod (wrap64 ((wrap64 ((wrap64 (De + 1)) + 1)) + 1)) 3) == 0)) = true
        ·rw [if_pos c9] at H
         have c9b0 : (((rd_T49 l0 D0).f1.f0) != ((Int.tmod (wrap64 ((wrap64 ((wrap64 (De + 1)) + 1)) + 1)) 3) == 0)) = true := c9
         (try (have c9b1 : decide (((rd_T49 l0 D0).f1.f0) = ((Int.tmod (wrap64 ((wrap64 ((wrap64 (De + 1)) + 1)) + 1)) 3) == 0)) = false := by simpa using c9))
         (try (have c9b2 : (((rd_T49 l0 D0).f1.f0) == ((Int.tmod (wrap64 ((wrap64 ((wrap64 (De + 1)) + 1)) + 1)) 3) == 0)) = false := by simpa using c9))
         (try (have c9b3 : ¬ (((rd_T49 l0 D0).f1.f0) = ((Int.tmod (wrap64 ((wrap64 ((wrap64 (De + 1)) + 1)) + 1)) 3) == 0)) := by simpa using c9))
         clear c9
         obtain rfl := Option.some.inj H
         have p255 : 0 ≤ (D0 : Int) := of_decide_eq_true Cmp.d
         have q255 : D0 < (l0.length : Int) := of_decide_eq_true Cmp.d
         obtain ⟨D1, e255, D8, D9, Da, Db, Dc, Dd⟩ := at_T49 HR0.out D0 p255 q255
         cases e255
         replace D8 := Cmp.hc HB D8
         replace D9 := Cmp.hc HB D9
         replace Da := Cmp.hc HB Da
         replace Db := Cmp.hc HB Db
         replace Dc := Cmp.hc HB Dc
         replace Dd := Cmp.hc HB Dd
         replace p255 := eq_true p255; replace q255 := eq_true q255
         try go_wp2
         replace HB := Cmp.A (below_drew1 HB.out)
         have p256 : 0 ≤ (D0 : Int) := of_decide_eq_true Cmp.d
         have q256 : D0 < (l0.length : Int) := of_decide_eq_true Cmp.d
         obtain ⟨E9, e256, D2, D3, D4, D5, D6, D7⟩ := at_T49 HR0.out D0 p256 q256
         have Dk := D7; have Dj := D6; have Di := D5; have Dh := D4; have Dg := D3; have Df := D2
         obtain rfl : D1 = E9 := (by injection e256)
         replace D2 := Cmp.hc HB D2
         replace D3 := Cmp.hc HB D3
         replace D4 := Cmp.hc HB D4
         replace D5 := Cmp.hc HB D5
         replace D6 := Cmp.hc HB D6
         replace D7 := Cmp.hc HB D7
         replace p256 := eq_true p256; replace q256 := eq_true q256
         refine start_ (n := 9) (S := fun w' => w'.cell? (D1.add ((D0).toNat * 6)) = some (.bool ((rd_T49 l0 D0).f0.f0)) ∧ w'.cell? ⟨(D1.add ((D0).toNat * 6)).block, (D1.add ((D0).toNat * 6)).off + 1, none⟩ = some (.string ((rd_T49 l0 D0).f0.f1)) ∧ w'.cell? ⟨(D1.add ((D0).toNat * 6)).block, (D1.add ((D0).toNat * 6)).off + 2, none⟩ = some (.int .i64 ((rd_T49 l0 D0).f0.f2)) ∧ w'.cell? ⟨(D1.add ((D0).toNat * 6)).block, (D1.add ((D0).toNat * 6)).off + 3, none⟩ = some (.bool ((rd_T49 l0 D0).f1.f0)) ∧ w'.cell? ⟨(D1.add ((D0).toNat * 6)).block, (D1.add ((D0).toNat * 6)).off + 4, none⟩ = some (.string ((rd_T49 l0 D0).f1.f1)) ∧ w'.cell? ⟨(D1.add ((D0).toNat * 6)).block, (D1.add ((D0).toNat * 6)).off + 5, none⟩ = some (.int .i64 ((rd_T49 l0 D0).f1.f2))) (ds := []) (Cmp.bm 0 9) (by kernel_rfl) rfl rfl ⟨(Cmp.hc HB Df :), (Cmp.hc HB Dg :), (Cmp.hc HB Dh :), (Cmp.hc HB Di :), (Cmp.hc HB Dj :), (Cmp.hc HB Dk :)⟩ (fun hHeld => ?_); refine with_tabW laws_heldTabS.tab7 laws_heldTabS.bits7 (fun HT_ HW_ => ?_)
         generalize wr.drew = w10 at HB D2 D3 D4 D5 D6 D7 hHeld ⊢
         refine Cmp.pu HT_ 0 24 (Cmp.bm 1 8) ?_; refine Cmp.pu HT_ 1 25 (Cmp.bm 2 7) ?_; refine Cmp.pu HT_ 2 26 (Cmp.bm 3 6) ?_; refine Cmp.pu HT_ 3 27 (Cmp.bm 4 5) ?_; refine Cmp.pu HT_ 4 28 (Cmp.bm 5 4) ?_; refine Cmp.pu HT_ 6 30 (Cmp.bb 9 95) ?_; refine Cmp.tk HT_ HW_ hHeld 5 29 (Cmp.bm 7 2) ?_
         refine one_ (i := 7) (N := some 31) (Cmp.bm 8 1) rfl rfl (one_of HT_.out (by kernel_rfl)) (by decide) (fun K hK => ?_)
         refine goes_ Tryd.func34 (by kernel_rfl) rfl #[.int .i64 (wrap64 (De + 1))] (by rfl) rfl rfl Cmp.q ?_
         with_reducible refine (laws_markText.calls k1 (wrap64 (De + 1)) Ei _ A6.out).mono ?_
         rintro e w11 ⟨rfl, hb⟩; refine ⟨_, rfl, ?_⟩
         replace HB := Cmp.A (below_step (Cmp.g HB.out) hb); (try clear hb); (try clear hb2); (try clear hk); (try clear hi)
         refine hK.out _ _ ⟨(Cmp.hc HB Df :), (Cmp.hc HB Dg :), (Cmp.hc HB Dh :), (Cmp.hc HB Di :), (Cmp.hc HB Dj :), (Cmp.hc HB Dk :)⟩ (fun hHeld => ?_)
         clear hK K
         refine Cmp.no ?_
         refine Cmp.pu HT_ 8 32 (Cmp.bm 9 0) ?_
         refine done_ (done_of HT_.out (by kernel_rfl)) ?_
         have p258 : 0 ≤ (D0 : Int) := of_decide_eq_true Cmp.d
         have q258 : D0 < (l0.length : Int) := of_decide_eq_true Cmp.d
         obtain ⟨Ea, e258, Dl, Dm, Dn, Do, Dp, Dq⟩ := at_T49 HR0.out D0 p258 q258
         obtain rfl : D1 = Ea := (by injection e258)
         replace Dl := Cmp.hc HB Dl
         replace Dm := Cmp.hc HB Dm
         replace Dn := Cmp.hc HB Dn
         replace Do := Cmp.hc HB Do
         replace Dp := Cmp.hc HB Dp
         replace Dq := Cmp.hc HB Dq
         replace p258 := eq_true p258; replace q258 := eq_true q258
         have p259 : 0 ≤ (D0 : Int) := of_decide_eq_true Cmp.d
         have q259 : D0 < (l0.length : Int) := of_decide_eq_true Cmp.d
         obtain ⟨Eh, e259, Dx, Dy, Dz, E0, E1, E2⟩ := at_T49 HR0.out D0 p259 q259
         obtain rfl : D1 = Eh := (by injection e259)
         replace Dx := Cmp.hc HB Dx
         replace Dy := Cmp.hc HB Dy
         replace Dz := Cmp.hc HB Dz
         replace E0 := Cmp.hc HB E0
         replace E1 := Cmp.hc HB E1
         replace E2 := Cmp.hc HB E2
         replace p259 := eq_true p259; replace q259 := eq_true q259
         try go_wp2
         go_ret
         exact ⟨by first | rfl | (simp [errW_none, errW_some] <;> rfl) | (simp [*, errW_none, errW_some] <;> rfl), Cmp.g HB.out⟩
        ·rw [if_neg c9] at H
         have c9b0 : (((rd_T49 l0 D0).f1.f0) != ((Int.tmod (wrap64 ((wrap64 ((wrap64 (De + 1)) + 1)) + 1)) 3) == 0)) = false := by simpa using c9
         (try (have c9b1 : decide (((rd_T49 l0 D0).f1.f0) = ((Int.tmod (wrap64 ((wrap64 ((wrap64 (De + 1)) + 1)) + 1)) 3) == 0)) = true := by simpa using c9))
         (try (have c9b2 : (((rd_T49 l0 D0).f1.f0) == ((Int.tmod (wrap64 ((wrap64 ((wrap64 (De + 1)) + 1)) + 1)) 3) == 0)) = true := by simpa using c9))
         clear c9; replace H := Option.bind_eq_some_iff.mp H; obtain ⟨Ek, Em, H⟩ := H; (try dsimp only at H); have En := Cmp.A Em; clear Em
         by_cases c13 : ((rd_T49 l0 D0).f1.f1).toList = Ek.toList
         ·rw [if_pos c13] at H; have c13b0 : (((rd_T49 l0 D0).f1.f1).toList == Ek.toList) = true := beq_iff_eq.mpr c13; have c13b1 : (((rd_T49 l0 D0).f1.f1).toList != Ek.toList) = false := bne_eq_false_iff_eq.mpr c13; clear c13
          by_cases c14 : ((rd_T49 l0 D0).f1.f2) = (wrap64 ((wrap64 ((wrap64 ((wrap64 ((wrap64 (De + 1)) + 1)) + 1)) + 1)) + 1))
          ·rw [if_pos c14] at H; have c14b0 : (((rd_T49 l0 D0).f1.f2) == (wrap64 ((wrap64 ((wrap64 ((wrap64 ((wrap64 (De + 1)) + 1)) + 1)) + 1)) + 1))) = true := beq_iff_eq.mpr c14; have c14b1 : (((rd_T49 l0 D0).f1.f2) != (wrap64 ((wrap64 ((wrap64 ((wrap64 ((wrap64 (De + 1)) + 1)) + 1)) + 1)) + 1))) = false := bne_eq_false_iff_eq.mpr c14; clear c14
           have H' := Cmp.A H
           clear H
           have p255 : 0 ≤ (D0 : Int) := of_decide_eq_true Cmp.d
           have q255 : D0 < (l0.length : Int) := of_decide_eq_true Cmp.d
           obtain ⟨D1, e255, D8, D9, Da, Db, Dc, Dd⟩ := at_T49 HR0.out D0 p255 q255
           cases e255
           replace D8 := Cmp.hc HB D8
           replace D9 := Cmp.hc HB D9
           replace Da := Cmp.hc HB Da
           replace Db := Cmp.hc HB Db
           replace Dc := Cmp.hc HB Dc
           replace Dd := Cmp.hc HB Dd
           replace p255 := eq_true p255; replace q255 := eq_true q255
           try go_wp2
           replace HB := Cmp.A (below_drew1 HB.out)
           have p256 : 0 ≤ (D0 : Int) := of_decide_eq_true Cmp.d
           have q256 : D0 < (l0.length : Int) := of_decide_eq_true Cmp.d
           obtain ⟨E9, e256, D2, D3, D4, D5, D6, D7⟩ := at_T49 HR0.out D0 p256 q256
           have Dk := D7; have Dj := D6; have Di := D5; have Dh := D4; have Dg := D3; have Df := D2
           obtain rfl : D1 = E9 := (by injection e256)
           replace D2 := Cmp.hc HB D2
           replace D3 := Cmp.hc HB D3
           replace D4 := Cmp.hc HB D4
           replace D5 := Cmp.hc HB D5
           replace D6 := Cmp.hc HB D6
           replace D7 := Cmp.hc HB D7
           replace p256 := eq_true p256; replace q256 := eq_true q256
           refine start_ (n := 9) (S := fun w' => w'.cell? (D1.add ((D0).toNat * 6)) = some (.bool ((rd_T49 l0 D0).f0.f0)) ∧ w'.cell? ⟨(D1.add ((D0).toNat * 6)).block, (D1.add ((D0).toNat * 6)).off + 1, none⟩ = some (.string ((rd_T49 l0 D0).f0.f1)) ∧ w'.cell? ⟨(D1.add ((D0).toNat * 6)).block, (D1.add ((D0).toNat * 6)).off + 2, none⟩ = some (.int .i64 ((rd_T49 l0 D0).f0.f2)) ∧ w'.cell? ⟨(D1.add ((D0).toNat * 6)).block, (D1.add ((D0).toNat * 6)).off + 3, none⟩ = some (.bool ((rd_T49 l0 D0).f1.f0)) ∧ w'.cell? ⟨(D1.add ((D0).toNat * 6)).block, (D1.add ((D0).toNat * 6)).off + 4, none⟩ = some (.string ((rd_T49 l0 D0).f1.f1)) ∧ w'.cell? ⟨(D1.add ((D0).toNat * 6)).block, (D1.add ((D0).toNat * 6)).off + 5, none⟩ = some (.int .i64 ((rd_T49 l0 D0).f1.f2))) (ds := []) (Cmp.bm 0 9) (by kernel_rfl) rfl rfl ⟨(Cmp.hc HB Df :), (Cmp.hc HB Dg :), (Cmp.hc HB Dh :), (Cmp.hc HB Di :), (Cmp.hc HB Dj :), (Cmp.hc HB Dk :)⟩ (fun hHeld => ?_); refine with_tabW laws_heldTabS.tab7 laws_heldTabS.bits7 (fun HT_ HW_ => ?_)
           generalize wr.drew = w15 at HB D2 D3 D4 D5 D6 D7 hHeld ⊢
           refine Cmp.pu HT_ 0 24 (Cmp.bm 1 8) ?_; refine Cmp.pu HT_ 1 25 (Cmp.bm 2 7) ?_; refine Cmp.pu HT_ 2 26 (Cmp.bm 3 6) ?_; refine Cmp.pu HT_ 3 27 (Cmp.bm 4 5) ?_; refine Cmp.pu HT_ 4 28 (Cmp.bm 5 4) ?_; refine Cmp.pu HT_ 6 30 (Cmp.bb 9 95) ?_; refine Cmp.tk HT_ HW_ hHeld 5 29 (Cmp.bm 7 2) ?_
           refine one_ (i := 7) (N := some 31) (Cmp.bm 8 1) rfl rfl (one_of HT_.out (by kernel_rfl)) (by decide) (fun K hK => ?_)
           refine goes_ Tryd.func34 (by kernel_rfl) rfl #[.int .i64 (wrap64 (De + 1))] (by rfl) rfl rfl Cmp.q ?_
           with_reducible refine (laws_markText.calls k1 (wrap64 (De + 1)) Ei _ A6.out).mono ?_
           rintro e w16 ⟨rfl, hb⟩; refine ⟨_, rfl, ?_⟩
           replace HB := Cmp.A (below_step (Cmp.g HB.out) hb); (try clear hb); (try clear hb2); (try clear hk); (try clear hi)
           refine hK.out _ _ ⟨(Cmp.hc HB Df :), (Cmp.hc HB Dg :), (Cmp.hc HB Dh :), (Cmp.hc HB Di :), (Cmp.hc HB Dj :), (Cmp.hc HB Dk :)⟩ (fun hHeld => ?_)
           clear hK K
           refine Cmp.no ?_
           refine Cmp.pu HT_ 8 32 (Cmp.bm 9 0) ?_
           refine done_ (done_of HT_.out (by kernel_rfl)) ?_
           have p258 : 0 ≤ (D0 : Int) := of_decide_eq_true Cmp.d
           have q258 : D0 < (l0.length : Int) := of_decide_eq_true Cmp.d
           obtain ⟨Ea, e258, Dl, Dm, Dn, Do, Dp, Dq⟩ := at_T49 HR0.out D0 p258 q258
           obtain rfl : D1 = Ea := (by injection e258)
           replace Dl := Cmp.hc HB Dl
           replace Dm := Cmp.hc HB Dm
           replace Dn := Cmp.hc HB Dn
           replace Do := Cmp.hc HB Do
           replace Dp := Cmp.hc HB Dp
           replace Dq := Cmp.hc HB Dq
           replace p258 := eq_true p258; replace q258 := eq_true q258
           have p259 : 0 ≤ (D0 : Int) := of_decide_eq_true Cmp.d
           have q259 : D0 < (l0.length : Int) := of_decide_eq_true Cmp.d
           obtain ⟨Eh, e259, Dx, Dy, Dz, E0, E1, E2⟩ := at_T49 HR0.out D0 p259 q259
           obtain rfl : D1 = Eh := (by injection e259)
           replace Dx := Cmp.hc HB Dx
           replace Dy := Cmp.hc HB Dy
           replace Dz := Cmp.hc HB Dz
           replace E0 := Cmp.hc HB E0
           replace E1 := Cmp.hc HB E1
           replace E2 := Cmp.hc HB E2
           replace p259 := eq_true p259; replace q259 := eq_true q259
           try go_wp2
           replace HB := Cmp.A (below_drew1 HB.out)
           have p260 : 0 ≤ (D0 : Int) := of_decide_eq_true Cmp.d
           have q260 : D0 < (l0.length : Int) := of_decide_eq_true Cmp.d
           obtain ⟨Ej, e260, Dr, Ds, Dt, Du, Dv, Dw⟩ := at_T49 HR0.out D0 p260 q260
           have E8 := Dw; have E7 := Dv; have E6 := Du; have E5 := Dt; have E4 := Ds; have E3 := Dr
           obtain rfl : D1 = Ej := (by injection e260)
           replace Dr := Cmp.hc HB Dr
           replace Ds := Cmp.hc HB Ds
           replace Dt := Cmp.hc HB Dt
           replace Du := Cmp.hc HB Du
           replace Dv := Cmp.hc HB Dv
           replace Dw := Cmp.hc HB Dw
           replace p260 := eq_true p260; replace q260 := eq_true q260
           refine start_ (n := 9) (S := fun w' => w'.cell? (D1.add ((D0).toNat * 6)) = some (.bool ((rd_T49 l0 D0).f0.f0)) ∧ w'.cell? ⟨(D1.add ((D0).toNat * 6)).block, (D1.add ((D0).toNat * 6)).off + 1, none⟩ = some (.string ((rd_T49 l0 D0).f0.f1)) ∧ w'.cell? ⟨(D1.add ((D0).toNat * 6)).block, (D1.add ((D0).toNat * 6)).off + 2, none⟩ = some (.int .i64 ((rd_T49 l0 D0).f0.f2)) ∧ w'.cell? ⟨(D1.add ((D0).toNat * 6)).block, (D1.add ((D0).toNat * 6)).off + 3, none⟩ = some (.bool ((rd_T49 l0 D0).f1.f0)) ∧ w'.cell? ⟨(D1.add ((D0).toNat * 6)).block, (D1.add ((D0).toNat * 6)).off + 4, none⟩ = some (.string ((rd_T49 l0 D0).f1.f1)) ∧ w'.cell? ⟨(D1.add ((D0).toNat * 6)).block, (D1.add ((D0).toNat * 6)).off + 5, none⟩ = some (.int .i64 ((rd_T49 l0 D0).f1.f2))) (ds := []) (Cmp.bm 0 9) (by kernel_rfl) rfl rfl ⟨(Cmp.hc HB E3 :), (Cmp.hc HB E4 :), (Cmp.hc HB E5 :), (Cmp.hc HB E6 :), (Cmp.hc HB E7 :), (Cmp.hc HB E8 :)⟩ (fun hHeld => ?_); refine with_tabW laws_heldTabS.tab16 laws_heldTabS.bits16 (fun HT_ HW_ => ?_)
           generalize w16.drew = w17 at HB Dr Ds Dt Du Dv Dw hHeld ⊢
           refine Cmp.pu HT_ 0 57 (Cmp.bm 1 8) ?_; refine Cmp.pu HT_ 1 58 (Cmp.bm 2 7) ?_; refine Cmp.pu HT_ 2 59 (Cmp.bm 3 6) ?_; refine Cmp.pu HT_ 3 60 (Cmp.bm 4 5) ?_; refine Cmp.pu HT_ 4 61 (Cmp.bm 5 4) ?_; refine Cmp.pu HT_ 6 63 (Cmp.bb 9 95) ?_; refine Cmp.tk HT_ HW_ hHeld 5 62 (Cmp.bm 7 2) ?_
           refine one_ (i := 7) (N := some 64) (Cmp.bm 8 1) rfl rfl (one_of HT_.out (by kernel_rfl)) (by decide) (fun K hK => ?_)
           refine goes_ Tryd.func34 (by kernel_rfl) rfl #[.int .i64 (wrap64 ((wrap64 ((wrap64 ((wrap64 (De + 1)) + 1)) + 1)) + 1))] (by rfl) rfl rfl Cmp.q ?_
           with_reducible refine (laws_markText.calls k1 (wrap64 ((wrap64 ((wrap64 ((wrap64 (De + 1)) + 1)) + 1)) + 1)) Ek _ En.out).mono ?_
           rintro e w18 ⟨rfl, hb⟩; refine ⟨_, rfl, ?_⟩
           replace HB := Cmp.A (below_step (Cmp.g HB.out) hb); (try clear hb); (try clear hb2); (try clear hk); (try clear hi)
           refine hK.out _ _ ⟨(Cmp.hc HB E3 :), (Cmp.hc HB E4 :), (Cmp.hc HB E5 :), (Cmp.hc HB E6 :), (Cmp.hc HB E7 :), (Cmp.hc HB E8 :)⟩ (fun hHeld => ?_)
           clear hK K
           refine Cmp.no ?_
           refine Cmp.pu HT_ 8 65 (Cmp.bm 9 0) ?_
           refine done_ (done_of HT_.out (by kernel_rfl)) ?_
           have p262 : 0 ≤ (D0 : Int) := of_decide_eq_true Cmp.d
           have q262 : D0 < (l0.length : Int) := of_decide_eq_true Cmp.d
           obtain ⟨El, e262, Eb, Ec, Ed, Ee, Ef, Eg⟩ := at_T49 HR0.out D0 p262 q262
           obtain rfl : D1 = El := (by injection e262)
           replace Eb := Cmp.hc HB Eb
           replace Ec := Cmp.hc HB Ec
           replace Ed := Cmp.hc HB Ed
           replace Ee := Cmp.hc HB Ee
           replace Ef := Cmp.hc HB Ef
           replace Eg := Cmp.hc HB Eg
           replace p262 := eq_true p262; replace q262 := eq_true q262
           try go_wp2
           go_roundg k1
           case measure => have := HK1.out; omega
           case rel => exact ⟨(wrap64 ((wrap64 ((wrap64 ((wrap64 ((wrap64 ((wrap64 (De + 1)) + 1)) + 1)) + 1)) + 1)) + 1)), (wrap64 (D0 + 1)), (by first | rfl | simp | simp [*]), (by first | rfl | simp | simp [*]), H', ⟨by have := HK1.out; omega⟩, ⟨Cmp.g HB.out⟩⟩
          ·rw [if_neg c14] at H; have c14b0 : (((rd_T49 l0 D0).f1.f2) == (wrap64 ((wrap64 ((wrap64 ((wrap64 ((wrap64 (De + 1)) + 1)) + 1)) + 1)) + 1))) = false := beq_eq_false_iff_ne.mpr c14; have c14b1 : (((rd_T49 l0 D0).f1.f2) != (wrap64 ((wrap64 ((wrap64 ((wrap64 ((wrap64 (De + 1)) + 1)) + 1)) + 1)) + 1))) = true := bne_iff_ne.mpr c14
           obtain rfl := Option.some.inj H
           have p255 : 0 ≤ (D0 : Int) := of_decide_eq_true Cmp.d
           have q255 : D0 < (l0.length : Int) := of_decide_eq_true Cmp.d
           obtain ⟨D1, e255, D8, D9, Da, Db, Dc, Dd⟩ := at_T49 HR0.out D0 p255 q255
           cases e255
           replace D8 := Cmp.hc HB D8
           replace D9 := Cmp.hc HB D9
           replace Da := Cmp.hc HB Da
           replace Db := Cmp.hc HB Db
           replace Dc := Cmp.hc HB Dc
           replace Dd := Cmp.hc HB Dd
           replace p255 := eq_true p255; replace q255 := eq_true q255
           try go_wp2
           replace HB := Cmp.A (below_drew1 HB.out)
           have p256 : 0 ≤ (D0 : Int) := of_decide_eq_true Cmp.d
           have q256 : D0 < (l0.length : Int) := of_decide_eq_true Cmp.d
           obtain ⟨E9, e256, D2, D3, D4, D5, D6, D7⟩ := at_T49 HR0.out D0 p256 q256
           have Dk := D7; have Dj := D6; have Di := D5; have Dh := D4; have Dg := D3; have Df := D2
           obtain rfl : D1 = E9 := (by injection e256)
           replace D2 := Cmp.hc HB D2
           replace D3 := Cmp.hc HB D3
           replace D4 := Cmp.hc HB D4
           replace D5 := Cmp.hc HB D5
           replace D6 := Cmp.hc HB D6
           replace D7 := Cmp.hc HB D7
           replace p256 := eq_true p256; replace q256 := eq_true q256
           refine start_ (n := 9) (S := fun w' => w'.cell? (D1.add ((D0).toNat * 6)) = some (.bool ((rd_T49 l0 D0).f0.f0)) ∧ w'.cell? ⟨(D1.add ((D0).toNat * 6)).block, (D1.add ((D0).toNat * 6)).off + 1, none⟩ = some (.string ((rd_T49 l0 D0).f0.f1)) ∧ w'.cell? ⟨(D1.add ((D0).toNat * 6)).block, (D1.add ((D0).toNat * 6)).off + 2, none⟩ = some (.int .i64 ((rd_T49 l0 D0).f0.f2)) ∧ w'.cell? ⟨(D1.add ((D0).toNat * 6)).block, (D1.add ((D0).toNat * 6)).off + 3, none⟩ = some (.bool ((rd_T49 l0 D0).f1.f0)) ∧ w'.cell? ⟨(D1.add ((D0).toNat * 6)).block, (D1.add ((D0).toNat * 6)).off + 4, none⟩ = some (.string ((rd_T49 l0 D0).f1.f1)) ∧ w'.cell? ⟨(D1.add ((D0).toNat * 6)).block, (D1.add ((D0).toNat * 6)).off + 5, none⟩ = some (.int .i64 ((rd_T49 l0 D0).f1.f2))) (ds := []) (Cmp.bm 0 9) (by kernel_rfl) rfl rfl ⟨(Cmp.hc HB Df :), (Cmp.hc HB Dg :), (Cmp.hc HB Dh :), (Cmp.hc HB Di :), (Cmp.hc HB Dj :), (Cmp.hc HB Dk :)⟩ (fun hHeld => ?_); refine with_tabW laws_heldTabS.tab7 laws_heldTabS.bits7 (fun HT_ HW_ => ?_)
           generalize wr.drew = w19 at HB D2 D3 D4 D5 D6 D7 hHeld ⊢
           refine Cmp.pu HT_ 0 24 (Cmp.bm 1 8) ?_; refine Cmp.pu HT_ 1 25 (Cmp.bm 2 7) ?_; refine Cmp.pu HT_ 2 26 (Cmp.bm 3 6) ?_; refine Cmp.pu HT_ 3 27 (Cmp.bm 4 5) ?_; refine Cmp.pu HT_ 4 28 (Cmp.bm 5 4) ?_; refine Cmp.pu HT_ 6 30 (Cmp.bb 9 95) ?_; refine Cmp.tk HT_ HW_ hHeld 5 29 (Cmp.bm 7 2) ?_
           refine one_ (i := 7) (N := some 31) (Cmp.bm 8 1) rfl rfl (one_of HT_.out (by kernel_rfl)) (by decide) (fun K hK => ?_)
           refine goes_ Tryd.func34 (by kernel_rfl) rfl #[.int .i64 (wrap64 (De + 1))] (by rfl) rfl rfl Cmp.q ?_
           with_reducible refine (laws_markText.calls k1 (wrap64 (De + 1)) Ei _ A6.out).mono ?_
           rintro e w20 ⟨rfl, hb⟩; refine ⟨_, rfl, ?_⟩
           replace HB := Cmp.A (below_step (Cmp.g HB.out) hb); (try clear hb); (try clear hb2); (try clear hk); (try clear hi)
           refine hK.out _ _ ⟨(Cmp.hc HB Df :), (Cmp.hc HB Dg :), (Cmp.hc HB Dh :), (Cmp.hc HB Di :), (Cmp.hc HB Dj :), (Cmp.hc HB Dk :)⟩ (fun hHeld => ?_)
           clear hK K
           refine Cmp.no ?_
           refine Cmp.pu HT_ 8 32 (Cmp.bm 9 0) ?_
           refine done_ (done_of HT_.out (by kernel_rfl)) ?_
           have p258 : 0 ≤ (D0 : Int) := of_decide_eq_true Cmp.d
           have q258 : D0 < (l0.length : Int) := of_decide_eq_true Cmp.d
           obtain ⟨Ea, e258, Dl, Dm, Dn, Do, Dp, Dq⟩ := at_T49 HR0.out D0 p258 q258
           obtain rfl : D1 = Ea := (by injection e258)
           replace Dl := Cmp.hc HB Dl
           replace Dm := Cmp.hc HB Dm
           replace Dn := Cmp.hc HB Dn
           replace Do := Cmp.hc HB Do
           replace Dp := Cmp.hc HB Dp
           replace Dq := Cmp.hc HB Dq
           replace p258 := eq_true p258; replace q258 := eq_true q258
           have p259 : 0 ≤ (D0 : Int) := of_decide_eq_true Cmp.d
           have q259 : D0 < (l0.length : Int) := of_decide_eq_true Cmp.d
           obtain ⟨Eh, e259, Dx, Dy, Dz, E0, E1, E2⟩ := at_T49 HR0.out D0 p259 q259
           obtain rfl : D1 = Eh := (by injection e259)
           replace Dx := Cmp.hc HB Dx
           replace Dy := Cmp.hc HB Dy
           replace Dz := Cmp.hc HB Dz
           replace E0 := Cmp.hc HB E0
           replace E1 := Cmp.hc HB E1
           replace E2 := Cmp.hc HB E2
           replace p259 := eq_true p259; replace q259 := eq_true q259
           try go_wp2
           replace HB := Cmp.A (below_drew1 HB.out)
           have p260 : 0 ≤ (D0 : Int) := of_decide_eq_true Cmp.d
           have q260 : D0 < (l0.length : Int) := of_decide_eq_true Cmp.d
           obtain ⟨Ej, e260, Dr, Ds, Dt, Du, Dv, Dw⟩ := at_T49 HR0.out D0 p260 q260
           have E8 := Dw; have E7 := Dv; have E6 := Du; have E5 := Dt; have E4 := Ds; have E3 := Dr
           obtain rfl : D1 = Ej := (by injection e260)
           replace Dr := Cmp.hc HB Dr
           replace Ds := Cmp.hc HB Ds
           replace Dt := Cmp.hc HB Dt
           replace Du := Cmp.hc HB Du
           replace Dv := Cmp.hc HB Dv
           replace Dw := Cmp.hc HB Dw
           replace p260 := eq_true p260; replace q260 := eq_true q260
           refine start_ (n := 9) (S := fun w' => w'.cell? (D1.add ((D0).toNat * 6)) = some (.bool ((rd_T49 l0 D0).f0.f0)) ∧ w'.cell? ⟨(D1.add ((D0).toNat * 6)).block, (D1.add ((D0).toNat * 6)).off + 1, none⟩ = some (.string ((rd_T49 l0 D0).f0.f1)) ∧ w'.cell? ⟨(D1.add ((D0).toNat * 6)).block, (D1.add ((D0).toNat * 6)).off + 2, none⟩ = some (.int .i64 ((rd_T49 l0 D0).f0.f2)) ∧ w'.cell? ⟨(D1.add ((D0).toNat * 6)).block, (D1.add ((D0).toNat * 6)).off + 3, none⟩ = some (.bool ((rd_T49 l0 D0).f1.f0)) ∧ w'.cell? ⟨(D1.add ((D0).toNat * 6)).block, (D1.add ((D0).toNat * 6)).off + 4, none⟩ = some (.string ((rd_T49 l0 D0).f1.f1)) ∧ w'.cell? ⟨(D1.add ((D0).toNat * 6)).block, (D1.add ((D0).toNat * 6)).off + 5, none⟩ = some (.int .i64 ((rd_T49 l0 D0).f1.f2))) (ds := []) (Cmp.bm 0 9) (by kernel_rfl) rfl rfl ⟨(Cmp.hc HB E3 :), (Cmp.hc HB E4 :), (Cmp.hc HB E5 :), (Cmp.hc HB E6 :), (Cmp.hc HB E7 :), (Cmp.hc HB E8 :)⟩ (fun hHeld => ?_); refine with_tabW laws_heldTabS.tab16 laws_heldTabS.bits16 (fun HT_ HW_ => ?_)
           generalize w20.drew = w21 at HB Dr Ds Dt Du Dv Dw hHeld ⊢
           refine Cmp.pu HT_ 0 57 (Cmp.bm 1 8) ?_; refine Cmp.pu HT_ 1 58 (Cmp.bm 2 7) ?_; refine Cmp.pu HT_ 2 59 (Cmp.bm 3 6) ?_; refine Cmp.pu HT_ 3 60 (Cmp.bm 4 5) ?_; refine Cmp.pu HT_ 4 61 (Cmp.bm 5 4) ?_; refine Cmp.pu HT_ 6 63 (Cmp.bb 9 95) ?_; refine Cmp.tk HT_ HW_ hHeld 5 62 (Cmp.bm 7 2) ?_
           refine one_ (i := 7) (N := some 64) (Cmp.bm 8 1) rfl rfl (one_of HT_.out (by kernel_rfl)) (by decide) (fun K hK => ?_)
           refine goes_ Tryd.func34 (by kernel_rfl) rfl #[.int .i64 (wrap64 ((wrap64 ((wrap64 ((wrap64 (De + 1)) + 1)) + 1)) + 1))] (by rfl) rfl rfl Cmp.q ?_
           with_reducible refine (laws_markText.calls k1 (wrap64 ((wrap64 ((wrap64 ((wrap64 (De + 1)) + 1)) + 1)) + 1)) Ek _ En.out).mono ?_
           rintro e w22 ⟨rfl, hb⟩; refine ⟨_, rfl, ?_⟩
           replace HB := Cmp.A (below_step (Cmp.g HB.out) hb); (try clear hb); (try clear hb2); (try clear hk); (try clear hi)
           refine hK.out _ _ ⟨(Cmp.hc HB E3 :), (Cmp.hc HB E4 :), (Cmp.hc HB E5 :), (Cmp.hc HB E6 :), (Cmp.hc HB E7 :), (Cmp.hc HB E8 :)⟩ (fun hHeld => ?_)
           clear hK K
           refine Cmp.no ?_
           refine Cmp.pu HT_ 8 65 (Cmp.bm 9 0) ?_
           refine done_ (done_of HT_.out (by kernel_rfl)) ?_
           have p262 : 0 ≤ (D0 : Int) := of_decide_eq_true Cmp.d
           have q262 : D0 < (l0.length : Int) := of_decide_eq_true Cmp.d
           obtain ⟨El, e262, Eb, Ec, Ed, Ee, Ef, Eg⟩ := at_T49 HR0.out D0 p262 q262
           obtain rfl : D1 = El := (by injection e262)
           replace Eb := Cmp.hc HB Eb
           replace Ec := Cmp.hc HB Ec
           replace Ed := Cmp.hc HB Ed
           replace Ee := Cmp.hc HB Ee
           replace Ef := Cmp.hc HB Ef
           replace Eg := Cmp.hc HB Eg
           replace p262 := eq_true p262; replace q262 := eq_true q262
           try go_wp2
           go_ret
           exact ⟨by first | rfl | (simp [errW_none, errW_some] <;> rfl) | (simp [*, errW_none, errW_some] <;> rfl), Cmp.g HB.out⟩
         ·rw [if_neg c13] at H; have c13b0 : (((rd_T49 l0 D0).f1.f1).toList == Ek.toList) = false := beq_eq_false_iff_ne.mpr c13; have c13b1 : (((rd_T49 l0 D0).f1.f1).toList != Ek.toList) = true := bne_iff_ne.mpr c13
          obtain rfl := Option.some.inj H
          have p255 : 0 ≤ (D0 : Int) := of_decide_eq_true Cmp.d
          have q255 : D0 < (l0.length : Int) := of_decide_eq_true Cmp.d
          obtain ⟨D1, e255, D8, D9, Da, Db, Dc, Dd⟩ := at_T49 HR0.out D0 p255 q255
          cases e255
          replace D8 := Cmp.hc HB D8
          replace D9 := Cmp.hc HB D9
          replace Da := Cmp.hc HB Da
          replace Db := Cmp.hc HB Db
          replace Dc := Cmp.hc HB Dc
          replace Dd := Cmp.hc HB Dd
          replace p255 := eq_true p255; replace q255 := eq_true q255
          try go_wp2
          replace HB := Cmp.A (below_drew1 HB.out)
          have p256 : 0 ≤ (D0 : Int) := of_decide_eq_true Cmp.d
          have q256 : D0 < (l0.length : Int) := of_decide_eq_true Cmp.d
          obtain ⟨E9, e256, D2, D3, D4, D5, D6, D7⟩ := at_T49 HR0.out D0 p256 q256
          have Dk := D7; have Dj := D6; have Di := D5; have Dh := D4; have Dg := D3; have Df := D2
          obtain rfl : D1 = E9 := (by injection e256)
          replace D2 := Cmp.hc HB D2
          replace D3 := Cmp.hc HB D3
          replace D4 := Cmp.hc HB D4
          replace D5 := Cmp.hc HB D5
          replace D6 := Cmp.hc HB D6
          replace D7 := Cmp.hc HB D7
          replace p256 := eq_true p256; replace q256 := eq_true q256
          refine start_ (n := 9) (S := fun w' => w'.cell? (D1.add ((D0).toNat * 6)) = some (.bool ((rd_T49 l0 D0).f0.f0)) ∧ w'.cell? ⟨(D1.add ((D0).toNat * 6)).block, (D1.add ((D0).toNat * 6)).off + 1, none⟩ = some (.string ((rd_T49 l0 D0).f0.f1)) ∧ w'.cell? ⟨(D1.add ((D0).toNat * 6)).block, (D1.add ((D0).toNat * 6)).off + 2, none⟩ = some (.int .i64 ((rd_T49 l0 D0).f0.f2)) ∧ w'.cell? ⟨(D1.add ((D0).toNat * 6)).block, (D1.add ((D0).toNat * 6)).off + 3, none⟩ = some (.bool ((rd_T49 l0 D0).f1.f0)) ∧ w'.cell? ⟨(D1.add ((D0).toNat * 6)).block, (D1.add ((D0).toNat * 6)).off + 4, none⟩ = some (.string ((rd_T49 l0 D0).f1.f1)) ∧ w'.cell? ⟨(D1.add ((D0).toNat * 6)).block, (D1.add ((D0).toNat * 6)).off + 5, none⟩ = some (.int .i64 ((rd_T49 l0 D0).f1.f2))) (ds := []) (Cmp.bm 0 9) (by kernel_rfl) rfl rfl ⟨(Cmp.hc HB Df :), (Cmp.hc HB Dg :), (Cmp.hc HB Dh :), (Cmp.hc HB Di :), (Cmp.hc HB Dj :), (Cmp.hc HB Dk :)⟩ (fun hHeld => ?_); refine with_tabW laws_heldTabS.tab7 laws_heldTabS.bits7 (fun HT_ HW_ => ?_)
          generalize wr.drew = w23 at HB D2 D3 D4 D5 D6 D7 hHeld ⊢
          refine Cmp.pu HT_ 0 24 (Cmp.bm 1 8) ?_; refine Cmp.pu HT_ 1 25 (Cmp.bm 2 7) ?_; refine Cmp.pu HT_ 2 26 (Cmp.bm 3 6) ?_; refine Cmp.pu HT_ 3 27 (Cmp.bm 4 5) ?_; refine Cmp.pu HT_ 4 28 (Cmp.bm 5 4) ?_; refine Cmp.pu HT_ 6 30 (Cmp.bb 9 95) ?_; refine Cmp.tk HT_ HW_ hHeld 5 29 (Cmp.bm 7 2) ?_
          refine one_ (i := 7) (N := some 31) (Cmp.bm 8 1) rfl rfl (one_of HT_.out (by kernel_rfl)) (by decide) (fun K hK => ?_)
          refine goes_ Tryd.func34 (by kernel_rfl) rfl #[.int .i64 (wrap64 (De + 1))] (by rfl) rfl rfl Cmp.q ?_
          with_reducible refine (laws_markText.calls k1 (wrap64 (De + 1)) Ei _ A6.out).mono ?_
          rintro e w24 ⟨rfl, hb⟩; refine ⟨_, rfl, ?_⟩
          replace HB := Cmp.A (below_step (Cmp.g HB.out) hb); (try clear hb); (try clear hb2); (try clear hk); (try clear hi)
          refine hK.out _ _ ⟨(Cmp.hc HB Df :), (Cmp.hc HB Dg :), (Cmp.hc HB Dh :), (Cmp.hc HB Di :), (Cmp.hc HB Dj :), (Cmp.hc HB Dk :)⟩ (fun hHeld => ?_)
          clear hK K
          refine Cmp.no ?_
          refine Cmp.pu HT_ 8 32 (Cmp.bm 9 0) ?_
          refine done_ (done_of HT_.out (by kernel_rfl)) ?_
          have p258 : 0 ≤ (D0 : Int) := of_decide_eq_true Cmp.d
          have q258 : D0 < (l0.length : Int) := of_decide_eq_true Cmp.d
          obtain ⟨Ea, e258, Dl, Dm, Dn, Do, Dp, Dq⟩ := at_T49 HR0.out D0 p258 q258
          obtain rfl : D1 = Ea := (by injection e258)
          replace Dl := Cmp.hc HB Dl
          replace Dm := Cmp.hc HB Dm
          replace Dn := Cmp.hc HB Dn
          replace Do := Cmp.hc HB Do
          replace Dp := Cmp.hc HB Dp
          replace Dq := Cmp.hc HB Dq
          replace p258 := eq_true p258; replace q258 := eq_true q258
          have p259 : 0 ≤ (D0 : Int) := of_decide_eq_true Cmp.d
          have q259 : D0 < (l0.length : Int) := of_decide_eq_true Cmp.d
          obtain ⟨Eh, e259, Dx, Dy, Dz, E0, E1, E2⟩ := at_T49 HR0.out D0 p259 q259
          obtain rfl : D1 = Eh := (by injection e259)
          replace Dx := Cmp.hc HB Dx
          replace Dy := Cmp.hc HB Dy
          replace Dz := Cmp.hc HB Dz
          replace E0 := Cmp.hc HB E0
          replace E1 := Cmp.hc HB E1
          replace E2 := Cmp.hc HB E2
          replace p259 := eq_true p259; replace q259 := eq_true q259
          try go_wp2
          replace HB := Cmp.A (below_drew1 HB.out)
          have p260 : 0 ≤ (D0 : Int) := of_decide_eq_true Cmp.d
          have q260 : D0 < (l0.length : Int) := of_decide_eq_true Cmp.d
          obtain ⟨Ej, e260, Dr, Ds, Dt, Du, Dv, Dw⟩ := at_T49 HR0.out D0 p260 q260
          have E8 := Dw; have E7 := Dv; have E6 := Du; have E5 := Dt; have E4 := Ds; have E3 := Dr
          obtain rfl : D1 = Ej := (by injection e260)
          replace Dr := Cmp.hc HB Dr
          replace Ds := Cmp.hc HB Ds
          replace Dt := Cmp.hc HB Dt
          replace Du := Cmp.hc HB Du
          replace Dv := Cmp.hc HB Dv
          replace Dw := Cmp.hc HB Dw
          replace p260 := eq_true p260; replace q260 := eq_true q260
          refine start_ (n := 9) (S := fun w' => w'.cell? (D1.add ((D0).toNat * 6)) = some (.bool ((rd_T49 l0 D0).f0.f0)) ∧ w'.cell? ⟨(D1.add ((D0).toNat * 6)).block, (D1.add ((D0).toNat * 6)).off + 1, none⟩ = some (.string ((rd_T49 l0 D0).f0.f1)) ∧ w'.cell? ⟨(D1.add ((D0).toNat * 6)).block, (D1.add ((D0).toNat * 6)).off + 2, none⟩ = some (.int .i64 ((rd_T49 l0 D0).f0.f2)) ∧ w'.cell? ⟨(D1.add ((D0).toNat * 6)).block, (D1.add ((D0).toNat * 6)).off + 3, none⟩ = some (.bool ((rd_T49 l0 D0).f1.f0)) ∧ w'.cell? ⟨(D1.add ((D0).toNat * 6)).block, (D1.add ((D0).toNat * 6)).off + 4, none⟩ = some (.string ((rd_T49 l0 D0).f1.f1)) ∧ w'.cell? ⟨(D1.add ((D0).toNat * 6)).block, (D1.add ((D0).toNat * 6)).off + 5, none⟩ = some (.int .i64 ((rd_T49 l0 D0).f1.f2))) (ds := []) (Cmp.bm 0 9) (by kernel_rfl) rfl rfl ⟨(Cmp.hc HB E3 :), (Cmp.hc HB E4 :), (Cmp.hc HB E5 :), (Cmp.hc HB E6 :), (Cmp.hc HB E7 :), (Cmp.hc HB E8 :)⟩ (fun hHeld => ?_); refine with_tabW laws_heldTabS.tab16 laws_heldTabS.bits16 (fun HT_ HW_ => ?_)
          generalize w24.drew = w25 at HB Dr Ds Dt Du Dv Dw hHeld ⊢
          refine Cmp.pu HT_ 0 57 (Cmp.bm 1 8) ?_; refine Cmp.pu HT_ 1 58 (Cmp.bm 2 7) ?_; refine Cmp.pu HT_ 2 59 (Cmp.bm 3 6) ?_; refine Cmp.pu HT_ 3 60 (Cmp.bm 4 5) ?_; refine Cmp.pu HT_ 4 61 (Cmp.bm 5 4) ?_; refine Cmp.pu HT_ 6 63 (Cmp.bb 9 95) ?_; refine Cmp.tk HT_ HW_ hHeld 5 62 (Cmp.bm 7 2) ?_
          refine one_ (i := 7) (N := some 64) (Cmp.bm 8 1) rfl rfl (one_of HT_.out (by kernel_rfl)) (by decide) (fun K hK => ?_)
          refine goes_ Tryd.func34 (by kernel_rfl) rfl #[.int .i64 (wrap64 ((wrap64 ((wrap64 ((wrap64 (De + 1)) + 1)) + 1)) + 1))] (by rfl) rfl rfl Cmp.q ?_
          with_reducible refine (laws_markText.calls k1 (wrap64 ((wrap64 ((wrap64 ((wrap64 (De + 1)) + 1)) + 1)) + 1)) Ek _ En.out).mono ?_
          rintro e w26 ⟨rfl, hb⟩; refine ⟨_, rfl, ?_⟩
          replace HB := Cmp.A (below_step (Cmp.g HB.out) hb); (try clear hb); (try clear hb2); (try clear hk); (try clear hi)
          refine hK.out _ _ ⟨(Cmp.hc HB E3 :), (Cmp.hc HB E4 :), (Cmp.hc HB E5 :), (Cmp.hc HB E6 :), (Cmp.hc HB E7 :), (Cmp.hc HB E8 :)⟩ (fun hHeld => ?_)
          clear hK K
          refine Cmp.no ?_
          refine Cmp.pu HT_ 8 65 (Cmp.bm 9 0) ?_
          refine done_ (done_of HT_.out (by kernel_rfl)) ?_
          try go_wp2
          go_ret
          exact ⟨by first | rfl | (simp [errW_none, errW_some] <;> rfl) | (simp [*, errW_none, errW_some] <;> rfl), Cmp.g HB.out⟩
       ·rw [if_neg c8] at H; have c8b0 : (((rd_T49 l0 D0).f0.f2) == (wrap64 ((wrap64 (De + 1)) + 1))) = false := beq_eq_false_iff_ne.mpr c8; have c8b1 : (((rd_T49 l0 D0).f0.f2) != (wrap64 ((wrap64 (De + 1)) + 1))) = true := bne_iff_ne.mpr c8
        obtain rfl := Option.some.inj H
        have p255 : 0 ≤ (D0 : Int) := of_decide_eq_true Cmp.d
        have q255 : D0 < (l0.length : Int) := of_decide_eq_true Cmp.d
        obtain ⟨D1, e255, D8, D9, Da, Db, Dc, Dd⟩ := at_T49 HR0.out D0 p255 q255
        cases e255
        replace D8 := Cmp.hc HB D8
        replace D9 := Cmp.hc HB D9
        replace Da := Cmp.hc HB Da
        replace Db := Cmp.hc HB Db
        replace Dc := Cmp.hc HB Dc
        replace Dd := Cmp.hc HB Dd
        replace p255 := eq_true p255; replace q255 := eq_true q255
        try go_wp2
        replace HB := Cmp.A (below_drew1 HB.out)
        have p256 : 0 ≤ (D0 : Int) := of_decide_eq_true Cmp.d
        have q256 : D0 < (l0.length : Int) := of_decide_eq_true Cmp.d
        obtain ⟨E9, e256, D2, D3, D4, D5, D6, D7⟩ := at_T49 HR0.out D0 p256 q256
        have Dk := D7; have Dj := D6; have Di := D5; have Dh := D4; have Dg := D3; have Df := D2
        obtain rfl : D1 = E9 := (by injection e256)
        replace D2 := Cmp.hc HB D2
        replace D3 := Cmp.hc HB D3
        replace D4 := Cmp.hc HB D4
        replace D5 := Cmp.hc HB D5
        replace D6 := Cmp.hc HB D6
        replace D7 := Cmp.hc HB D7
        replace p256 := eq_true p256; replace q256 := eq_true q256
        refine start_ (n := 9) (S := fun w' => w'.cell? (D1.add ((D0).toNat * 6)) = some (.bool ((rd_T49 l0 D0).f0.f0)) ∧ w'.cell? ⟨(D1.add ((D0).toNat * 6)).block, (D1.add ((D0).toNat * 6)).off + 1, none⟩ = some (.string ((rd_T49 l0 D0).f0.f1)) ∧ w'.cell? ⟨(D1.add ((D0).toNat * 6)).block, (D1.add ((D0).toNat * 6)).off + 2, none⟩ = some (.int .i64 ((rd_T49 l0 D0).f0.f2)) ∧ w'.cell? ⟨(D1.add ((D0).toNat * 6)).block, (D1.add ((D0).toNat * 6)).off + 3, none⟩ = some (.bool ((rd_T49 l0 D0).f1.f0)) ∧ w'.cell? ⟨(D1.add ((D0).toNat * 6)).block, (D1.add ((D0).toNat * 6)).off + 4, none⟩ = some (.string ((rd_T49 l0 D0).f1.f1)) ∧ w'.cell? ⟨(D1.add ((D0).toNat * 6)).block, (D1.add ((D0).toNat * 6)).off + 5, none⟩ = some (.int .i64 ((rd_T49 l0 D0).f1.f2))) (ds := []) (Cmp.bm 0 9) (by kernel_rfl) rfl rfl ⟨(Cmp.hc HB Df :), (Cmp.hc HB Dg :), (Cmp.hc HB Dh :), (Cmp.hc HB Di :), (Cmp.hc HB Dj :), (Cmp.hc HB Dk :)⟩ (fun hHeld => ?_); refine with_tabW laws_heldTabS.tab7 laws_heldTabS.bits7 (fun HT_ HW_ => ?_)
        generalize wr.drew = w27 at HB D2 D3 D4 D5 D6 D7 hHeld ⊢
        refine Cmp.pu HT_ 0 24 (Cmp.bm 1 8) ?_; refine Cmp.pu HT_ 1 25 (Cmp.bm 2 7) ?_; refine Cmp.pu HT_ 2 26 (Cmp.bm 3 6) ?_; refine Cmp.pu HT_ 3 27 (Cmp.bm 4 5) ?_; refine Cmp.pu HT_ 4 28 (Cmp.bm 5 4) ?_; refine Cmp.pu HT_ 6 30 (Cmp.bb 9 95) ?_; refine Cmp.tk HT_ HW_ hHeld 5 29 (Cmp.bm 7 2) ?_
        refine one_ (i := 7) (N := some 31) (Cmp.bm 8 1) rfl rfl (one_of HT_.out (by kernel_rfl)) (by decide) (fun K hK => ?_)
        refine goes_ Tryd.func34 (by kernel_rfl) rfl #[.int .i64 (wrap64 (De + 1))] (by rfl) rfl rfl Cmp.q ?_
        with_reducible refine (laws_markText.calls k1 (wrap64 (De + 1)) Ei _ A6.out).mono ?_
        rintro e w28 ⟨rfl, hb⟩; refine ⟨_, rfl, ?_⟩
        replace HB := Cmp.A (below_step (Cmp.g HB.out) hb); (try clear hb); (try clear hb2); (try clear hk); (try clear hi)
        refine hK.out _ _ ⟨(Cmp.hc HB Df :), (Cmp.hc HB Dg :), (Cmp.hc HB Dh :), (Cmp.hc HB Di :), (Cmp.hc HB Dj :), (Cmp.hc HB Dk :)⟩ (fun hHeld => ?_)
        clear hK K
        refine Cmp.no ?_
        refine Cmp.pu HT_ 8 32 (Cmp.bm 9 0) ?_
        refine done_ (done_of HT_.out (by kernel_rfl)) ?_
        have p258 : 0 ≤ (D0 : Int) := of_decide_eq_true Cmp.d
        have q258 : D0 < (l0.length : Int) := of_decide_eq_true Cmp.d
        obtain ⟨Ea, e258, Dl, Dm, Dn, Do, Dp, Dq⟩ := at_T49 HR0.out D0 p258 q258
        obtain rfl : D1 = Ea := (by injection e258)
        replace Dl := Cmp.hc HB Dl
        replace Dm := Cmp.hc HB Dm
        replace Dn := Cmp.hc HB Dn
        replace Do := Cmp.hc HB Do
        replace Dp := Cmp.hc HB Dp
        replace Dq := Cmp.hc HB Dq
        replace p258 := eq_true p258; replace q258 := eq_true q258
        try go_wp2
        go_ret
        exact ⟨by first | rfl | (simp [errW_none, errW_some] <;> rfl) | (simp [*, errW_none, errW_some] <;> rfl), Cmp.g HB.out⟩
      ·rw [if_neg c7] at H; have c7b0 : (((rd_T49 l0 D0).f0.f1).toList == Ei.toList) = false := beq_eq_false_iff_ne.mpr c7; have c7b1 : (((rd_T49 l0 D0).f0.f1).toList != Ei.toList) = true := bne_iff_ne.mpr c7
       obtain rfl := Option.some.inj H
       have p255 : 0 ≤ (D0 : Int) := of_decide_eq_true Cmp.d
       have q255 : D0 < (l0.length : Int) := of_decide_eq_true Cmp.d
       obtain ⟨D1, e255, D8, D9, Da, Db, Dc, Dd⟩ := at_T49 HR0.out D0 p255 q255
       cases e255
       replace D8 := Cmp.hc HB D8
       replace D9 := Cmp.hc HB D9
       replace Da := Cmp.hc HB Da
       replace Db := Cmp.hc HB Db
       replace Dc := Cmp.hc HB Dc
       replace Dd := Cmp.hc HB Dd
       replace p255 := eq_true p255; replace q255 := eq_true q255
       try go_wp2
       replace HB := Cmp.A (below_drew1 HB.out)
       have p256 : 0 ≤ (D0 : Int) := of_decide_eq_true Cmp.d
       have q256 : D0 < (l0.length : Int) := of_decide_eq_true Cmp.d
       obtain ⟨E9, e256, D2, D3, D4, D5, D6, D7⟩ := at_T49 HR0.out D0 p256 q256
       have Dk := D7; have Dj := D6; have Di := D5; have Dh := D4; have Dg := D3; have Df := D2
       obtain rfl : D1 = E9 := (by injection e256)
       replace D2 := Cmp.hc HB D2
       replace D3 := Cmp.hc HB D3
       replace D4 := Cmp.hc HB D4
       replace D5 := Cmp.hc HB D5
       replace D6 := Cmp.hc HB D6
       replace D7 := Cmp.hc HB D7
       replace p256 := eq_true p256; replace q256 := eq_true q256
       refine start_ (n := 9) (S := fun w' => w'.cell? (D1.add ((D0).toNat * 6)) = some (.bool ((rd_T49 l0 D0).f0.f0)) ∧ w'.cell? ⟨(D1.add ((D0).toNat * 6)).block, (D1.add ((D0).toNat * 6)).off + 1, none⟩ = some (.string ((rd_T49 l0 D0).f0.f1)) ∧ w'.cell? ⟨(D1.add ((D0).toNat * 6)).block, (D1.add ((D0).toNat * 6)).off + 2, none⟩ = some (.int .i64 ((rd_T49 l0 D0).f0.f2)) ∧ w'.cell? ⟨(D1.add ((D0).toNat * 6)).block, (D1.add ((D0).toNat * 6)).off + 3, none⟩ = some (.bool ((rd_T49 l0 D0).f1.f0)) ∧ w'.cell? ⟨(D1.add ((D0).toNat * 6)).block, (D1.add ((D0).toNat * 6)).off + 4, none⟩ = some (.string ((rd_T49 l0 D0).f1.f1)) ∧ w'.cell? ⟨(D1.add ((D0).toNat * 6)).block, (D1.add ((D0).toNat * 6)).off + 5, none⟩ = some (.int .i64 ((rd_T49 l0 D0).f1.f2))) (ds := []) (Cmp.bm 0 9) (by kernel_rfl) rfl rfl ⟨(Cmp.hc HB Df :), (Cmp.hc HB Dg :), (Cmp.hc HB Dh :), (Cmp.hc HB Di :), (Cmp.hc HB Dj :), (Cmp.hc HB Dk :)⟩ (fun hHeld => ?_); refine with_tabW laws_heldTabS.tab7 laws_heldTabS.bits7 (fun HT_ HW_ => ?_)
       generalize wr.drew = w29 at HB D2 D3 D4 D5 D6 D7 hHeld ⊢
       refine Cmp.pu HT_ 0 24 (Cmp.bm 1 8) ?_; refine Cmp.pu HT_ 1 25 (Cmp.bm 2 7) ?_; refine Cmp.pu HT_ 2 26 (Cmp.bm 3 6) ?_; refine Cmp.pu HT_ 3 27 (Cmp.bm 4 5) ?_; refine Cmp.pu HT_ 4 28 (Cmp.bm 5 4) ?_; refine Cmp.pu HT_ 6 30 (Cmp.bb 9 95) ?_; refine Cmp.tk HT_ HW_ hHeld 5 29 (Cmp.bm 7 2) ?_
       refine one_ (i := 7) (N := some 31) (Cmp.bm 8 1) rfl rfl (one_of HT_.out (by kernel_rfl)) (by decide) (fun K hK => ?_)
       refine goes_ Tryd.func34 (by kernel_rfl) rfl #[.int .i64 (wrap64 (De + 1))] (by rfl) rfl rfl Cmp.q ?_
       with_reducible refine (laws_markText.calls k1 (wrap64 (De + 1)) Ei _ A6.out).mono ?_
       rintro e w30 ⟨rfl, hb⟩; refine ⟨_, rfl, ?_⟩
       replace HB := Cmp.A (below_step (Cmp.g HB.out) hb); (try clear hb); (try clear hb2); (try clear hk); (try clear hi)
       refine hK.out _ _ ⟨(Cmp.hc HB Df :), (Cmp.hc HB Dg :), (Cmp.hc HB Dh :), (Cmp.hc HB Di :), (Cmp.hc HB Dj :), (Cmp.hc HB Dk :)⟩ (fun hHeld => ?_)
       clear hK K
       refine Cmp.no ?_
       refine Cmp.pu HT_ 8 32 (Cmp.bm 9 0) ?_
       refine done_ (done_of HT_.out (by kernel_rfl)) ?_
       try go_wp2
       go_ret
       exact ⟨by first | rfl | (simp [errW_none, errW_some] <;> rfl) | (simp [*, errW_none, errW_some] <;> rfl), Cmp.g HB.out⟩
    ·rw [if_neg c4] at H; exact absurd H (by simp)
   ·rw [if_neg c3] at H
    have c3b0 : decide (D0 < (l0.length : Int)) = false := decide_eq_false c3
    clear c3
    obtain rfl := Option.some.inj H
    go_wp2
    go_ret
    exact ⟨by first | rfl | (simp [errW_none, errW_some] <;> rfl) | (simp [*, errW_none, errW_some] <;> rfl), Cmp.g HB.out⟩
end Go.Proofs.YtpgjecknkmmnhaaDoor.PFnExactOpenTab
