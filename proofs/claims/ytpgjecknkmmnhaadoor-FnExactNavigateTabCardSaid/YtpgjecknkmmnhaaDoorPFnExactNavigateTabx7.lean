/- Printed functions of the program, out of print.sh, told more shortly. No condition. -/
import Derived.Test.YtpgjecknkmmnhaaDoorCmp
import Derived.Test.YtpgjecknkmmnhaaDoorPFnExactNavigateTabx0
import Derived.Test.YtpgjecknkmmnhaaDoorLib
import Derived.Test.YtpgjecknkmmnhaaDoorPFnExactNavigateTabx6
namespace Go.Proofs.YtpgjecknkmmnhaaDoor.PFnExactNavigateTab
open Go.Proofs.YtpgjecknkmmnhaaDoor
open Go.Proofs.YtpgjecknkmmnhaaDoor.Lib
open Go.RowKit Go.Proofs.YtpgjecknkmmnhaaDoorW.PrintWords Go.Proofs.YtpgjecknkmmnhaaDoorW.PrintLast Go.Proofs.YtpgjecknkmmnhaaDoorW.PrintMore
attribute [local go_sem] max2_int min2_int max_two min_two max_three min_three max_four min_four   -- for this text's walks alone
set_option linter.unusedVariables false
set_option linter.unusedSimpArgs false
/-! ### impl_IsHost: function 31 -/
mutual
def impl_IsHost.l0 : Nat → List ByteArray → Int → Int → Option (Bool)
  | 0, _, _, _ => none
  | k + 1, x11, x12, x13 => if x13 < x12 then (if 0 ≤ x13 then (if x13 < (x11.length : Int) then (if ((rdOf ByteArray.empty x11 x13).size : Int) < 1 then (impl_IsHost.j1 k (rdOf ByteArray.empty x11 x13) x11 x12 x13 true) else (if ((rdOf ByteArray.empty x11 x13).size : Int) > 20 then (impl_IsHost.j1 k (rdOf ByteArray.empty x11 x13) x11 x12 x13 true) else (if 0 < ((rdOf ByteArray.empty x11 x13).size : Int) then (if (bt (rdOf ByteArray.empty x11 x13) 0) = 45 then (impl_IsHost.j1 k (rdOf ByteArray.empty x11 x13) x11 x12 x13 true) else (if 0 ≤ (wrap64 (((rdOf ByteArray.empty x11 x13).size : Int) - 1)) then (if (wrap64 (((rdOf ByteArray.empty x11 x13).size : Int) - 1)) < ((rdOf ByteArray.empty x11 x13).size : Int) then (impl_IsHost.j1 k (rdOf ByteArray.empty x11 x13) x11 x12 x13 ((bt (rdOf ByteArray.empty x11 x13) (wrap64 (((rdOf ByteArray.empty x11 x13).size : Int) - 1))) == 45)) else (none)) else (none))) else (none)))) else (none)) else (none)) else (some true)
def impl_IsHost.j1 : Nat → ByteArray → List ByteArray → Int → Int → Bool → Option (Bool)
  | 0, _, _, _, _, _ => none
  | k + 1, x4, x11, x12, x13, x37 => if x37 = true then (some false) else (impl_IsHost.l1 k x4 0 x11 x12 x13)
def impl_IsHost.l1 : Nat → ByteArray → Int → List ByteArray → Int → Int → Option (Bool)
  | 0, _, _, _, _, _ => none
  | k + 1, x4, x5, x11, x12, x13 => if x5 < (x4.size : Int) then (if 0 ≤ x5 then (if (bt x4 x5) ≥ 97 then (if (bt x4 x5) ≤ 122 then (impl_IsHost.l1 k x4 (wrap64 (x5 + 1)) x11 x12 x13) else (if (bt x4 x5) ≥ 48 then (if (bt x4 x5) ≤ 57 then (impl_IsHost.l1 k x4 (wrap64 (x5 + 1)) x11 x12 x13) else (if ((bt x4 x5) = 45) then (impl_IsHost.l1 k x4 (wrap64 (x5 + 1)) x11 x12 x13) else (some false))) else (if ((bt x4 x5) = 45) then (impl_IsHost.l1 k x4 (wrap64 (x5 + 1)) x11 x12 x13) else (some false)))) else (if (bt x4 x5) ≥ 48 then (if (bt x4 x5) ≤ 57 then (impl_IsHost.l1 k x4 (wrap64 (x5 + 1)) x11 x12 x13) else (if ((bt x4 x5) = 45) then (impl_IsHost.l1 k x4 (wrap64 (x5 + 1)) x11 x12 x13) else (some false))) else (if ((bt x4 x5) = 45) then (impl_IsHost.l1 k x4 (wrap64 (x5 + 1)) x11 x12 x13) else (some false)))) else (none)) else (impl_IsHost.l0 k x11 x12 (wrap64 (x13 + 1)))
end
def impl_IsHost.f (k : Nat) (a0 : ByteArray) : Option (Bool) := if (a0.size : Int) > 60 then (some false) else ((strings_Split.f a0 (⟨#[46]⟩ : ByteArray)).bind fun t241 => (impl_IsHost.l0 k t241 (t241.length : Int) 0))
theorem impl_IsHost.mono_l : ∀ k, (∀ y0 y1 y2, LeO (impl_IsHost.l0 k y0 y1 y2) (impl_IsHost.l0 (k + 1) y0 y1 y2)) ∧ (∀ y0 y1 y2 y3 y4, LeO (impl_IsHost.j1 k y0 y1 y2 y3 y4) (impl_IsHost.j1 (k + 1) y0 y1 y2 y3 y4)) ∧ (∀ y0 y1 y2 y3 y4, LeO (impl_IsHost.l1 k y0 y1 y2 y3 y4) (impl_IsHost.l1 (k + 1) y0 y1 y2 y3 y4))
 | 0 => ⟨fun _ _ _ r h => by simp [impl_IsHost.l0] at h, fun _ _ _ _ _ r h => by simp [impl_IsHost.j1] at h, fun _ _ _ _ _ r h => by simp [impl_IsHost.l1] at h⟩
 | k + 1 => by
    obtain ⟨ih0, ih1, ih2⟩ := impl_IsHost.mono_l k
    refine ⟨?_, ?_, ?_⟩
    · intro y0 y1 y2
      unfold impl_IsHost.l0
      repeat' first
 | (with_reducible exact ih0 _ _ _)
 | (with_reducible exact ih1 _ _ _ _ _)
 | (with_reducible exact ih2 _ _ _ _ _)
 | (with_reducible exact LeO.refl _)
 | (with_reducible exact LeO.none _)
 | (with_reducible refine LeO.ite ?_ ?_)
 | (with_reducible refine LeO.bind ?_ (fun _ => ?_))
    · intro y0 y1 y2 y3 y4
      unfold impl_IsHost.j1
      repeat' first
 | (with_reducible exact ih0 _ _ _)
 | (with_reducible exact ih1 _ _ _ _ _)
 | (with_reducible exact ih2 _ _ _ _ _)
 | (with_reducible exact LeO.refl _)
 | (with_reducible exact LeO.none _)
 | (with_reducible refine LeO.ite ?_ ?_)
 | (with_reducible refine LeO.bind ?_ (fun _ => ?_))
    · intro y0 y1 y2 y3 y4
      unfold impl_IsHost.l1
      repeat' first
 | (with_reducible exact ih0 _ _ _)
 | (with_reducible exact ih1 _ _ _ _ _)
 | (with_reducible exact ih2 _ _ _ _ _)
 | (with_reducible exact LeO.refl _)
 | (with_reducible exact LeO.none _)
 | (with_reducible refine LeO.ite ?_ ?_)
 | (with_reducible refine LeO.bind ?_ (fun _ => ?_))
theorem impl_IsHost.mono : ∀ a0 k, LeO (impl_IsHost.f k a0) (impl_IsHost.f (k + 1) a0) := by
  intro a0 k
  obtain ⟨ih0, ih1, ih2⟩ := impl_IsHost.mono_l k
  unfold impl_IsHost.f
  repeat' first
 | (with_reducible exact ih0 _ _ _)
 | (with_reducible exact ih1 _ _ _ _ _)
 | (with_reducible exact ih2 _ _ _ _ _)
 | (with_reducible exact LeO.refl _)
 | (with_reducible exact LeO.none _)
 | (with_reducible refine LeO.ite ?_ ?_)
 | (with_reducible refine LeO.bind ?_ (fun _ => ?_))
set_option maxHeartbeats 8000000 in
set_option maxRecDepth 100000 in
theorem impl_IsHost.calls (k : Nat) (a0 : ByteArray) (r : Bool) (w : World) (hm : HasM w) (h : impl_IsHost.f k a0 = some r) :
    Calls Tryd.prog 31 #[.string a0] w fun e w' => e = .returned (.bool r) ∧ Below w.heap.size w w' := by
 have HB := Cmp.A (Below.refl w.heap.size w)
 have HM := Cmp.A hm; clear hm
 have H : (if (a0.size : Int) > 60 then (some false) else ((strings_Split.f a0 (⟨#[46]⟩ : ByteArray)).bind fun D1 => (impl_IsHost.l0 k D1 (D1.length : Int) 0))) = some r := h
 clear h
 by_cases c2 : (a0.size : Int) > 60
 ·rw [if_pos c2] at H
  have c2b0 : decide (60 < (a0.size : Int)) = true := decide_eq_true c2
  have c2b1 : decide (60 < a0.size) = true := decide_eq_true (by omega)
  clear c2
  obtain rfl := Option.some.inj H
  go_enter Tryd.func31, Tryd.ntmps31
  go_wp2
  go_ret
  exact ⟨by first | rfl | (simp [errW_none, errW_some] <;> rfl) | (simp [*, errW_none, errW_some] <;> rfl), Cmp.g HB.out⟩
 ·rw [if_neg c2] at H
  have c2b0 : decide (60 < (a0.size : Int)) = false := decide_eq_false c2
  have c2b1 : decide (60 < a0.size) = false := decide_eq_false (by omega)
  clear c2; replace H := Option.bind_eq_some_iff.mp H; obtain ⟨D1, Da, H⟩ := H; (try dsimp only at H); have A3 := Cmp.A Da; clear Da
  have H' := Cmp.A H
  clear H
  go_enter Tryd.func31, Tryd.ntmps31
  go_wp2_with (first | ((with_reducible refine gate_callee (f := 37) rfl ?_); refine goesL_ (some 11) rfl rfl Tryd.func37 (by kernel_rfl) rfl #[.string a0, .string (⟨#[46]⟩ : ByteArray)] rfl Cmp.q ?_; (with_reducible refine (strings_Split.calls a0 (⟨#[46]⟩ : ByteArray) D1 _ (HasM.at (Cmp.g HB.out) HM.out) A3.out).mono ?_); rintro e w4 ⟨v242, rfl, Db, hb⟩; refine ⟨_, rfl, ?_⟩; have D7 := Cmp.A (Kd.R_lower Db (below_size (Cmp.g HB.out))); replace HB := Cmp.bs HB hb; (try clear hb); (try clear hb2); (try clear hk); (try clear hi); (try clear Db); obtain ⟨Dc, D9, Dd⟩ := Kd.R_slice D7.out; subst Dd))
  go_loopg [13] k (fun kq v13 w' => ∃ (D0 : Int), v13 = .int .i64 D0 ∧ Aside0 (impl_IsHost.l0 kq D1 (D1.length : Int) D0 = some r) ∧ Aside0 (kq ≤ k) ∧ Aside0 (Kd.R Kd.string 9 w' w.heap.size (fun _ => True) (.slice Dc D1.length D9) D1) ∧ Aside0 (Below w.heap.size w w'))
  case atStart => exact ⟨(0), (by first | rfl | simp | simp [*]), H', ⟨Nat.le_refl _⟩, ⟨Cmp.rr D7.out⟩, ⟨Cmp.g HB.out⟩⟩
  case round =>
   clear H'
   (try clear c2); (try clear c2b0); (try clear c2b1); (try clear p2); (try clear c3)
   obtain ⟨D0, rfl, HA, HK1, D3, HB⟩ := hrel
   cases gk with
   | zero => exact absurd HA.out (by simp [impl_IsHost.l0])
   | succ k1 =>
    have H := HA.out; clear HA
    simp only [impl_IsHost.l0] at H
    by_cases c6 : D0 < (D1.length : Int)
    ·rw [if_pos c6] at H
     have c6b0 : decide (D0 < (D1.length : Int)) = true := decide_eq_true c6
     clear c6
     by_cases c7 : 0 ≤ D0
     ·rw [if_pos c7] at H; have c7b0 : decide (0 ≤ D0) = true := decide_eq_true c7; clear c7
      by_cases c8 : D0 < (D1.length : Int)
      ·rw [if_pos c8] at H
       have c8b0 : decide (D0 < (D1.length : Int)) = true := decide_eq_true c8
       clear c8; have HC9 := Cmp.A H; clear H
       have p244 : 0 ≤ (D0 : Int) := of_decide_eq_true Cmp.d
       have q244 : D0 < (D1.length : Int) := of_decide_eq_true Cmp.d
       obtain ⟨D8, e244, D5⟩ := Kd.at_string (Kd.R_reads' D3.out).2.2 D0 p244 q244
       cases e244; replace p244 := eq_true p244; replace q244 := eq_true q244
       go_upto_region 6 with (fail)
       go_cut [37] (fun v37 wc => ∃ (kq : Nat) (D6 : Bool), v37 = .bool D6 ∧ Aside0 (impl_IsHost.j1 kq (rdOf ByteArray.empty D1 D0) D1 (D1.length : Int) D0 D6 = some r) ∧ Aside0 (kq ≤ k1) ∧ Aside0 (Kd.R Kd.string 9 wc w.heap.size (fun _ => True) (.slice (some D8) D1.length D9) D1) ∧ Aside0 (Below w.heap.size w wc))
       case first =>
        have H := HC9.out; clear HC9
        by_cases c10 : ((rdOf ByteArray.empty D1 D0).size : Int) < 1
        ·rw [if_pos c10] at H
         have c10b0 : decide (((rdOf ByteArray.empty D1 D0).size : Int) < 1) = true := decide_eq_true c10
         have c10b1 : decide ((rdOf ByteArray.empty D1 D0).size < 1) = true := decide_eq_true (by omega)
         clear c10
         (first | rw [c10b0] | (simp only [i64_w, i32_w]; rw [c10b0]) | skip)
         have H' := Cmp.A H
         clear H
         go_wp2
         go_meet
         case rel => exact ⟨_, (true), (by first | rfl | simp | simp [*]), H', ⟨by have := HK1.out; first | omega | exact Nat.le_refl _⟩, ⟨Cmp.rr D3.out⟩, ⟨Cmp.g HB.out⟩⟩
        ·rw [if_neg c10] at H
         have c10b0 : decide (((rdOf ByteArray.empty D1 D0).size : Int) < 1) = false := decide_eq_false c10
         have c10b1 : decide ((rdOf ByteArray.empty D1 D0).size < 1) = false := decide_eq_false (by omega)
         clear c10
         (first | rw [c10b0] | (simp only [i64_w, i32_w]; rw [c10b0]) | skip)
         by_cases c11 : ((rdOf ByteArray.empty D1 D0).size : Int) > 20
         ·rw [if_pos c11] at H
          have c11b0 : decide (20 < ((rdOf ByteArray.empty D1 D0).size : Int)) = true := decide_eq_true c11
          have c11b1 : decide (20 < (rdOf ByteArray.empty D1 D0).size) = true := decide_eq_true (by omega)
          clear c11
          have H' := Cmp.A H
          clear H
          go_wp2
          go_meet
          case rel => exact ⟨_, (true), (by first | rfl | simp | simp [*]), H', ⟨by have := HK1.out; first | omega | exact Nat.le_refl _⟩, ⟨Cmp.rr D3.out⟩, ⟨Cmp.g HB.out⟩⟩
         ·rw [if_neg c11] at H
          have c11b0 : decide (20 < ((rdOf ByteArray.empty D1 D0).size : Int)) = false := decide_eq_false c11
          have c11b1 : decide (20 < (rdOf ByteArray.empty D1 D0).size) = false := decide_eq_false (by omega)
          clear c11
          by_cases c12 : 0 < ((rdOf ByteArray.empty D1 D0).size : Int)
          ·rw [if_pos c12] at H
           have c12b0 : decide (0 < ((rdOf ByteArray.empty D1 D0).size : Int)) = true := decide_eq_true c12
           have c12b1 : decide (0 < (rdOf ByteArray.empty D1 D0).size) = true := decide_eq_true (by omega)
           clear c12
           by_cases c14 : (bt (rdOf ByteArray.empty D1 D0) 0) = 45
           ·rw [if_pos c14] at H; have c14b0 : ((bt (rdOf ByteArray.empty D1 D0) 0) == 45) = true := beq_iff_eq.mpr c14; have c14b1 : ((bt (rdOf ByteArray.empty D1 D0) 0) != 45) = false := bne_eq_false_iff_eq.mpr c14; clear c14
            have H' := Cmp.A H
            clear H
            have p13 : 0 ≤ (0 : Int) := (by omega)
            have q13 : 0 < (rdOf ByteArray.empty D1 D0).size := (by have : (0 : Int) < ((rdOf ByteArray.empty D1 D0).size : Int) := of_decide_eq_true Cmp.d; omega)
            have hx13 : ∀ h : 0 < (rdOf ByteArray.empty D1 D0).size, (((rdOf ByteArray.empty D1 D0)[0]'h).toNat : Int) = bt (rdOf ByteArray.empty D1 D0) 0 := bt_at (rdOf ByteArray.empty D1 D0) 0
            clear p13
            have qi13 : (0 < ((rdOf ByteArray.empty D1 D0).size : Int)) = True := eq_true (of_decide_eq_true Cmp.d)
            replace q13 := eq_true q13
            go_wp2
            go_meet
            case rel => exact ⟨_, (true), (by first | rfl | simp | simp [*]), H', ⟨by have := HK1.out; first | omega | exact Nat.le_refl _⟩, ⟨Cmp.rr D3.out⟩, ⟨Cmp.g HB.out⟩⟩
           ·rw [if_neg c14] at H; have c14b0 : ((bt (rdOf ByteArray.empty D1 D0) 0) == 45) = false := beq_eq_false_iff_ne.mpr c14; have c14b1 : ((bt (rdOf ByteArray.empty D1 D0) 0) != 45) = true := bne_iff_ne.mpr c14
            obtain ⟨D4, hji15⟩ : ∃ j_ : Int, (wrap64 (((rdOf ByteArray.empty D1 D0).size : Int) - 1)) = j_ := ⟨_, rfl⟩
            replace H : (if 0 ≤ (D4) then (if (D4) < ((rdOf ByteArray.empty D1 D0).size : Int) then (impl_IsHost.j1 k1 (rdOf ByteArray.empty D1 D0) D1 (D1.length : Int) D0 ((bt (rdOf ByteArray.empty D1 D0) (D4)) == 45)) else (none)) else (none)) = some r := by first | (rw [hji15] at H; exact H) | (simp only [hji15] at H ⊢; exact H)
            have hji15w : (IntKind.i64.wrap (((rdOf ByteArray.empty D1 D0).size : Int) - 1)) = D4 := (i64_w _).trans hji15
            by_cases c16 : 0 ≤ (D4)
            ·rw [if_pos c16] at H; have c16b0 : decide (0 ≤ (D4)) = true := decide_eq_true c16; clear c16
             by_cases c17 : (D4) < ((rdOf ByteArray.empty D1 D0).size : Int)
             ·rw [if_pos c17] at H
              have c17b0 : decide ((D4) < ((rdOf ByteArray.empty D1 D0).size : Int)) = true := decide_eq_true c17
              clear c17
              have H' := Cmp.A H
              clear H
              have p13 : 0 ≤ (0 : Int) := (by omega)
              have q13 : 0 < (rdOf ByteArray.empty D1 D0).size := (by have : (0 : Int) < ((rdOf ByteArray.empty D1 D0).size : Int) := of_decide_eq_true Cmp.d; omega)
              have hx13 : ∀ h : 0 < (rdOf ByteArray.empty D1 D0).size, (((rdOf ByteArray.empty D1 D0)[0]'h).toNat : Int) = bt (rdOf ByteArray.empty D1 D0) 0 := bt_at (rdOf ByteArray.empty D1 D0) 0
              clear p13
              have qi13 : (0 < ((rdOf ByteArray.empty D1 D0).size : Int)) = True := eq_true (of_decide_eq_true Cmp.d)
              replace q13 := eq_true q13
              have p18 : 0 ≤ ((D4) : Int) := of_decide_eq_true Cmp.d
              have q18 : (D4) < ((rdOf ByteArray.empty D1 D0).size : Int) := of_decide_eq_true Cmp.d
              have hx18 := bt_at (rdOf ByteArray.empty D1 D0) (D4)
              replace p18 := eq_true p18; replace q18 := eq_true q18
              go_wp2
              go_meet
              case rel => exact ⟨_, (((bt (rdOf ByteArray.empty D1 D0) (D4)) == 45)), (by first | rfl | (simp; done) | (simp only [← hji15] <;> (first | rfl | simp)) | (simp [*]; done)), H', ⟨by have := HK1.out; first | omega | exact Nat.le_refl _⟩, ⟨Cmp.rr D3.out⟩, ⟨Cmp.g HB.out⟩⟩
             ·rw [if_neg c17] at H; exact absurd H (by simp)
            ·rw [if_neg c16] at H; exact absurd H (by simp)
          ·rw [if_neg c12] at H; exact absurd H (by simp)
       case rest =>
        clear HC9; (try clear c1); (try clear p1); (try clear q1); (try clear hx1); (try clear qi1); (try clear c2); (try clear c2b0); (try clear c2b1); (try clear p2); (try clear q2); (try clear hx2); (try clear c3); (try clear c6); (try clear c6b0); (try clear p6); (try clear c7); (try clear c7b0); (try clear c8); (try clear c8b0); (try clear c10); (try clear c10b0); (try clear c10b1); (try clear c11); (try clear c11b0); (try clear c11b1); (try clear c12); (try clear c12b0); (try clear c12b1); (try clear p13); (try clear q13); (try clear hx13); (try clear qi13); (try clear c14); (try clear c14b0); (try clear c14b1); (try clear c16); (try clear c16b0); (try clear c17); (try clear c17b0); (try clear p18); (try clear q18); (try clear hx18); (try clear D5); (try clear p13); (try clear p18); (try clear p2); (try clear p244); (try clear q13); (try clear q18); (try clear q244)
        obtain ⟨kq, D6, rfl, HA, HJ8, D3, HB⟩ := hcut
        cases kq with
        | zero => exact absurd HA.out (by simp [impl_IsHost.j1])
        | succ kj8 =>
         have H := HA.out; clear HA
         simp only [impl_IsHost.j1] at H
         by_cases c19 : D6 = true
         ·subst c19; rw [if_pos rfl] at H
          obtain rfl := Option.some.inj H
          go_wp2
          go_ret
          exact ⟨by first | rfl | (simp [errW_none, errW_some] <;> rfl) | (simp [*, errW_none, errW_some] <;> rfl), Cmp.g HB.out⟩
         ·replace c19 := Bool.eq_false_iff.mpr c19
          subst c19
          have H1 : (impl_IsHost.l1 kj8 (rdOf ByteArray.empty D1 D0) 0 D1 (D1.length : Int) D0) = some r := by rw [if_neg (show ¬ (false = true) by decide)] at H; exact H
          clear H; have H := H1; clear H1
          have H' := Cmp.A H
          clear H
          go_wp2
          go_loopg [5] kj8 (fun kq v5 w' => ∃ (D2 : Int), v5 = .int .i64 D2 ∧ Aside0 (impl_IsHost.l1 kq (rdOf ByteArray.empty D1 D0) D2 D1 (D1.length : Int) D0 = some r) ∧ Aside0 (kq ≤ kj8) ∧ Aside0 (Kd.R Kd.string 9 w' w.heap.size (fun _ => True) (.slice (some D8) D1.length D9) D1) ∧ Aside0 (Below w.heap.size w w'))
          case atStart => exact ⟨(0), (by first | rfl | simp | simp [*]), H', ⟨Nat.le_refl _⟩, ⟨Cmp.rr D3.out⟩, ⟨Cmp.g HB.out⟩⟩
          case round =>
           clear H'
           (try clear c1); (try clear p1); (try clear q1); (try clear hx1); (try clear qi1); (try clear c2); (try clear c2b0); (try clear c2b1); (try clear p2); (try clear q2); (try clear hx2); (try clear c3); (try clear c6); (try clear c6b0); (try clear p6); (try clear c7); (try clear c7b0); (try clear c8); (try clear c8b0); (try clear c10); (try clear c10b0); (try clear c10b1); (try clear c11); (try clear c11b0); (try clear c11b1); (try clear c12); (try clear c12b0); (try clear c12b1); (try clear p13); (try clear q13); (try clear hx13); (try clear qi13); (try clear c14); (try clear c14b0); (try clear c14b1); (try clear c16); (try clear c16b0); (try clear c17); (try clear c17b0); (try clear p18); (try clear q18); (try clear hx18); (try clear c19); (try clear D5); (try clear p1); (try clear p13); (try clear p18); (try clear p2); (try clear p244); (try clear p6); (try clear q1); (try clear q13); (try clear q18); (try clear q2); (try clear q244)
           obtain ⟨D2, rfl, HA, HK3, D3, HB⟩ := hrel
           cases gk with
           | zero => exact absurd HA.out (by simp [impl_IsHost.l1])
           | succ k3 =>
            have H := HA.out; clear HA
            simp only [impl_IsHost.l1] at H
            by_cases c20 : D2 < ((rdOf ByteArray.empty D1 D0).size : Int)
            ·rw [if_pos c20] at H
             have c20b0 : decide (D2 < ((rdOf ByteArray.empty D1 D0).size : Int)) = true := decide_eq_true c20
             clear c20
             by_cases c21 : 0 ≤ D2
             ·rw [if_pos c21] at H; have c21b0 : decide (0 ≤ D2) = true := decide_eq_true c21; clear c21
              by_cases c23 : (bt (rdOf ByteArray.empty D1 D0) D2) ≥ 97
              ·rw [if_pos c23] at H; have c23b0 : decide (97 ≤ (bt (rdOf ByteArray.empty D1 D0) D2)) = true := decide_eq_true c23; clear c23
               by_cases c24 : (bt (rdOf ByteArray.empty D1 D0) D2) ≤ 122
               ·rw [if_pos c24] at H; have c24b0 : decide ((bt (rdOf ByteArray.empty D1 D0) D2) ≤ 122) = true := decide_eq_true c24; clear c24
                have H' := Cmp.A H
                clear H
                have p22 : 0 ≤ (D2 : Int) := of_decide_eq_true Cmp.d
                have q22 : D2 < ((rdOf ByteArray.empty D1 D0).size : Int) := of_decide_eq_true Cmp.d
                have hx22 := bt_at (rdOf ByteArray.empty D1 D0) D2
                replace p22 := eq_true p22; replace q22 := eq_true q22
                go_wp2
                go_roundg k3
                case measure => have := HK1.out; have := HJ8.out; have := HK3.out; omega
                case rel => exact ⟨(wrap64 (D2 + 1)), (by first | rfl | simp | simp [*]), H', ⟨by have := HK1.out; have := HJ8.out; have := HK3.out; omega⟩, ⟨Cmp.rr D3.out⟩, ⟨Cmp.g HB.out⟩⟩
               ·rw [if_neg c24] at H; have c24b0 : decide ((bt (rdOf ByteArray.empty D1 D0) D2) ≤ 122) = false := decide_eq_false c24; clear c24
                by_cases c25 : (bt (rdOf ByteArray.empty D1 D0) D2) ≥ 48
                ·rw [if_pos c25] at H; have c25b0 : decide (48 ≤ (bt (rdOf ByteArray.empty D1 D0) D2)) = true := decide_eq_true c25; clear c25
                 by_cases c26 : (bt (rdOf ByteArray.empty D1 D0) D2) ≤ 57
                 ·rw [if_pos c26] at H; have c26b0 : decide ((bt (rdOf ByteArray.empty D1 D0) D2) ≤ 57) = true := decide_eq_true c26; clear c26
                  have H' := Cmp.A H
                  clear H
                  have p22 : 0 ≤ (D2 : Int) := of_decide_eq_true Cmp.d
                  have q22 : D2 < ((rdOf ByteArray.empty D1 D0).size : Int) := of_decide_eq_true Cmp.d
                  have hx22 := bt_at (rdOf ByteArray.empty D1 D0) D2
                  replace p22 := eq_true p22; replace q22 := eq_true q22
                  go_wp2
                  go_roundg k3
                  case measure => have := HK1.out; have := HJ8.out; have := HK3.out; omega
                  case rel => exact ⟨(wrap64 (D2 + 1)), (by first | rfl | simp | simp [*]), H', ⟨by have := HK1.out; have := HJ8.out; have := HK3.out; omega⟩, ⟨Cmp.rr D3.out⟩, ⟨Cmp.g HB.out⟩⟩
                 ·rw [if_neg c26] at H; have c26b0 : decide ((bt (rdOf ByteArray.empty D1 D0) D2) ≤ 57) = false := decide_eq_false c26; clear c26
                  by_cases c27 : ((bt (rdOf ByteArray.empty D1 D0) D2) = 45)
                  ·rw [if_pos c27] at H; have c27b0 : ((bt (rdOf ByteArray.empty D1 D0) D2) == 45) = true := beq_iff_eq.mpr c27; have c27b1 : ((bt (rdOf ByteArray.empty D1 D0) D2) != 45) = false := bne_eq_false_iff_eq.mpr c27; clear c27
                   have H' := Cmp.A H
                   clear H
                   have p22 : 0 ≤ (D2 : Int) := of_decide_eq_true Cmp.d
                   have q22 : D2 < ((rdOf ByteArray.empty D1 D0).size : Int) := of_decide_eq_true Cmp.d
                   have hx22 := bt_at (rdOf ByteArray.empty D1 D0) D2
                   replace p22 := eq_true p22; replace q22 := eq_true q22
                   go_wp2
                   go_roundg k3
                   case measure => have := HK1.out; have := HJ8.out; have := HK3.out; omega
                   case rel => exact ⟨(wrap64 (D2 + 1)), (by first | rfl | simp | simp [*]), H', ⟨by have := HK1.out; have := HJ8.out; have := HK3.out; omega⟩, ⟨Cmp.rr D3.out⟩, ⟨Cmp.g HB.out⟩⟩
                  ·rw [if_neg c27] at H; have c27b0 : ((bt (rdOf ByteArray.empty D1 D0) D2) == 45) = false := beq_eq_false_iff_ne.mpr c27; have c27b1 : ((bt (rdOf ByteArray.empty D1 D0) D2) != 45) = true := bne_iff_ne.mpr c27
                   obtain rfl := Option.some.inj H
                   have p22 : 0 ≤ (D2 : Int) := of_decide_eq_true Cmp.d
                   have q22 : D2 < ((rdOf ByteArray.empty D1 D0).size : Int) := of_decide_eq_true Cmp.d
                   have hx22 := bt_at (rdOf ByteArray.empty D1 D0) D2
                   replace p22 := eq_true p22; replace q22 := eq_true q22
                   go_wp2
                   go_ret
                   exact ⟨by first | rfl | (simp [errW_none, errW_some] <;> rfl) | (simp [*, errW_none, errW_some] <;> rfl), Cmp.g HB.out⟩
                ·rw [if_neg c25] at H; have c25b0 : decide (48 ≤ (bt (rdOf ByteArray.empty D1 D0) D2)) = false := decide_eq_false c25; clear c25
                 by_cases c28 : ((bt (rdOf ByteArray.empty D1 D0) D2) = 45)
                 ·rw [if_pos c28] at H; have c28b0 : ((bt (rdOf ByteArray.empty D1 D0) D2) == 45) = true := beq_iff_eq.mpr c28; have c28b1 : ((bt (rdOf ByteArray.empty D1 D0) D2) != 45) = false := bne_eq_false_iff_eq.mpr c28; clear c28
                  have H' := Cmp.A H
                  clear H
                  have p22 : 0 ≤ (D2 : Int) := of_decide_eq_true Cmp.d
                  have q22 : D2 < ((rdOf ByteArray.empty D1 D0).size : Int) := of_decide_eq_true Cmp.d
                  have hx22 := bt_at (rdOf ByteArray.empty D1 D0) D2
                  replace p22 := eq_true p22; replace q22 := eq_true q22
                  go_wp2
                  go_roundg k3
                  case measure => have := HK1.out; have := HJ8.out; have := HK3.out; omega
                  case rel => exact ⟨(wrap64 (D2 + 1)), (by first | rfl | simp | simp [*]), H', ⟨by have := HK1.out; have := HJ8.out; have := HK3.out; omega⟩, ⟨Cmp.rr D3.out⟩, ⟨Cmp.g HB.out⟩⟩
                 ·rw [if_neg c28] at H; have c28b0 : ((bt (rdOf ByteArray.empty D1 D0) D2) == 45) = false := beq_eq_false_iff_ne.mpr c28; have c28b1 : ((bt (rdOf ByteArray.empty D1 D0) D2) != 45) = true := bne_iff_ne.mpr c28
                  obtain rfl := Option.some.inj H
                  have p22 : 0 ≤ (D2 : Int) := of_decide_eq_true Cmp.d
                  have q22 : D2 < ((rdOf ByteArray.empty D1 D0).size : Int) := of_decide_eq_true Cmp.d
                  have hx22 := bt_at (rdOf ByteArray.empty D1 D0) D2
                  replace p22 := eq_true p22; replace q22 := eq_true q22
                  go_wp2
                  go_ret
                  exact ⟨by first | rfl | (simp [errW_none, errW_some] <;> rfl) | (simp [*, errW_none, errW_some] <;> rfl), Cmp.g HB.out⟩
              ·rw [if_neg c23] at H; have c23b0 : decide (97 ≤ (bt (rdOf ByteArray.empty D1 D0) D2)) = false := decide_eq_false c23; clear c23
               by_cases c29 : (bt (rdOf ByteArray.empty D1 D0) D2) ≥ 48
               ·rw [if_pos c29] at H; have c29b0 : decide (48 ≤ (bt (rdOf ByteArray.empty D1 D0) D2)) = true := decide_eq_true c29; clear c29
                by_cases c30 : (bt (rdOf ByteArray.empty D1 D0) D2) ≤ 57
                ·rw [if_pos c30] at H; have c30b0 : decide ((bt (rdOf ByteArray.empty D1 D0) D2) ≤ 57) = true := decide_eq_true c30; clear c30
                 have H' := Cmp.A H
                 clear H
                 have p22 : 0 ≤ (D2 : Int) := of_decide_eq_true Cmp.d
                 have q22 : D2 < ((rdOf ByteArray.empty D1 D0).size : Int) := of_decide_eq_true Cmp.d
                 have hx22 := bt_at (rdOf ByteArray.empty D1 D0) D2
                 replace p22 := eq_true p22; replace q22 := eq_true q22
                 go_wp2
                 go_roundg k3
                 case measure => have := HK1.out; have := HJ8.out; have := HK3.out; omega
                 case rel => exact ⟨(wrap64 (D2 + 1)), (by first | rfl | simp | simp [*]), H', ⟨by have := HK1.out; have := HJ8.out; have := HK3.out; omega⟩, ⟨Cmp.rr D3.out⟩, ⟨Cmp.g HB.out⟩⟩
                ·rw [if_neg c30] at H; have c30b0 : decide ((bt (rdOf ByteArray.empty D1 D0) D2) ≤ 57) = false := decide_eq_false c30; clear c30
                 by_cases c31 : ((bt (rdOf ByteArray.empty D1 D0) D2) = 45)
                 ·rw [if_pos c31] at H; have c31b0 : ((bt (rdOf ByteArray.empty D1 D0) D2) == 45) = true := beq_iff_eq.mpr c31; have c31b1 : ((bt (rdOf ByteArray.empty D1 D0) D2) != 45) = false := bne_eq_false_iff_eq.mpr c31; clear c31
                  have H' := Cmp.A H
                  clear H
                  have p22 : 0 ≤ (D2 : Int) := of_decide_eq_true Cmp.d
                  have q22 : D2 < ((rdOf ByteArray.empty D1 D0).size : Int) := of_decide_eq_true Cmp.d
                  have hx22 := bt_at (rdOf ByteArray.empty D1 D0) D2
                  replace p22 := eq_true p22; replace q22 := eq_true q22
                  go_wp2
                  go_roundg k3
                  case measure => have := HK1.out; have := HJ8.out; have := HK3.out; omega
                  case rel => exact ⟨(wrap64 (D2 + 1)), (by first | rfl | simp | simp [*]), H', ⟨by have := HK1.out; have := HJ8.out; have := HK3.out; omega⟩, ⟨Cmp.rr D3.out⟩, ⟨Cmp.g HB.out⟩⟩
                 ·rw [if_neg c31] at H; have c31b0 : ((bt (rdOf ByteArray.empty D1 D0) D2) == 45) = false := beq_eq_false_iff_ne.mpr c31; have c31b1 : ((bt (rdOf ByteArray.empty D1 D0) D2) != 45) = true := bne_iff_ne.mpr c31
                  obtain rfl := Option.some.inj H
                  have p22 : 0 ≤ (D2 : Int) := of_decide_eq_true Cmp.d
                  have q22 : D2 < ((rdOf ByteArray.empty D1 D0).size : Int) := of_decide_eq_true Cmp.d
                  have hx22 := bt_at (rdOf ByteArray.empty D1 D0) D2
                  replace p22 := eq_true p22; replace q22 := eq_true q22
                  go_wp2
                  go_ret
                  exact ⟨by first | rfl | (simp [errW_none, errW_some] <;> rfl) | (simp [*, errW_none, errW_some] <;> rfl), Cmp.g HB.out⟩
               ·rw [if_neg c29] at H; have c29b0 : decide (48 ≤ (bt (rdOf ByteArray.empty D1 D0) D2)) = false := decide_eq_false c29; clear c29
                by_cases c32 : ((bt (rdOf ByteArray.empty D1 D0) D2) = 45)
                ·rw [if_pos c32] at H; have c32b0 : ((bt (rdOf ByteArray.empty D1 D0) D2) == 45) = true := beq_iff_eq.mpr c32; have c32b1 : ((bt (rdOf ByteArray.empty D1 D0) D2) != 45) = false := bne_eq_false_iff_eq.mpr c32; clear c32
                 have H' := Cmp.A H
                 clear H
                 have p22 : 0 ≤ (D2 : Int) := of_decide_eq_true Cmp.d
                 have q22 : D2 < ((rdOf ByteArray.empty D1 D0).size : Int) := of_decide_eq_true Cmp.d
                 have hx22 := bt_at (rdOf ByteArray.empty D1 D0) D2
                 replace p22 := eq_true p22; replace q22 := eq_true q22
                 go_wp2
                 go_roundg k3
                 case measure => have := HK1.out; have := HJ8.out; have := HK3.out; omega
                 case rel => exact ⟨(wrap64 (D2 + 1)), (by first | rfl | simp | simp [*]), H', ⟨by have := HK1.out; have := HJ8.out; have := HK3.out; omega⟩, ⟨Cmp.rr D3.out⟩, ⟨Cmp.g HB.out⟩⟩
                ·rw [if_neg c32] at H; have c32b0 : ((bt (rdOf ByteArray.empty D1 D0) D2) == 45) = false := beq_eq_false_iff_ne.mpr c32; have c32b1 : ((bt (rdOf ByteArray.empty D1 D0) D2) != 45) = true := bne_iff_ne.mpr c32
                 obtain rfl := Option.some.inj H
                 have p22 : 0 ≤ (D2 : Int) := of_decide_eq_true Cmp.d
                 have q22 : D2 < ((rdOf ByteArray.empty D1 D0).size : Int) := of_decide_eq_true Cmp.d
                 have hx22 := bt_at (rdOf ByteArray.empty D1 D0) D2
                 replace p22 := eq_true p22; replace q22 := eq_true q22
                 go_wp2
                 go_ret
                 exact ⟨by first | rfl | (simp [errW_none, errW_some] <;> rfl) | (simp [*, errW_none, errW_some] <;> rfl), Cmp.g HB.out⟩
             ·rw [if_neg c21] at H; exact absurd H (by simp)
            ·rw [if_neg c20] at H
             have c20b0 : decide (D2 < ((rdOf ByteArray.empty D1 D0).size : Int)) = false := decide_eq_false c20
             clear c20
             have H' := Cmp.A H
             clear H
             go_wp2
             go_roundg k3
             case measure => have := HK1.out; have := HJ8.out; have := HK3.out; omega
             case rel => exact ⟨(wrap64 (D0 + 1)), (by first | rfl | simp | simp [*]), H', ⟨by have := HK1.out; have := HJ8.out; have := HK3.out; omega⟩, ⟨Cmp.rr D3.out⟩, ⟨Cmp.g HB.out⟩⟩
      ·rw [if_neg c8] at H; exact absurd H (by simp)
     ·rw [if_neg c7] at H; exact absurd H (by simp)
    ·rw [if_neg c6] at H
     have c6b0 : decide (D0 < (D1.length : Int)) = false := decide_eq_false c6
     clear c6
     obtain rfl := Option.some.inj H
     go_wp2
     go_ret
     exact ⟨by first | rfl | (simp [errW_none, errW_some] <;> rfl) | (simp [*, errW_none, errW_some] <;> rfl), Cmp.g HB.out⟩
/-! ### impl_InRange: function 32 -/
def impl_InRange.f (a0 : Int) (a1 : Int) (a2 : Int) : Option (Bool) := if a1 ≤ a0 then (some (decide (a0 ≤ a2))) else (some false)
set_option maxHeartbeats 8000000 in
set_option maxRecDepth 100000 in
theorem impl_InRange.calls (a0 : Int) (a1 : Int) (a2 : Int) (r : Bool) (w : World) (h : impl_InRange.f a0 a1 a2 = some r) :
    Calls Tryd.prog 32 #[.int .i64 a0, .int .i64 a1, .int .i64 a2] w fun e w' => e = .returned (.bool r) ∧ Drawn0 w w' := by
 have H : (if a1 ≤ a0 then (some (decide (a0 ≤ a2))) else (some false)) = some r := h
 clear h
 by_cases c4 : a1 ≤ a0
 ·rw [if_pos c4] at H; have c4b0 : decide (a1 ≤ a0) = true := decide_eq_true c4; clear c4
  obtain rfl := Option.some.inj H
  go_enter Tryd.func32, Tryd.ntmps32
  go_wp2
  go_ret
  exact ⟨by first | rfl | (simp; done) | (simp [*]; done), by repeat (first | exact Drawn0.refl _ | apply Drawn0.step)⟩
 ·rw [if_neg c4] at H; have c4b0 : decide (a1 ≤ a0) = false := decide_eq_false c4; clear c4
  obtain rfl := Option.some.inj H
  go_enter Tryd.func32, Tryd.ntmps32
  go_wp2
  go_ret
  exact ⟨by first | rfl | (simp; done) | (simp [*]; done), by repeat (first | exact Drawn0.refl _ | apply Drawn0.step)⟩
/-! ### impl_IsOrigin: function 22 -/
def impl_IsOrigin.f (k : Nat) (a0_0 : Bool) (a0_1 : ByteArray) (a0_2 : Int) : Option (Bool) := (impl_IsHost.f k a0_1).bind fun t246 => (if t246 = true then ((impl_InRange.f a0_2 1 65535).bind fun t247 => (some t247)) else (some false))
theorem impl_IsOrigin.mono : ∀ a0 a1 a2 k, LeO (impl_IsOrigin.f k a0 a1 a2) (impl_IsOrigin.f (k + 1) a0 a1 a2) := by
  intro a0 a1 a2 k
  unfold impl_IsOrigin.f
  repeat' first
 | (with_reducible exact impl_IsHost.mono _ _)
 | (with_reducible exact LeO.refl _)
 | (with_reducible exact LeO.none _)
 | (with_reducible refine LeO.ite ?_ ?_)
 | (with_reducible refine LeO.bind ?_ (fun _ => ?_))
set_option maxHeartbeats 8000000 in
set_option maxRecDepth 100000 in
theorem impl_IsOrigin.calls (k : Nat) (a0_0 : Bool) (a0_1 : ByteArray) (a0_2 : Int) (r : Bool) (w : World) (hm : HasM w) (h : impl_IsOrigin.f k a0_0 a0_1 a0_2 = some r) :
    Calls Tryd.prog 22 #[.agg #[.bool a0_0, .string a0_1, .int .i64 a0_2]] w fun e w' => e = .returned (.bool r) ∧ Below w.heap.size w w' := by
 have hu38 := Tryd.underlying38
 have HB := Cmp.A (Below.refl w.heap.size w)
 have HM := Cmp.A hm; clear hm
 have H : ((impl_IsHost.f k a0_1).bind fun D1 => (if D1 = true then ((impl_InRange.f a0_2 1 65535).bind fun D2 => (some D2)) else (some false))) = some r := h
 clear h; replace H := Option.bind_eq_some_iff.mp H; obtain ⟨D1, Do, H⟩ := H; (try dsimp only at H); have A2 := Cmp.A Do; clear Do
 by_cases c3 : D1 = true
 ·subst c3; rw [if_pos rfl] at H; replace H := Option.bind_eq_some_iff.mp H; obtain ⟨D2, Dp, H⟩ := H; (try dsimp only at H); have A4 := Cmp.A Dp; clear Dp
  obtain rfl := Option.some.inj H
  go_enter Tryd.func22, Tryd.ntmps22
  go_wp2_with (first | ((with_reducible refine gate_dst (N := 1) rfl ?_); refine box_event ?hg (N := 1) ?hd (cs := #[.bool a0_0, .string a0_1, .int .i64 a0_2]) (t := 38) ?hr ?_; (case hd => rfl); (case hg => rfl); (case hr => first | (go_simp; done) | (go_simp; rfl)); intro D5 hg w5 hbox hb; have D0 := Cmp.A (hbox); have D4 := Cmp.gw hg HB; have D3 := Cmp.gw hg HB; replace HB := Cmp.bs HB hb; clear hb hbox hg; obtain ⟨Dc, Dd, De⟩ := Cmp.q3 D0; obtain ⟨Di, Dj, Dk⟩ := Cmp.f3 D0) | ((with_reducible refine gate_callee (f := 31) rfl ?_); refine goesL_ (some 5) rfl rfl Tryd.func31 (by kernel_rfl) rfl #[.string a0_1] rfl Cmp.q ?_; (with_reducible refine (impl_IsHost.calls k a0_1 true _ (HasM.at (Cmp.g HB.out) HM.out) A2.out).mono ?_); rintro e w7 ⟨rfl, hb⟩; refine ⟨_, rfl, ?_⟩; replace D0 := Cmp.be D0 hb; replace HB := Cmp.bs HB hb; (try clear hb); (try clear hb2); (try clear hk); (try clear hi); obtain ⟨Df, Dg, Dh⟩ := Cmp.q3 D0; obtain ⟨Dl, Dm, Dn⟩ := Cmp.f3 D0) | (go_at_call 32; (with_reducible refine (impl_InRange.calls a0_2 1 65535 D2 _ A4.out).mono ?_); rintro e w' ⟨rfl, ⟨nd, rfl⟩⟩))
  go_ret
  exact ⟨by first | rfl | (simp [errW_none, errW_some] <;> rfl) | (simp [*, errW_none, errW_some] <;> rfl), Cmp.g HB.out⟩
 ·replace c3 := Bool.eq_false_iff.mpr c3
  subst c3
  have H1 : (some false) = some r := by rw [if_neg (show ¬ (false = true) by decide)] at H; exact H
  clear H; have H := H1; clear H1
  obtain rfl := Option.some.inj H
  go_enter Tryd.func22, Tryd.ntmps22
  go_wp2_with (first | ((with_reducible refine gate_dst (N := 1) rfl ?_); refine box_event ?hg (N := 1) ?hd (cs := #[.bool a0_0, .string a0_1, .int .i64 a0_2]) (t := 38) ?hr ?_; (case hd => rfl); (case hg => rfl); (case hr => first | (go_simp; done) | (go_simp; rfl)); intro D5 hg w9 hbox hb; have D0 := Cmp.A (hbox); have D4 := Cmp.gw hg HB; have D3 := Cmp.gw hg HB; replace HB := Cmp.bs HB hb; clear hb hbox hg; obtain ⟨D6, D7, D8⟩ := Cmp.q3 D0; obtain ⟨D9, Da, Db⟩ := Cmp.f3 D0) | ((with_reducible refine gate_callee (f := 31) rfl ?_); refine goesL_ (some 5) rfl rfl Tryd.func31 (by kernel_rfl) rfl #[.string a0_1] rfl Cmp.q ?_; (with_reducible refine (impl_IsHost.calls k a0_1 false _ (HasM.at (Cmp.g HB.out) HM.out) A2.out).mono ?_); rintro e w11 ⟨rfl, hb⟩; refine ⟨_, rfl, ?_⟩; replace D0 := Cmp.be D0 hb; replace HB := Cmp.bs HB hb; (try clear hb); (try clear hb2); (try clear hk); (try clear hi)))
  go_ret
  exact ⟨by first | rfl | (simp [errW_none, errW_some] <;> rfl) | (simp [*, errW_none, errW_some] <;> rfl), Cmp.g HB.out⟩
end Go.Proofs.YtpgjecknkmmnhaaDoor.PFnExactNavigateTab
