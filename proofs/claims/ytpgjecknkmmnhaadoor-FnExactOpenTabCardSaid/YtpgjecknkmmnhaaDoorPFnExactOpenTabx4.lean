/- Printed functions of the program, out of print.sh, told more shortly. No condition. -/
import Derived.Test.YtpgjecknkmmnhaaDoorCmp
import Derived.Test.YtpgjecknkmmnhaaDoorPFnExactOpenTabx0
import Derived.Test.YtpgjecknkmmnhaaDoorLib
import Derived.Test.YtpgjecknkmmnhaaDoorPFnExactOpenTabx3
namespace Go.Proofs.YtpgjecknkmmnhaaDoor.PFnExactOpenTab
open Go.Proofs.YtpgjecknkmmnhaaDoor
open Go.Proofs.YtpgjecknkmmnhaaDoor.Lib
open Go.RowKit Go.Proofs.YtpgjecknkmmnhaaDoorW.PrintWords Go.Proofs.YtpgjecknkmmnhaaDoorW.PrintLast Go.Proofs.YtpgjecknkmmnhaaDoorW.PrintMore
attribute [local go_sem] max2_int min2_int max_two min_two max_three min_three max_four min_four   -- for this text's walks alone
set_option linter.unusedVariables false
set_option linter.unusedSimpArgs false
/-! ### impl_IsHost: function 31 -/
mutual
def impl_IsHost.l0 : Nat → List ByteArray → Int → Int → Option (Bool)
  | 0, _, _, _ => none
  | k + 1, x11, x12, x13 => if x13 < x12 then (if 0 ≤ x13 then (if x13 < (x11.length : Int) then (if ((rdOf ByteArray.empty x11 x13).size : Int) < 1 then (impl_IsHost.j1 k (rdOf ByteArray.empty x11 x13) x11 x12 x13 true) else (if ((rdOf ByteArray.empty x11 x13).size : Int) > 20 then (impl_IsHost.j1 k (rdOf ByteArray.empty x11 x13) x11 x12 x13 true) else (if 0 < ((rdOf ByteArray.empty x11 x13).size : Int) then (if (bt (rdOf ByteArray.empty x11 x13) 0) = 45 then (impl_IsHost.j1 k (rdOf ByteArray.empty x11 x13) x11 x12 x13 true) else (if 0 ≤ (wrap64 (((rdOf ByteArray.empty x11 x13).size : Int) - 1)) then (if (wrap64 (((rdOf ByteArray.empty x11 x13).size : Int) - 1)) < ((rdOf ByteArray.empty x11 x13).size : Int) then (impl_IsHost.j1 k (rdOf ByteArray.empty x11 x13) x11 x12 x13 ((bt (rdOf ByteArray.empty x11 x13) (wrap64 (((rdOf ByteArray.empty x11 x13).size : Int) - 1))) == 45)) else (none)) else (none))) else (none)))) else (none)) else (none)) else (some true)
def impl_IsHost.j1 : Nat → ByteArray → List ByteArray → Int → Int → Bool → Option (Bool)
  | 0, _, _, _, _, _ => none
  | k + 1, x4, x11, x12, x13, x37 => if x37 = true then (some false) else (impl_IsHost.l1 k x4 0 x11 x12 x13)
def impl_IsHost.l1 : Nat → ByteArray → Int → List ByteArray → Int → Int → Option (Bool)
  | 0, _, _, _, _, _ => none
  | k + 1, x4, x5, x11, x12, x13 => if x5 < (x4.size : Int) then (if 0 ≤ x5 then (if (bt x4 x5) ≥ 97 then (if (bt x4 x5) ≤ 122 then (impl_IsHost.l1 k x4 (wrap64 (x5 + 1)) x11 x12 x13) else (if (bt x4 x5) ≥ 48 then (if (bt x4 x5) ≤ 57 then (impl_IsHost.l1 k x4 (wrap64 (x5 + 1)) x11 x12 x13) else (if ((bt x4 x5) = 45) then (impl_IsHost.l1 k x4 (wrap64 (x5 + 1)) x11 x12 x13) else (some false))) else (if ((bt x4 x5) = 45) then (impl_IsHost.l1 k x4 (wrap64 (x5 + 1)) x11 x12 x13) else (some false)))) else (if (bt x4 x5) ≥ 48 then (if (bt x4 x5) ≤ 57 then (impl_IsHost.l1 k x4 (wrap64 (x5 + 1)) x11 x12 x13) else (if ((bt x4 x5) = 45) then (impl_IsHost.l1 k x4 (wrap64 (x5 + 1)) x11 x12 x13) else (some false))) else (if ((bt x4 x5) = 45) then (impl_IsHost.l1 k x4 (wrap64 (x5 + 1)) x11 x12 x13) else (some false)))) else (none)) else (impl_IsHost.l0 k x11 x12 (wrap64 (x13 + 1)))
end
def impl_IsHost.f (k : Nat) (a0 : ByteArray) : Option (Bool) := if (a0.size : Int) > 60 then (some false) else ((strings_Split.f a0 (⟨#[46]⟩ : ByteArray)).bind fun t201 => (impl_IsHost.l0 k t201 (t201.length : Int) 0))
theorem impl_IsHost.mono_l : ∀ k, (∀ y0 y1 y2, LeO (impl_IsHost.l0 k y0 y1 y2) (impl_IsHost.l0 (k + 1) y0 y1 y2)) ∧ (∀ y0 y1 y2 y3 y4, LeO (impl_IsHost.j1 k y0 y1 y2 y3 y4) (impl_IsHost.j1 (k + 1) y0 y1 y2 y3 y4)) ∧ (∀ y0 y1 y2 y3 y4, LeO (impl_IsHost.l1 k y0 y1 y2 y3 y4) (impl_IsHost.l1 (k + 1) y0 y1 y2 y3 y4))
 | 0 => ⟨fun _ _ _ r h => by simp [impl_IsHost.l0] at h, fun _ _ _ _ _ r h => by simp [impl_IsHost.j1] at h, fun _ _ _ _ _ r h => by simp [impl_IsHost.l1] at h⟩
 | k + 1 => by
    obtain ⟨ih0, ih1, ih2⟩ := impl_IsHost.mono_l k
    refine ⟨?_, ?_, ?_⟩
    · intro y0 y1 y2
      unfold impl_IsHost.l0
      repeat' first
 | (with_reducible exact ih0 _ _ _)
 | (with_reducible exact ih1 _ _ _ _ _)
 | (with_reducible exact ih2 _ _ _ _ _)
 | (with_reducible exact LeO.refl _)
 | (with_reducible exact LeO.none _)
 | (with_reducible refine LeO.ite ?_ ?_)
 | (with_reducible refine LeO.bind ?_ (fun _ => ?_))
    · intro y0 y1 y2 y3 y4
      unfold impl_IsHost.j1
      repeat' first
 | (with_reducible exact ih0 _ _ _)
 | (with_reducible exact ih1 _ _ _ _ _)
 | (with_reducible exact ih2 _ _ _ _ _)
 | (with_reducible exact LeO.refl _)
 | (with_reducible exact LeO.none _)
 | (with_reducible refine LeO.ite ?_ ?_)
 | (with_reducible refine LeO.bind ?_ (fun _ => ?_))
    · intro y0 y1 y2 y3 y4
      unfold impl_IsHost.l1
      repeat' first
 | (with_reducible exact ih0 _ _ _)
 | (with_reducible exact ih1 _ _ _ _ _)
 | (with_reducible exact ih2 _ _ _ _ _)
 | (with_reducible exact LeO.refl _)
 | (with_reducible exact LeO.none _)
 | (with_reducible refine LeO.ite ?_ ?_)
 | (with_reducible refine LeO.bind ?_ (fun _ => ?_))
theorem impl_IsHost.mono : ∀ a0 k, LeO (impl_IsHost.f k a0) (impl_IsHost.f (k + 1) a0) := by
  intro a0 k
  obtain ⟨ih0, ih1, ih2⟩ := impl_IsHost.mono_l k
  unfold impl_IsHost.f
  repeat' first
 | (with_reducible exact ih0 _ _ _)
 | (with_reducible exact ih1 _ _ _ _ _)
 | (with_reducible exact ih2 _ _ _ _ _)
 | (with_reducible exact LeO.refl _)
 | (with_reducible exact LeO.none _)
 | (with_reducible refine LeO.ite ?_ ?_)
 | (with_reducible refine LeO.bind ?_ (fun _ => ?_))
set_option maxHeartbeats 8000000 in
set_option maxRecDepth 100000 in
theorem impl_IsHost.calls (k : Nat) (a0 : ByteArray) (r : Bool) (w : World) (hm : HasM w) (h : impl_IsHost.f k a0 = some r) :
    Calls Tryd.prog 31 #[.string a0] w fun e w' => e = .returned (.bool r) ∧ Below w.heap.size w w' := by
 have HB := Cmp.A (Below.refl w.heap.size w)
 have HM := Cmp.A hm; clear hm
 have H : (if (a0.size : Int) > 60 then (some false) else ((strings_Split.f a0 (⟨#[46]⟩ : ByteArray)).bind fun D1 => (impl_IsHost.l0 k D1 (D1.length : Int) 0))) = some r := h
 clear h
 by_cases c2 : (a0.size : Int) > 60
 ·rw [if_pos c2] at H
  have c2b0 : decide (60 < (a0.size : Int)) = true := decide_eq_true c2
  have c2b1 : decide (60 < a0.size) = true := decide_eq_true (by omega)
  clear c2
  obtain rfl := Option.some.inj H
  go_enter Tryd.func31, Tryd.ntmps31
  go_wp2
  go_ret
  exact ⟨by first | rfl | (simp [errW_none, errW_some] <;> rfl) | (simp [*, errW_none, errW_some] <;> rfl), Cmp.g HB.out⟩
 ·rw [if_neg c2] at H
  have c2b0 : decide (60 < (a0.size : Int)) = false := decide_eq_false c2
  have c2b1 : decide (60 < a0.size) = false := decide_eq_false (by omega)
  clear c2; replace H := Option.bind_eq_some_iff.mp H; obtain ⟨D1, Da, H⟩ := H; (try dsimp only at H); have A3 := Cmp.A Da; clear Da
  have H' := Cmp.A H
  clear H
  go_enter Tryd.func31, Tryd.ntmps31
  go_wp2_with (first | ((with_reducible refine gate_callee (f := 37) rfl ?_); refine goesL_ (some 11) rfl rfl Tryd.func37 (by kernel_rfl) rfl #[.string a0, .string (⟨#[46]⟩ : ByteArray)] rfl Cmp.q ?_; (with_reducible refine (strings_Split.calls a0 (⟨#[46]⟩ : ByteArray) D1 _ (HasM.at (Cmp.g HB.out) HM.out) A3.out).mono ?_); rintro e w4 ⟨v202, rfl, Db, hb⟩; refine ⟨_, rfl, ?_⟩; have D7 := Cmp.A (Kd.R_lower Db (below_size (Cmp.g HB.out))); replace HB := Cmp.bs HB hb; (try clear hb); (try clear hb2); (try clear hk); (try clear hi); (try clear Db); obtain ⟨Dc, D9, Dd⟩ := Kd.R_slice D7.out; subst Dd))
  go_loopg [13] k (fun kq v13 w' => ∃ (D0 : Int), v13 = .int .i64 D0 ∧ Aside0 (impl_IsHost.l0 kq D1 (D1.length : Int) D0 = some r) ∧ Aside0 (kq ≤ k) ∧ Aside0 (Kd.R Kd.string 9 w' w.heap.size (fun _ => True) (.slice Dc D1.length D9) D1) ∧ Aside0 (Below w.heap.size w w'))
  case atStart => exact ⟨(0), (by first | rfl | simp | simp [*]), H', ⟨Nat.le_refl _⟩, ⟨Cmp.rr D7.out⟩, ⟨Cmp.g HB.out⟩⟩
  case round =>
   clear H'
   (try clear c2); (try clear c2b0); (try clear c2b1); (try clear p2); (try clear c3)
   obtain ⟨D0, rfl, HA, HK1, D3, HB⟩ := hrel
   cases gk with
   | zero => exact absurd HA.out (by simp [impl_IsHost.l0])
   | succ k1 =>
    have H := HA.out; clear HA
    simp only [impl_IsHost.l0] at H
    by_cases c6 : D0 < (D1.length : Int)
    ·rw [if_pos c6] at H
     have c6b0 : decide (D0 < (D1.length : Int)) = true := decide_eq_true c6
     clear c6
     by_cases c7 : 0 ≤ D0
     ·rw [if_pos c7] at H; have c7b0 : decide (0 ≤ D0) = true := decide_eq_true c7; clear c7
      by_cases c8 : D0 < (D1.length : Int)
      ·rw [if_pos c8] at H
       have c8b0 : decide (D0 < (D1.length : Int)) = true := decide_eq_true c8
       clear c8; have HC9 := Cmp.A H; clear H
       have p204 : 0 ≤ (D0 : Int) := of_decide_eq_true Cmp.d
       have q204 : D0 < (D1.length : Int) := of_decide_eq_true Cmp.d
       obtain ⟨D8, e204, D5⟩ := Kd.at_string (Kd.R_reads' D3.out).2.2 D0 p204 q204
       cases e204; replace p204 := eq_true p204; replace q204 := eq_true q204
       go_upto_region 6 with (fail)
       go_cut [37] (fun v37 wc => ∃ (kq : Nat) (D6 : Bool), v37 = .bool D6 ∧ Aside0 (impl_IsHost.j1 kq (rdOf ByteArray.empty D1 D0) D1 (D1.length : Int) D0 D6 = some r) ∧ Aside0 (kq ≤ k1) ∧ Aside0 (Kd.R Kd.string 9 wc w.heap.size (fun _ => True) (.slice (some D8) D1.length D9) D1) ∧ Aside0 (Below w.heap.size w wc))
       case first =>
        have H := HC9.out; clear HC9
        by_cases c10 : ((rdOf ByteArray.empty D1 D0).size : Int) < 1
        ·rw [if_pos c10] at H
         have c10b0 : decide (((rdOf ByteArray.empty D1 D0).size : Int) < 1) = true := decide_eq_true c10
         have c10b1 : decide ((rdOf ByteArray.empty D1 D0).size < 1) = true := decide_eq_true (by omega)
         clear c10
         (first | rw [c10b0] | (simp only [i64_w, i32_w]; rw [c10b0]) | skip)
         have H' := Cmp.A H
         clear H
         go_wp2
         go_meet
         case rel => exact ⟨_, (true), (by first | rfl | simp | simp [*]), H', ⟨by have := HK1.out; first | omega | exact Nat.le_refl _⟩, ⟨Cmp.rr D3.out⟩, ⟨Cmp.g HB.out⟩⟩
        ·rw [if_neg c10] at H
         have c10b0 : decide (((rdOf ByteArray.empty D1 D0).size : Int) < 1) = false := decide_eq_false c10
         have c10b1 : decide ((rdOf ByteArray.empty D1 D0).size < 1) = false := decide_eq_false (by omega)
         clear c10
         (first | rw [c10b0] | (simp only [i64_w, i32_w]; rw [c10b0]) | skip)
         by_cases c11 : ((rdOf ByteArray.empty D1 D0).size : Int) > 20
         ·rw [if_pos c11] at H
          have c11b0 : decide (20 < ((rdOf ByteArray.empty D1 D0).size : Int)) = true := decide_eq_true c11
          have c11b1 : decide (20 < (rdOf ByteArray.empty D1 D0).size) = true := decide_eq_true (by omega)
          clear c11
          have H' := Cmp.A H
          clear H
          go_wp2
          go_meet
          case rel => exact ⟨_, (true), (by first | rfl | simp | simp [*]), H', ⟨by have := HK1.out; first | omega | exact Nat.le_refl _⟩, ⟨Cmp.rr D3.out⟩, ⟨Cmp.g HB.out⟩⟩
         ·rw [if_neg c11] at H
          have c11b0 : decide (20 < ((rdOf ByteArray.empty D1 D0).size : Int)) = false := decide_eq_false c11
          have c11b1 : decide (20 < (rdOf ByteArray.empty D1 D0).size) = false := decide_eq_false (by omega)
          clear c11
          by_cases c12 : 0 < ((rdOf ByteArray.empty D1 D0).size : Int)
          ·rw [if_pos c12] at H
           have c12b0 : decide (0 < ((rdOf ByteArray.empty D1 D0).size : Int)) = true := decide_eq_true c12
           have c12b1 : decide (0 < (rdOf ByteArray.empty D1 D0).size) = true := decide_eq_true (by omega)
           clear c12
           by_cases c14 : (bt (rdOf ByteArray.empty D1 D0) 0) = 45
           ·rw [if_pos c14] at H; have c14b0 : ((bt (rdOf ByteArray.empty D1 D0) 0) == 45) = true := beq_iff_eq.mpr c14; have c14b1 : ((bt (rdOf ByteArray.empty D1 D0) 0) != 45) = false := bne_eq_false_iff_eq.mpr c14; clear c14
            have H' := Cmp.A H
            clear H
            have p13 : 0 ≤ (0 : Int) := (by omega)
            have q13 : 0 < (rdOf ByteArray.empty D1 D0).size := (by have : (0 : Int) < ((rdOf ByteArray.empty D1 D0).size : Int) := of_decide_eq_true Cmp.d; omega)
            have hx13 : ∀ h : 0 < (rdOf ByteArray.empty D1 D0).size, (((rdOf ByteArray.empty D1 D0)[0]'h).toNat : Int) = bt (rdOf ByteArray.empty D1 D0) 0 := bt_at (rdOf ByteArray.empty D1 D0) 0
            clear p13
            have qi13 : (0 < ((rdOf ByteArray.empty D1 D0).size : Int)) = True := eq_true (of_decide_eq_true Cmp.d)
            replace q13 := eq_true q13
            go_wp2
            go_meet
            case rel => exact ⟨_, (true), (by first | rfl | simp | simp [*]), H', ⟨by have := HK1.out; first | omega | exact Nat.le_refl _⟩, ⟨Cmp.rr D3.out⟩, ⟨Cmp.g HB.out⟩⟩
           ·rw [if_neg c14] at H; have c14b0 : ((bt (rdOf ByteArray.empty D1 D0) 0) == 45) = false := beq_eq_false_iff_ne.mpr c14; have c14b1 : ((bt (rdOf ByteArray.empty D1 D0) 0) != 45) = true := bne_iff_ne.mpr c14
            obtain ⟨D4, hji15⟩ : ∃ j_ : Int, (wrap64 (((rdOf ByteArray.empty D1 D0).size : Int) - 1)) = j_ := ⟨_, rfl⟩
            replace H : (if 0 ≤ (D4) then (if (D4) < ((rdOf ByteArray.empty D1 D0).size : Int) then (impl_IsHost.j1 k1 (rdOf ByteArray.empty D1 D0) D1 (D1.length : Int) D0 ((bt (rdOf ByteArray.empty D1 D0) (D4)) == 45)) else (none)) else (none)) = some r := by first | (rw [hji15] at H; exact H) | (simp only [hji15] at H ⊢; exact H)
            have hji15w : (IntKind.i64.wrap (((rdOf ByteArray.empty D1 D0).size : Int) - 1)) = D4 := (i64_w _).trans hji15
            by_cases c16 : 0 ≤ (D4)
            ·rw [if_pos c16] at H; have c16b0 : decide (0 ≤ (D4)) = true := decide_eq_true c16; clear c16
             by_cases c17 : (D4) < ((rdOf ByteArray.empty D1 D0).size : Int)
             ·rw [if_pos c17] at H
              have c17b0 : decide ((D4) < ((rdOf ByteArray.empty D1 D0).size : Int)) = true := decide_eq_true c17
              clear c17
              have H' := Cmp.A H
              clear H
              have p13 : 0 ≤ (0 : Int) := (by omega)
              have q13 : 0 < (rdOf ByteArray.empty D1 D0).size := (by have : (0 : Int) < ((rdOf ByteArray.empty D1 D0).size : Int) := of_decide_eq_true Cmp.d; omega)
              have hx13 : ∀ h : 0 < (rdOf ByteArray.empty D1 D0).size, (((rdOf ByteArray.empty D1 D0)[0]'h).toNat : Int) = bt (rdOf ByteArray.empty D1 D0) 0 := bt_at (rdOf ByteArray.empty D1 D0) 0
              clear p13
              have qi13 : (0 < ((rdOf ByteArray.empty D1 D0).size : Int)) = True := eq_true (of_decide_eq_true Cmp.d)
              replace q13 := eq_true q13
              have p18 : 0 ≤ ((D4) : Int) := of_decide_eq_true Cmp.d
              have q18 : (D4) < ((rdOf ByteArray.empty D1 D0).size : Int) := of_decide_eq_true Cmp.d
              have hx18 := bt_at (rdOf ByteArray.empty D1 D0) (D4)
              replace p18 := eq_true p18; replace q18 := eq_true q18
              go_wp2
              go_meet
              case rel => exact ⟨_, (((bt (rdOf ByteArray.empty D1 D0) (D4)) == 45)), (by first | rfl | (simp; done) | (simp only [← hji15] <;> (first | rfl | simp)) | (simp [*]; done)), H', ⟨by have := HK1.out; first | omega | exact Nat.le_refl _⟩, ⟨Cmp.rr D3.out⟩, ⟨Cmp.g HB.out⟩⟩
             ·rw [if_neg c17] at H; exact absurd H (by simp)
            ·rw [if_neg c16] at H; exact absurd H (by simp)
          ·rw [if_neg c12] at H; exact absurd H (by simp)
       case rest =>
        clear HC9; (try clear c1); (try clear p1); (try clear q1); (try clear hx1); (try clear qi1); (try clear c2); (try clear c2b0); (try clear c2b1); (try clear p2); (try clear q2); (try clear hx2); (try clear c3); (try clear c6); (try clear c6b0); (try clear p6); (try clear c7); (try clear c7b0); (try clear c8); (try clear c8b0); (try clear c10); (try clear c10b0); (try clear c10b1); (try clear c11); (try clear c11b0); (try clear c11b1); (try clear c12); (try clear c12b0); (try clear c12b1); (try clear p13); (try clear q13); (try clear hx13); (try clear qi13); (try clear c14); (try clear c14b0); (try clear c14b1); (try clear c16); (try clear c16b0); (try clear c17); (try clear c17b0); (try clear p18); (try clear q18); (try clear hx18); (try clear D5); (try clear p13); (try clear p18); (try clear p2); (try clear p204); (try clear q13); (try clear q18); (try clear q204)
        obtain ⟨kq, D6, rfl, HA, HJ8, D3, HB⟩ := hcut
        cases kq with
        | zero => exact absurd HA.out (by simp [impl_IsHost.j1])
        | succ kj8 =>
         have H := HA.out; clear HA
         simp only [impl_IsHost.j1] at H
         by_cases c19 : D6 = true
         ·subst c19; rw [if_pos rfl] at H
          obtain rfl := Option.some.inj H
          go_wp2
          go_ret
          exact ⟨by first | rfl | (simp [errW_none, errW_some] <;> rfl) | (simp [*, errW_none, errW_some] <;> rfl), Cmp.g HB.out⟩
         ·replace c19 := Bool.eq_false_iff.mpr c19
          subst c19
          have H1 : (impl_IsHost.l1 kj8 (rdOf ByteArray.empty D1 D0) 0 D1 (D1.length : Int) D0) = some r := by rw [if_neg (show ¬ (false = true) by decide)] at H; exact H
          clear H; have H := H1; clear H1
          have H' := Cmp.A H
          clear H
          go_wp2
          go_loopg [5] kj8 (fun kq v5 w' => ∃ (D2 : Int), v5 = .int .i64 D2 ∧ Aside0 (impl_IsHost.l1 kq (rdOf ByteArray.empty D1 D0) D2 D1 (D1.length : Int) D0 = some r) ∧ Aside0 (kq ≤ kj8) ∧ Aside0 (Kd.R Kd.string 9 w' w.heap.size (fun _ => True) (.slice (some D8) D1.length D9) D1) ∧ Aside0 (Below w.heap.size w w'))
          case atStart => exact ⟨(0), (by first | rfl | simp | simp [*]), H', ⟨Nat.le_refl _⟩, ⟨Cmp.rr D3.out⟩, ⟨Cmp.g HB.out⟩⟩
          case round =>
           clear H'
           (try clear c1); (try clear p1); (try clear q1); (try clear hx1); (try clear qi1); (try clear c2); (try clear c2b0); (try clear c2b1); (try clear p2); (try clear q2); (try clear hx2); (try clear c3); (try clear c6); (try clear c6b0); (try clear p6); (try clear c7); (try clear c7b0); (try clear c8); (try clear c8b0); (try clear c10); (try clear c10b0); (try clear c10b1); (try clear c11); (try clear c11b0); (try clear c11b1); (try clear c12); (try clear c12b0); (try clear c12b1); (try clear p13); (try clear q13); (try clear hx13); (try clear qi13); (try clear c14); (try clear c14b0); (try clear c14b1); (try clear c16); (try clear c16b0); (try clear c17); (try clear c17b0); (try clear p18); (try clear q18); (try clear hx18); (try clear c19); (try clear D5); (try clear p1); (try clear p13); (try clear p18); (try clear p2); (try clear p204); (try clear p6); (try clear q1); (try clear q13); (try clear q18); (try clear q2); (try clear q204)
           obtain ⟨D2, rfl, HA, HK3, D3, HB⟩ := hrel
           cases gk with
           | zero => exact absurd HA.out (by simp [impl_IsHost.l1])
           | succ k3 =>
            have H := HA.out; clear HA
            simp only [impl_IsHost.l1] at H
            by_cases c20 : D2 < ((rdOf ByteArray.empty D1 D0).size : Int)
            ·rw [if_pos c20] at H
             have c20b0 : decide (D2 < ((rdOf ByteArray.empty D1 D0).size : Int)) = true := decide_eq_true c20
             clear c20
             by_cases c21 : 0 ≤ D2
             ·rw [if_pos c21] at H; have c21b0 : decide (0 ≤ D2) = true := decide_eq_true c21; clear c21
              by_cases c23 : (bt (rdOf ByteArray.empty D1 D0) D2) ≥ 97
              ·rw [if_pos c23] at H; have c23b0 : decide (97 ≤ (bt (rdOf ByteArray.empty D1 D0) D2)) = true := decide_eq_true c23; clear c23
               by_cases c24 : (bt (rdOf ByteArray.empty D1 D0) D2) ≤ 122
               ·rw [if_pos c24] at H; have c24b0 : decide ((bt (rdOf ByteArray.empty D1 D0) D2) ≤ 122) = true := decide_eq_true c24; clear c24
                have H' := Cmp.A H
                clear H
                have p22 : 0 ≤ (D2 : Int) := of_decide_eq_true Cmp.d
                have q22 : D2 < ((rdOf ByteArray.empty D1 D0).size : Int) := of_decide_eq_true Cmp.d
                have hx22 := bt_at (rdOf ByteArray.empty D1 D0) D2
                replace p22 := eq_true p22; replace q22 := eq_true q22
                go_wp2
                go_roundg k3
                case measure => have := HK1.out; have := HJ8.out; have := HK3.out; omega
                case rel => exact ⟨(wrap64 (D2 + 1)), (by first | rfl | simp | simp [*]), H', ⟨by have := HK1.out; have := HJ8.out; have := HK3.out; omega⟩, ⟨Cmp.rr D3.out⟩, ⟨Cmp.g HB.out⟩⟩
               ·rw [if_neg c24] at H; have c24b0 : decide ((bt (rdOf ByteArray.empty D1 D0) D2) ≤ 122) = false := decide_eq_false c24; clear c24
                by_cases c25 : (bt (rdOf ByteArray.empty D1 D0) D2) ≥ 48
                ·rw [if_pos c25] at H; have c25b0 : decide (48 ≤ (bt (rdOf ByteArray.empty D1 D0) D2)) = true := decide_eq_true c25; clear c25
                 by_cases c26 : (bt (rdOf ByteArray.empty D1 D0) D2) ≤ 57
                 ·rw [if_pos c26] at H; have c26b0 : decide ((bt (rdOf ByteArray.empty D1 D0) D2) ≤ 57) = true := decide_eq_true c26; clear c26
                  have H' := Cmp.A H
                  clear H
                  have p22 : 0 ≤ (D2 : Int) := of_decide_eq_true Cmp.d
                  have q22 : D2 < ((rdOf ByteArray.empty D1 D0).size : Int) := of_decide_eq_true Cmp.d
                  have hx22 := bt_at (rdOf ByteArray.empty D1 D0) D2
                  replace p22 := eq_true p22; replace q22 := eq_true q22
                  go_wp2
                  go_roundg k3
                  case measure => have := HK1.out; have := HJ8.out; have := HK3.out; omega
                  case rel => exact ⟨(wrap64 (D2 + 1)), (by first | rfl | simp | simp [*]), H', ⟨by have := HK1.out; have := HJ8.out; have := HK3.out; omega⟩, ⟨Cmp.rr D3.out⟩, ⟨Cmp.g HB.out⟩⟩
                 ·rw [if_neg c26] at H; have c26b0 : decide ((bt (rdOf ByteArray.empty D1 D0) D2) ≤ 57) = false := decide_eq_false c26; clear c26
                  by_cases c27 : ((bt (rdOf ByteArray.empty D1 D0) D2) = 45)
                  ·rw [if_pos c27] at H; have c27b0 : ((bt (rdOf ByteArray.empty D1 D0) D2) == 45) = true := beq_iff_eq.mpr c27; have c27b1 : ((bt (rdOf ByteArray.empty D1 D0) D2) != 45) = false := bne_eq_false_iff_eq.mpr c27; clear c27
                   have H' := Cmp.A H
                   clear H
                   have p22 : 0 ≤ (D2 : Int) := of_decide_eq_true Cmp.d
                   have q22 : D2 < ((rdOf ByteArray.empty D1 D0).size : Int) := of_decide_eq_true Cmp.d
                   have hx22 := bt_at (rdOf ByteArray.empty D1 D0) D2
                   replace p22 := eq_true p22; replace q22 := eq_true q22
                   go_wp2
                   go_roundg k3
                   case measure => have := HK1.out; have := HJ8.out; have := HK3.out; omega
                   case rel => exact ⟨(wrap64 (D2 + 1)), (by first | rfl | simp | simp [*]), H', ⟨by have := HK1.out; have := HJ8.out; have := HK3.out; omega⟩, ⟨Cmp.rr D3.out⟩, ⟨Cmp.g HB.out⟩⟩
                  ·rw [if_neg c27] at H; have c27b0 : ((bt (rdOf ByteArray.empty D1 D0) D2) == 45) = false := beq_eq_false_iff_ne.mpr c27; have c27b1 : ((bt (rdOf ByteArray.empty D1 D0) D2) != 45) = true := bne_iff_ne.mpr c27
                   obtain rfl := Option.some.inj H
                   have p22 : 0 ≤ (D2 : Int) := of_decide_eq_true Cmp.d
                   have q22 : D2 < ((rdOf ByteArray.empty D1 D0).size : Int) := of_decide_eq_true Cmp.d
                   have hx22 := bt_at (rdOf ByteArray.empty D1 D0) D2
                   replace p22 := eq_true p22; replace q22 := eq_true q22
                   go_wp2
                   go_ret
                   exact ⟨by first | rfl | (simp [errW_none, errW_some] <;> rfl) | (simp [*, errW_none, errW_some] <;> rfl), Cmp.g HB.out⟩
                ·rw [if_neg c25] at H; have c25b0 : decide (48 ≤ (bt (rdOf ByteArray.empty D1 D0) D2)) = false := decide_eq_false c25; clear c25
                 by_cases c28 : ((bt (rdOf ByteArray.empty D1 D0) D2) = 45)
                 ·rw [if_pos c28] at H; have c28b0 : ((bt (rdOf ByteArray.empty D1 D0) D2) == 45) = true := beq_iff_eq.mpr c28; have c28b1 : ((bt (rdOf ByteArray.empty D1 D0) D2) != 45) = false := bne_eq_false_iff_eq.mpr c28; clear c28
                  have H' := Cmp.A H
                  clear H
                  have p22 : 0 ≤ (D2 : Int) := of_decide_eq_true Cmp.d
                  have q22 : D2 < ((rdOf ByteArray.empty D1 D0).size : Int) := of_decide_eq_true Cmp.d
                  have hx22 := bt_at (rdOf ByteArray.empty D1 D0) D2
                  replace p22 := eq_true p22; replace q22 := eq_true q22
                  go_wp2
                  go_roundg k3
                  case measure => have := HK1.out; have := HJ8.out; have := HK3.out; omega
                  case rel => exact ⟨(wrap64 (D2 + 1)), (by first | rfl | simp | simp [*]), H', ⟨by have := HK1.out; have := HJ8.out; have := HK3.out; omega⟩, ⟨Cmp.rr D3.out⟩, ⟨Cmp.g HB.out⟩⟩
                 ·rw [if_neg c28] at H; have c28b0 : ((bt (rdOf ByteArray.empty D1 D0) D2) == 45) = false := beq_eq_false_iff_ne.mpr c28; have c28b1 : ((bt (rdOf ByteArray.empty D1 D0) D2) != 45) = true := bne_iff_ne.mpr c28
                  obtain rfl := Option.some.inj H
                  have p22 : 0 ≤ (D2 : Int) := of_decide_eq_true Cmp.d
                  have q22 : D2 < ((rdOf ByteArray.empty D1 D0).size : Int) := of_decide_eq_true Cmp.d
                  have hx22 := bt_at (rdOf ByteArray.empty D1 D0) D2
                  replace p22 := eq_true p22; replace q22 := eq_true q22
                  go_wp2
                  go_ret
                  exact ⟨by first | rfl | (simp [errW_none, errW_some] <;> rfl) | (simp [*, errW_none, errW_some] <;> rfl), Cmp.g HB.out⟩
              ·rw [if_neg c23] at H; have c23b0 : decide (97 ≤ (bt (rdOf ByteArray.empty D1 D0) D2)) = false := decide_eq_false c23; clear c23
               by_cases c29 : (bt (rdOf ByteArray.empty D1 D0) D2) ≥ 48
               ·rw [if_pos c29] at H; have c29b0 : decide (48 ≤ (bt (rdOf ByteArray.empty D1 D0) D2)) = true := decide_eq_true c29; clear c29
                by_cases c30 : (bt (rdOf ByteArray.empty D1 D0) D2) ≤ 57
                ·rw [if_pos c30] at H; have c30b0 : decide ((bt (rdOf ByteArray.empty D1 D0) D2) ≤ 57) = true := decide_eq_true c30; clear c30
                 have H' := Cmp.A H
                 clear H
                 have p22 : 0 ≤ (D2 : Int) := of_decide_eq_true Cmp.d
                 have q22 : D2 < ((rdOf ByteArray.empty D1 D0).size : Int) := of_decide_eq_true Cmp.d
                 have hx22 := bt_at (rdOf ByteArray.empty D1 D0) D2
                 replace p22 := eq_true p22; replace q22 := eq_true q22
                 go_wp2
                 go_roundg k3
                 case measure => have := HK1.out; have := HJ8.out; have := HK3.out; omega
                 case rel => exact ⟨(wrap64 (D2 + 1)), (by first | rfl | simp | simp [*]), H', ⟨by have := HK1.out; have := HJ8.out; have := HK3.out; omega⟩, ⟨Cmp.rr D3.out⟩, ⟨Cmp.g HB.out⟩⟩
                ·rw [if_neg c30] at H; have c30b0 : decide ((bt (rdOf ByteArray.empty D1 D0) D2) ≤ 57) = false := decide_eq_false c30; clear c30
                 by_cases c31 : ((bt (rdOf ByteArray.empty D1 D0) D2) = 45)
                 ·rw [if_pos c31] at H; have c31b0 : ((bt (rdOf ByteArray.empty D1 D0) D2) == 45) = true := beq_iff_eq.mpr c31; have c31b1 : ((bt (rdOf ByteArray.empty D1 D0) D2) != 45) = false := bne_eq_false_iff_eq.mpr c31; clear c31
                  have H' := Cmp.A H
                  clear H
                  have p22 : 0 ≤ (D2 : Int) := of_decide_eq_true Cmp.d
                  have q22 : D2 < ((rdOf ByteArray.empty D1 D0).size : Int) := of_decide_eq_true Cmp.d
                  have hx22 := bt_at (rdOf ByteArray.empty D1 D0) D2
                  replace p22 := eq_true p22; replace q22 := eq_true q22
                  go_wp2
                  go_roundg k3
                  case measure => have := HK1.out; have := HJ8.out; have := HK3.out; omega
                  case rel => exact ⟨(wrap64 (D2 + 1)), (by first | rfl | simp | simp [*]), H', ⟨by have := HK1.out; have := HJ8.out; have := HK3.out; omega⟩, ⟨Cmp.rr D3.out⟩, ⟨Cmp.g HB.out⟩⟩
                 ·rw [if_neg c31] at H; have c31b0 : ((bt (rdOf ByteArray.empty D1 D0) D2) == 45) = false := beq_eq_false_iff_ne.mpr c31; have c31b1 : ((bt (rdOf ByteArray.empty D1 D0) D2) != 45) = true := bne_iff_ne.mpr c31
                  obtain rfl := Option.some.inj H
                  have p22 : 0 ≤ (D2 : Int) := of_decide_eq_true Cmp.d
                  have q22 : D2 < ((rdOf ByteArray.empty D1 D0).size : Int) := of_decide_eq_true Cmp.d
                  have hx22 := bt_at (rdOf ByteArray.empty D1 D0) D2
                  replace p22 := eq_true p22; replace q22 := eq_true q22
                  go_wp2
                  go_ret
                  exact ⟨by first | rfl | (simp [errW_none, errW_some] <;> rfl) | (simp [*, errW_none, errW_some] <;> rfl), Cmp.g HB.out⟩
               ·rw [if_neg c29] at H; have c29b0 : decide (48 ≤ (bt (rdOf ByteArray.empty D1 D0) D2)) = false := decide_eq_false c29; clear c29
                by_cases c32 : ((bt (rdOf ByteArray.empty D1 D0) D2) = 45)
                ·rw [if_pos c32] at H; have c32b0 : ((bt (rdOf ByteArray.empty D1 D0) D2) == 45) = true := beq_iff_eq.mpr c32; have c32b1 : ((bt (rdOf ByteArray.empty D1 D0) D2) != 45) = false := bne_eq_false_iff_eq.mpr c32; clear c32
                 have H' := Cmp.A H
                 clear H
                 have p22 : 0 ≤ (D2 : Int) := of_decide_eq_true Cmp.d
                 have q22 : D2 < ((rdOf ByteArray.empty D1 D0).size : Int) := of_decide_eq_true Cmp.d
                 have hx22 := bt_at (rdOf ByteArray.empty D1 D0) D2
                 replace p22 := eq_true p22; replace q22 := eq_true q22
                 go_wp2
                 go_roundg k3
                 case measure => have := HK1.out; have := HJ8.out; have := HK3.out; omega
                 case rel => exact ⟨(wrap64 (D2 + 1)), (by first | rfl | simp | simp [*]), H', ⟨by have := HK1.out; have := HJ8.out; have := HK3.out; omega⟩, ⟨Cmp.rr D3.out⟩, ⟨Cmp.g HB.out⟩⟩
                ·rw [if_neg c32] at H; have c32b0 : ((bt (rdOf ByteArray.empty D1 D0) D2) == 45) = false := beq_eq_false_iff_ne.mpr c32; have c32b1 : ((bt (rdOf ByteArray.empty D1 D0) D2) != 45) = true := bne_iff_ne.mpr c32
                 obtain rfl := Option.some.inj H
                 have p22 : 0 ≤ (D2 : Int) := of_decide_eq_true Cmp.d
                 have q22 : D2 < ((rdOf ByteArray.empty D1 D0).size : Int) := of_decide_eq_true Cmp.d
                 have hx22 := bt_at (rdOf ByteArray.empty D1 D0) D2
                 replace p22 := eq_true p22; replace q22 := eq_true q22
                 go_wp2
                 go_ret
                 exact ⟨by first | rfl | (simp [errW_none, errW_some] <;> rfl) | (simp [*, errW_none, errW_some] <;> rfl), Cmp.g HB.out⟩
             ·rw [if_neg c21] at H; exact absurd H (by simp)
            ·rw [if_neg c20] at H
             have c20b0 : decide (D2 < ((rdOf ByteArray.empty D1 D0).size : Int)) = false := decide_eq_false c20
             clear c20
             have H' := Cmp.A H
             clear H
             go_wp2
             go_roundg k3
             case measure => have := HK1.out; have := HJ8.out; have := HK3.out; omega
             case rel => exact ⟨(wrap64 (D0 + 1)), (by first | rfl | simp | simp [*]), H', ⟨by have := HK1.out; have := HJ8.out; have := HK3.out; omega⟩, ⟨Cmp.rr D3.out⟩, ⟨Cmp.g HB.out⟩⟩
      ·rw [if_neg c8] at H; exact absurd H (by simp)
     ·rw [if_neg c7] at H; exact absurd H (by simp)
    ·rw [if_neg c6] at H
     have c6b0 : decide (D0 < (D1.length : Int)) = false := decide_eq_false c6
     clear c6
     obtain rfl := Option.some.inj H
     go_wp2
     go_ret
     exact ⟨by first | rfl | (simp [errW_none, errW_some] <;> rfl) | (simp [*, errW_none, errW_some] <;> rfl), Cmp.g HB.out⟩
/-! ### impl_InRange: function 32 -/
def impl_InRange.f (a0 : Int) (a1 : Int) (a2 : Int) : Option (Bool) := if a1 ≤ a0 then (some (decide (a0 ≤ a2))) else (some false)
set_option maxHeartbeats 8000000 in
set_option maxRecDepth 100000 in
theorem impl_InRange.calls (a0 : Int) (a1 : Int) (a2 : Int) (r : Bool) (w : World) (h : impl_InRange.f a0 a1 a2 = some r) :
    Calls Tryd.prog 32 #[.int .i64 a0, .int .i64 a1, .int .i64 a2] w fun e w' => e = .returned (.bool r) ∧ Drawn0 w w' := by
 have H : (if a1 ≤ a0 then (some (decide (a0 ≤ a2))) else (some false)) = some r := h
 clear h
 by_cases c4 : a1 ≤ a0
 ·rw [if_pos c4] at H; have c4b0 : decide (a1 ≤ a0) = true := decide_eq_true c4; clear c4
  obtain rfl := Option.some.inj H
  go_enter Tryd.func32, Tryd.ntmps32
  go_wp2
  go_ret
  exact ⟨by first | rfl | (simp; done) | (simp [*]; done), by repeat (first | exact Drawn0.refl _ | apply Drawn0.step)⟩
 ·rw [if_neg c4] at H; have c4b0 : decide (a1 ≤ a0) = false := decide_eq_false c4; clear c4
  obtain rfl := Option.some.inj H
  go_enter Tryd.func32, Tryd.ntmps32
  go_wp2
  go_ret
  exact ⟨by first | rfl | (simp; done) | (simp [*]; done), by repeat (first | exact Drawn0.refl _ | apply Drawn0.step)⟩
/-! ### impl_IsOrigin: function 22 -/
def impl_IsOrigin.f (k : Nat) (a0_0 : Bool) (a0_1 : ByteArray) (a0_2 : Int) : Option (Bool) := (impl_IsHost.f k a0_1).bind fun t206 => (if t206 = true then ((impl_InRange.f a0_2 1 65535).bind fun t207 => (some t207)) else (some false))
theorem impl_IsOrigin.mono : ∀ a0 a1 a2 k, LeO (impl_IsOrigin.f k a0 a1 a2) (impl_IsOrigin.f (k + 1) a0 a1 a2) := by
  intro a0 a1 a2 k
  unfold impl_IsOrigin.f
  repeat' first
 | (with_reducible exact impl_IsHost.mono _ _)
 | (with_reducible exact LeO.refl _)
 | (with_reducible exact LeO.none _)
 | (with_reducible refine LeO.ite ?_ ?_)
 | (with_reducible refine LeO.bind ?_ (fun _ => ?_))
set_option maxHeartbeats 8000000 in
set_option maxRecDepth 100000 in
theorem impl_IsOrigin.calls (k : Nat) (a0_0 : Bool) (a0_1 : ByteArray) (a0_2 : Int) (r : Bool) (w : World) (hm : HasM w) (h : impl_IsOrigin.f k a0_0 a0_1 a0_2 = some r) :
    Calls Tryd.prog 22 #[.agg #[.bool a0_0, .string a0_1, .int .i64 a0_2]] w fun e w' => e = .returned (.bool r) ∧ Below w.heap.size w w' := by
 have hu38 := Tryd.underlying38
 have HB := Cmp.A (Below.refl w.heap.size w)
 have HM := Cmp.A hm; clear hm
 have H : ((impl_IsHost.f k a0_1).bind fun D1 => (if D1 = true then ((impl_InRange.f a0_2 1 65535).bind fun D2 => (some D2)) else (some false))) = some r := h
 clear h; replace H := Option.bind_eq_some_iff.mp H; obtain ⟨D1, Do, H⟩ := H; (try dsimp only at H); have A2 := Cmp.A Do; clear Do
 by_cases c3 : D1 = true
 ·subst c3; rw [if_pos rfl] at H; replace H := Option.bind_eq_some_iff.mp H; obtain ⟨D2, Dp, H⟩ := H; (try dsimp only at H); have A4 := Cmp.A Dp; clear Dp
  obtain rfl := Option.some.inj H
  go_enter Tryd.func22, Tryd.ntmps22
  go_wp2_with (first | ((with_reducible refine gate_dst (N := 1) rfl ?_); refine box_event ?hg (N := 1) ?hd (cs := #[.bool a0_0, .string a0_1, .int .i64 a0_2]) (t := 38) ?hr ?_; (case hd => rfl); (case hg => rfl); (case hr => first | (go_simp; done) | (go_simp; rfl)); intro D5 hg w5 hbox hb; have D0 := Cmp.A (hbox); have D4 := Cmp.gw hg HB; have D3 := Cmp.gw hg HB; replace HB := Cmp.bs HB hb; clear hb hbox hg; obtain ⟨Dc, Dd, De⟩ := Cmp.q3 D0; obtain ⟨Di, Dj, Dk⟩ := Cmp.f3 D0) | ((with_reducible refine gate_callee (f := 31) rfl ?_); refine goesL_ (some 5) rfl rfl Tryd.func31 (by kernel_rfl) rfl #[.string a0_1] rfl Cmp.q ?_; (with_reducible refine (impl_IsHost.calls k a0_1 true _ (HasM.at (Cmp.g HB.out) HM.out) A2.out).mono ?_); rintro e w7 ⟨rfl, hb⟩; refine ⟨_, rfl, ?_⟩; replace D0 := Cmp.be D0 hb; replace HB := Cmp.bs HB hb; (try clear hb); (try clear hb2); (try clear hk); (try clear hi); obtain ⟨Df, Dg, Dh⟩ := Cmp.q3 D0; obtain ⟨Dl, Dm, Dn⟩ := Cmp.f3 D0) | (go_at_call 32; (with_reducible refine (impl_InRange.calls a0_2 1 65535 D2 _ A4.out).mono ?_); rintro e w' ⟨rfl, ⟨nd, rfl⟩⟩))
  go_ret
  exact ⟨by first | rfl | (simp [errW_none, errW_some] <;> rfl) | (simp [*, errW_none, errW_some] <;> rfl), Cmp.g HB.out⟩
 ·replace c3 := Bool.eq_false_iff.mpr c3
  subst c3
  have H1 : (some false) = some r := by rw [if_neg (show ¬ (false = true) by decide)] at H; exact H
  clear H; have H := H1; clear H1
  obtain rfl := Option.some.inj H
  go_enter Tryd.func22, Tryd.ntmps22
  go_wp2_with (first | ((with_reducible refine gate_dst (N := 1) rfl ?_); refine box_event ?hg (N := 1) ?hd (cs := #[.bool a0_0, .string a0_1, .int .i64 a0_2]) (t := 38) ?hr ?_; (case hd => rfl); (case hg => rfl); (case hr => first | (go_simp; done) | (go_simp; rfl)); intro D5 hg w9 hbox hb; have D0 := Cmp.A (hbox); have D4 := Cmp.gw hg HB; have D3 := Cmp.gw hg HB; replace HB := Cmp.bs HB hb; clear hb hbox hg; obtain ⟨D6, D7, D8⟩ := Cmp.q3 D0; obtain ⟨D9, Da, Db⟩ := Cmp.f3 D0) | ((with_reducible refine gate_callee (f := 31) rfl ?_); refine goesL_ (some 5) rfl rfl Tryd.func31 (by kernel_rfl) rfl #[.string a0_1] rfl Cmp.q ?_; (with_reducible refine (impl_IsHost.calls k a0_1 false _ (HasM.at (Cmp.g HB.out) HM.out) A2.out).mono ?_); rintro e w11 ⟨rfl, hb⟩; refine ⟨_, rfl, ?_⟩; replace D0 := Cmp.be D0 hb; replace HB := Cmp.bs HB hb; (try clear hb); (try clear hb2); (try clear hk); (try clear hi)))
  go_ret
  exact ⟨by first | rfl | (simp [errW_none, errW_some] <;> rfl) | (simp [*, errW_none, errW_some] <;> rfl), Cmp.g HB.out⟩
/-! ### impl_OpenTab: function 10 -/
def impl_OpenTab.f (k : Nat) (a0_0 : Int) (a0_1 : Int) (a0_2 : Int) (a0_3 : Int) (l0_4 : List (S49)) (a0_5 : Int) (a1_0 : Bool) (a1_1 : ByteArray) (a1_2 : Int) (a2_0 : Bool) (a2_1 : ByteArray) (a2_2 : Int) : Option (Int × Int × Int × Int × (List (S49)) × Int × Bool) := (impl_copyBrowser.f a0_0 a0_1 a0_2 a0_3 l0_4 a0_5).bind fun bt212 => ((impl_IsOrigin.f k a1_0 a1_1 a1_2).bind fun t221 => (if t221 = true then ((impl_IsOrigin.f k a2_0 a2_1 a2_2).bind fun t222 => (if t222 = true then (if (l0_4.length : Int) ≥ 8 then (some (bt212.1, bt212.2.1, bt212.2.2.1, bt212.2.2.2.1, bt212.2.2.2.2.1, bt212.2.2.2.2.2, false)) else (if bt212.2.2.2.2.1.length < 2199023255552 then (some (bt212.1, bt212.2.1, bt212.2.2.1, bt212.2.2.2.1, (bt212.2.2.2.2.1 ++ [(⟨(⟨a1_0, a1_1, a1_2⟩ : S38), (⟨a2_0, a2_1, a2_2⟩ : S38)⟩ : S49)]), bt212.2.2.2.2.2, true)) else (none))) else (some (bt212.1, bt212.2.1, bt212.2.2.1, bt212.2.2.2.1, bt212.2.2.2.2.1, bt212.2.2.2.2.2, false)))) else (some (bt212.1, bt212.2.1, bt212.2.2.1, bt212.2.2.2.1, bt212.2.2.2.2.1, bt212.2.2.2.2.2, false))))
theorem impl_OpenTab.mono : ∀ a0 a1 a2 a3 a4 a5 a6 a7 a8 a9 a10 a11 k, LeO (impl_OpenTab.f k a0 a1 a2 a3 a4 a5 a6 a7 a8 a9 a10 a11) (impl_OpenTab.f (k + 1) a0 a1 a2 a3 a4 a5 a6 a7 a8 a9 a10 a11) := by
  intro a0 a1 a2 a3 a4 a5 a6 a7 a8 a9 a10 a11 k
  unfold impl_OpenTab.f
  repeat' first
 | (with_reducible exact impl_IsOrigin.mono _ _ _ _)
 | (with_reducible exact LeO.refl _)
 | (with_reducible exact LeO.none _)
 | (with_reducible refine LeO.ite ?_ ?_)
 | (with_reducible refine LeO.bind ?_ (fun _ => ?_))
set_option maxHeartbeats 8000000 in
set_option maxRecDepth 100000 in
theorem impl_OpenTab.calls (k : Nat) (a0_0 : Int) (a0_1 : Int) (a0_2 : Int) (a0_3 : Int) (A0_4 : Option Addr) (c0_4 : Nat) (l0_4 : List (S49)) (a0_5 : Int) (a1_0 : Bool) (a1_1 : ByteArray) (a1_2 : Int) (a2_0 : Bool) (a2_1 : ByteArray) (a2_2 : Int) (r1 : Int) (r2 : Int) (r3 : Int) (r4 : Int) (r5 : List (S49)) (r6 : Int) (r7 : Bool) (w : World) (hr0_4 : Kd.C k49 w A0_4 l0_4.length l0_4) (hc0_4 : l0_4.length ≤ c0_4) (hm : HasM w) (h : impl_OpenTab.f k a0_0 a0_1 a0_2 a0_3 l0_4 a0_5 a1_0 a1_1 a1_2 a2_0 a2_1 a2_2 = some (r1, r2, r3, r4, r5, r6, r7)) :
    Calls Tryd.prog 10 #[.agg #[.int .i64 a0_0, .int .i64 a0_1, .int .i64 a0_2, .int .i64 a0_3, .slice A0_4 l0_4.length c0_4, .int .i64 a0_5], .agg #[.bool a1_0, .string a1_1, .int .i64 a1_2], .agg #[.bool a2_0, .string a2_1, .int .i64 a2_2]] w fun e w' => ∃ v4_ : Value, e = .returned (.tuple #[.agg #[.int .i64 r1, .int .i64 r2, .int .i64 r3, .int .i64 r4, v4_, .int .i64 r6], .bool r7]) ∧ Kd.R k49 49 w' w.heap.size (fun _ => True) v4_ r5 ∧ Below w.heap.size w w' := by
 have hu34 := Tryd.underlying34; have hu38 := Tryd.underlying38; have hu49 := Tryd.underlying49; have E2 := Cmp.A hr0_4; have HC0_4 := Cmp.A hc0_4; clear hr0_4 hc0_4
 have HB := Cmp.A (Below.refl w.heap.size w)
 have HM := Cmp.A hm; clear hm
 have H : ((impl_copyBrowser.f a0_0 a0_1 a0_2 a0_3 l0_4 a0_5).bind fun bt212 => ((impl_IsOrigin.f k a1_0 a1_1 a1_2).bind fun Ep => (if Ep = true then ((impl_IsOrigin.f k a2_0 a2_1 a2_2).bind fun Eq => (if Eq = true then (if (l0_4.length : Int) ≥ 8 then (some (bt212.1, bt212.2.1, bt212.2.2.1, bt212.2.2.2.1, bt212.2.2.2.2.1, bt212.2.2.2.2.2, false)) else (if bt212.2.2.2.2.1.length < 2199023255552 then (some (bt212.1, bt212.2.1, bt212.2.2.1, bt212.2.2.2.1, (bt212.2.2.2.2.1 ++ [(⟨(⟨a1_0, a1_1, a1_2⟩ : S38), (⟨a2_0, a2_1, a2_2⟩ : S38)⟩ : S49)]), bt212.2.2.2.2.2, true)) else (none))) else (some (bt212.1, bt212.2.1, bt212.2.2.1, bt212.2.2.2.1, bt212.2.2.2.2.1, bt212.2.2.2.2.2, false)))) else (some (bt212.1, bt212.2.1, bt212.2.2.1, bt212.2.2.2.1, bt212.2.2.2.2.1, bt212.2.2.2.2.2, false))))) = some (r1, r2, r3, r4, r5, r6, r7) := h
 clear h; replace H := Option.bind_eq_some_iff.mp H; obtain ⟨⟨Dt, Du, Dv, Dw, Ds, Dx⟩, Q6, H⟩ := H; (try dsimp only at H); have A4 := Cmp.A Q6; clear Q6; replace H := Option.bind_eq_some_iff.mp H; obtain ⟨Ep, Q7, H⟩ := H; (try dsimp only at H); have A5 := Cmp.A Q7; clear Q7
 by_cases c6 : Ep = true
 ·subst c6; rw [if_pos rfl] at H; replace H := Option.bind_eq_some_iff.mp H; obtain ⟨Eq, Q8, H⟩ := H; (try dsimp only at H); have A7 := Cmp.A Q8; clear Q8
  by_cases c8 : Eq = true
  ·subst c8; rw [if_pos rfl] at H
   by_cases c9 : (l0_4.length : Int) ≥ 8
   ·rw [if_pos c9] at H
    have c9b0 : decide (8 ≤ (l0_4.length : Int)) = true := decide_eq_true c9
    have c9b1 : decide (8 ≤ l0_4.length) = true := decide_eq_true (by omega)
    clear c9
    simp only [Option.some.injEq, Prod.mk.injEq] at H
    obtain ⟨rfl, rfl, rfl, rfl, rfl, rfl, rfl⟩ := H
    go_enter Tryd.func10, Tryd.ntmps10
    go_wp2_with (first | ((with_reducible refine gate_dst (N := 3) rfl ?_); (try (refine gate_guard (by rfl) ?_; dsimp only)); refine box_event ?hg (N := 3) ?hd (cs := #[.int .i64 a0_0, .int .i64 a0_1, .int .i64 a0_2, .int .i64 a0_3, .slice A0_4 l0_4.length c0_4, .int .i64 a0_5]) (t := 34) ?hr ?_; (case hd => rfl); (case hg => rfl); (case hr => first | (go_simp; done) | (go_simp; rfl)); intro Dy hg w10 hbox hb; have D0 := Cmp.A (hbox); have E9 := Cmp.gw hg HB; have E4 := Cmp.gw hg HB; replace HB := Cmp.bs HB hb; clear hb hbox hg) | ((with_reducible refine gate_dst (N := 4) rfl ?_); (try (refine gate_guard (by rfl) ?_; dsimp only)); refine box_event ?hg (N := 4) ?hd (cs := #[.bool a1_0, .string a1_1, .int .i64 a1_2]) (t := 38) ?hr ?_; (case hd => rfl); (case hg => rfl); (case hr => first | (go_simp; done) | (go_simp; rfl)); intro Dz hg w11 hbox hb; have D2 := Cmp.A (hbox); have Ea := Cmp.gw hg HB; have E5 := Cmp.gw hg HB; have D8 := Cmp.nl hg D0; have Dc := Cmp.ng hg D0; replace D0 := Cmp.be D0 hb; replace HB := Cmp.bs HB hb; clear hb hbox hg) | ((with_reducible refine gate_dst (N := 5) rfl ?_); (try (refine gate_guard (by rfl) ?_; dsimp only)); refine box_event ?hg (N := 5) ?hd (cs := #[.bool a2_0, .string a2_1, .int .i64 a2_2]) (t := 38) ?hr ?_; (case hd => rfl); (case hg => rfl); (case hr => first | (go_simp; done) | (go_simp; rfl)); intro E0 hg w12 hbox hb; have D4 := Cmp.A (hbox); have Eb := Cmp.gw hg HB; have E6 := Cmp.gw hg HB; have D9 := Cmp.nl hg D0; have Dg := Cmp.ng hg D0; have Dd := Cmp.nl hg D2; have Dh := Cmp.ng hg D2; replace D0 := Cmp.be D0 hb; replace D2 := Cmp.be D2 hb; replace HB := Cmp.bs HB hb; clear hb hbox hg) | ((with_reducible refine gate_dst (N := 6) rfl ?_); (try (refine gate_guard (by rfl) ?_; dsimp only)); refine box_event ?hg (N := 6) ?hd (cs := #[.int .i64 0, .int .i64 0, .int .i64 0, .int .i64 0, .slice none 0 0, .int .i64 0]) (t := 34) ?hr ?_; (case hd => rfl); (case hg => rfl); (case hr => first | (go_simp; done) | (go_simp; rfl)); intro D6 hg w13 hbox hb; have D3 := Cmp.A (hbox); have Ec := Cmp.gw hg HB; have E7 := Cmp.gw hg HB; have Da := Cmp.nl hg D0; have Dk := Cmp.ng hg D0; have De := Cmp.nl hg D2; have Dl := Cmp.ng hg D2; have Di := Cmp.nl hg D4; have Dm := Cmp.ng hg D4; replace D0 := Cmp.be D0 hb; replace D2 := Cmp.be D2 hb; replace D4 := Cmp.be D4 hb; replace HB := Cmp.bs HB hb; clear hb hbox hg; have Q9 := D8.out; have R6 := Dc.out; have Qa := D9.out; have R7 := Dg.out; have Qb := Da.out; have R8 := Dk.out; obtain ⟨Gb, Gc, Gd, Ge, Gf, Gg⟩ := Cmp.q6 D0; obtain ⟨Li, Lj, Lk, Ll, Lm, Ln⟩ := Cmp.f6 D0) | ((with_reducible refine gate_callee (f := 21) rfl ?_); refine goesL_ (some 10) rfl rfl Tryd.func21 (by kernel_rfl) rfl #[.agg #[.int .i64 a0_0, .int .i64 a0_1, .int .i64 a0_2, .int .i64 a0_3, .slice A0_4 l0_4.length c0_4, .int .i64 a0_5]] rfl Cmp.q ?_; (with_reducible refine (impl_copyBrowser.calls a0_0 a0_1 a0_2 a0_3 _ _ l0_4 a0_5 Dt Du Dv Dw Ds Dx _ ?side1 ?side2 A4.out).mono ?_); (case side1 => exact Cmp.rc (Kd.C_below E2.out HB.out)); (case side2 => exact HC0_4.out); rintro e w18 ⟨v217, rfl, Ee, hb⟩; refine ⟨_, rfl, ?_⟩; have D5 := Cmp.A (Kd.R_lower Ee (below_size (Cmp.g HB.out))); replace D0 := Cmp.be D0 hb; replace D2 := Cmp.be D2 hb; replace D4 := Cmp.be D4 hb; replace D3 := Cmp.be D3 hb; replace HB := Cmp.bs HB hb; (try clear hb); (try clear hb2); (try clear hk); (try clear hi); (try clear Ee)) | ((with_reducible refine gate_dst (N := 8) rfl ?_); (try (refine gate_guard (by rfl) ?_; dsimp only)); refine box_event ?hg (N := 8) ?hd (cs := #[.int .i64 0, .int .i64 0, .int .i64 0, .int .i64 0, .slice none 0 0, .int .i64 0]) (t := 34) ?hr ?_; (case hd => rfl); (case hg => rfl); (case hr => first | (go_simp; done) | (go_simp; rfl)); intro D7 hg w19 hbox hb; have D1 := Cmp.A (hbox); have Ed := Cmp.gw hg HB; have E8 := Cmp.gw hg HB; have Db := Cmp.nl hg D0; have Do := Cmp.ng hg D0; have Df := Cmp.nl hg D2; have Dp := Cmp.ng hg D2; have Dj := Cmp.nl hg D4; have Dq := Cmp.ng hg D4; have Dn := Cmp.nl hg D3; have Dr := Cmp.ng hg D3; replace D5 := Cmp.A (Kd.R_below (Cmp.rr D5.out) hb); replace D0 := Cmp.be D0 hb; replace D2 := Cmp.be D2 hb; replace D4 := Cmp.be D4 hb; replace D3 := Cmp.be D3 hb; replace HB := Cmp.bs HB hb; clear hb hbox hg; have Qc := Do.out; have R9 := Db.out; have Qd := Dp.out; have Ra := Df.out; have Qe := Dq.out; have Rb := Dj.out; have Qf := Dr.out; have Rc := Dn.out; obtain ⟨Gh, Gi, Gj, Gk, Gl, Gm⟩ := Cmp.q6 D1; obtain ⟨Lo, Lp, Lq, Lr, Ls, Lt⟩ := Cmp.f6 D1; obtain ⟨Ef, Eh, Po⟩ := Kd.R_slice D5.out; subst Po; have Qg := Dd.out; have Rd := Dh.out; have Qh := De.out; have Re := Dl.out; obtain ⟨Gn, Go, Gp⟩ := Cmp.q3 D2; obtain ⟨Lu, Lv, Lw⟩ := Cmp.f3 D2) | ((with_reducible refine gate_callee (f := 22) rfl ?_); refine goesL_ (some 12) rfl rfl Tryd.func22 (by kernel_rfl) rfl #[.agg #[.bool a1_0, .string a1_1, .int .i64 a1_2]] rfl Cmp.q ?_; (with_reducible refine (impl_IsOrigin.calls k a1_0 a1_1 a1_2 true _ (HasM.at (Cmp.g HB.out) HM.out) A5.out).mono ?_); rintro e w29 ⟨rfl, hb⟩; refine ⟨_, rfl, ?_⟩; replace D5 := Cmp.A (Kd.R_below (Cmp.rm (Kd.R_far (p := ⟨D7, 5, none⟩) (Kd.R_far (p := ⟨D7, 4, none⟩) (Kd.R_far (p := ⟨D7, 3, none⟩) (Kd.R_far (p := ⟨D7, 2, none⟩) (Kd.R_far (p := ⟨D7, 1, none⟩) (Kd.R_far (p := ⟨D7, 0, none⟩) (Kd.R_types D5.out D1.out (by decide)) (fun _ hk => hk.2) (.int .i64 Dt)) (fun _ hk => hk.2) (.int .i64 Du)) (fun _ hk => hk.2) (.int .i64 Dv)) (fun _ hk => hk.2) (.int .i64 Dw)) (fun _ hk => hk.2) (.slice Ef Ds.length Eh)) (fun _ hk => hk.2) (.int .i64 Dx)) (fun _ h_ => h_.1)) hb); replace D0 := Cmp.A (blk_below (g := Dy) (o := .cells #[.int .i64 a0_0, .int .i64 a0_1, .int .i64 a0_2, .int .i64 a0_3, .slice A0_4 l0_4.length c0_4, .int .i64 a0_5] 34 (0, 0)) (Cmp.bw D0.out) hb); replace D2 := Cmp.A (blk_below (g := Dz) (o := .cells #[.bool a1_0, .string a1_1, .int .i64 a1_2] 38 (0, 0)) (Cmp.bw D2.out) hb); replace D4 := Cmp.A (blk_below (g := E0) (o := .cells #[.bool a2_0, .string a2_1, .int .i64 a2_2] 38 (0, 0)) (Cmp.bw D4.out) hb); replace D3 := Cmp.A (blk_below (g := D6) (o := .cells #[.int .i64 0, .int .i64 0, .int .i64 0, .int .i64 0, .slice none 0 0, .int .i64 0] 34 (0, 0)) (Cmp.bw D3.out) hb); replace D1 := Cmp.A (blk_below (g := D7) (o := .cells #[.int .i64 Dt, .int .i64 Du, .int .i64 Dv, .int .i64 Dw, .slice Ef Ds.length Eh, .int .i64 Dx] 34 (0, 0)) (Cmp.bw D1.out) hb); replace HB := Cmp.bs HB hb; (try clear hb); (try clear hb2); (try clear hk); (try clear hi); have Qi := Di.out; have Rf := Dm.out; obtain ⟨Gq, Gr, Gs⟩ := Cmp.q3 D4; obtain ⟨Lx, Ly, Lz⟩ := Cmp.f3 D4) | (go_at_call 22; (with_reducible refine (impl_IsOrigin.calls k a2_0 a2_1 a2_2 true _ (HasM.at (Cmp.g HB.out) HM.out) A7.out).mono ?_); rintro e w32 ⟨rfl, hb⟩; replace D5 := Cmp.A (Kd.R_below (Cmp.rr D5.out) hb); replace D0 := Cmp.be D0 hb; replace D2 := Cmp.be D2 hb; replace D4 := Cmp.be D4 hb; replace D3 := Cmp.be D3 hb; replace D1 := Cmp.be D1 hb; replace HB := Cmp.bs HB hb; (try clear hb); (try clear hb2); (try clear hk); (try clear hi); obtain ⟨Gt, Gu, Gv, Gw, Gx, Gy⟩ := Cmp.q6 D0; obtain ⟨M0, M1, M2, M3, M4, M5⟩ := Cmp.f6 D0; obtain ⟨Gz, J0, J1, J2, J3, J4⟩ := Cmp.q6 D1; obtain ⟨M6, M7, M8, M9, Ma, Mb⟩ := Cmp.f6 D1; obtain ⟨J5, J6, J7, J8, J9, Ja⟩ := Cmp.q6 D3; obtain ⟨Mc, Md, Me, Mf, Mg, Mh⟩ := Cmp.f6 D3))
    refine bodyPost_ret (results_ct rfl _ _ D6 34 #[.int .i64 Dt, .int .i64 Du, .int .i64 Dv, .int .i64 Dw, .slice Ef Ds.length Eh, .int .i64 Dx] (0, 0) _ rfl (Cmp.bw D3.out) Tryd.underlying34 rfl (by kernel_rfl)) rfl ?_
    exact ⟨_, by first | rfl | (simp [errW_none, errW_some] <;> rfl) | (simp [*, errW_none, errW_some] <;> rfl), by (with_reducible repeat (first | apply Kd.R_alloc | apply Kd.R_drewN | apply Kd.R_drew)); exact Kd.R_mono (Kd.R_far (p := ⟨D6, 5, none⟩) (Kd.R_far (p := ⟨D6, 4, none⟩) (Kd.R_far (p := ⟨D6, 3, none⟩) (Kd.R_far (p := ⟨D6, 2, none⟩) (Kd.R_far (p := ⟨D6, 1, none⟩) (Kd.R_far (p := ⟨D6, 0, none⟩) (Kd.R_types D5.out D3.out (by decide)) (fun _ hk => hk.2) (.int .i64 Dt)) (fun _ hk => hk.2) (.int .i64 Du)) (fun _ hk => hk.2) (.int .i64 Dv)) (fun _ hk => hk.2) (.int .i64 Dw)) (fun _ hk => hk.2) (.slice Ef Ds.length Eh)) (fun _ hk => hk.2) (.int .i64 Dx)) (fun _ hk => trivial), Cmp.g HB.out⟩
   ·rw [if_neg c9] at H
    have c9b0 : decide (8 ≤ (l0_4.length : Int)) = false := decide_eq_false c9
    have c9b1 : decide (8 ≤ l0_4.length) = false := decide_eq_false (by omega)
    clear c9
    by_cases c36 : Ds.length < 2199023255552
    ·rw [if_pos c36] at H; have LMc36 := Cmp.A c36; clear c36
     obtain ⟨Ej, hy223⟩ : ∃ y_ : List (S49), y_ = (Ds ++ [(⟨(⟨a1_0, a1_1, a1_2⟩ : S38), (⟨a2_0, a2_1, a2_2⟩ : S38)⟩ : S49)]) := ⟨_, rfl⟩
     replace H : (some (Dt, Du, Dv, Dw, Ej, Dx, true)) = some (r1, r2, r3, r4, r5, r6, r7) := Cmp.hy hy223 H
     have Er := Cmp.A hy223; clear hy223
     simp only [Option.some.injEq, Prod.mk.injEq] at H
     obtain ⟨rfl, rfl, rfl, rfl, rfl, rfl, rfl⟩ := H
     go_enter Tryd.func10, Tryd.ntmps10
     go_wp2_with (first | ((with_reducible refine gate_dst (N := 3) rfl ?_); (try (refine gate_guard (by rfl) ?_; dsimp only)); refine box_event ?hg (N := 3) ?hd (cs := #[.int .i64 a0_0, .int .i64 a0_1, .int .i64 a0_2, .int .i64 a0_3, .slice A0_4 l0_4.length c0_4, .int .i64 a0_5]) (t := 34) ?hr ?_; (case hd => rfl); (case hg => rfl); (case hr => first | (go_simp; done) | (go_simp; rfl)); intro Dy hg w37 hbox hb; have D0 := Cmp.A (hbox); have E9 := Cmp.gw hg HB; have E4 := Cmp.gw hg HB; replace HB := Cmp.bs HB hb; clear hb hbox hg) | ((with_reducible refine gate_dst (N := 4) rfl ?_); (try (refine gate_guard (by rfl) ?_; dsimp only)); refine box_event ?hg (N := 4) ?hd (cs := #[.bool a1_0, .string a1_1, .int .i64 a1_2]) (t := 38) ?hr ?_; (case hd => rfl); (case hg => rfl); (case hr => first | (go_simp; done) | (go_simp; rfl)); intro Dz hg w38 hbox hb; have D2 := Cmp.A (hbox); have Ea := Cmp.gw hg HB; have E5 := Cmp.gw hg HB; have D8 := Cmp.nl hg D0; have Dc := Cmp.ng hg D0; replace D0 := Cmp.be D0 hb; replace HB := Cmp.bs HB hb; clear hb hbox hg) | ((with_reducible refine gate_dst (N := 5) rfl ?_); (try (refine gate_guard (by rfl) ?_; dsimp only)); refine box_event ?hg (N := 5) ?hd (cs := #[.bool a2_0, .string a2_1, .int .i64 a2_2]) (t := 38) ?hr ?_; (case hd => rfl); (case hg => rfl); (case hr => first | (go_simp; done) | (go_simp; rfl)); intro E0 hg w39 hbox hb; have D4 := Cmp.A (hbox); have Eb := Cmp.gw hg HB; have E6 := Cmp.gw hg HB; have D9 := Cmp.nl hg D0; have Dg := Cmp.ng hg D0; have Dd := Cmp.nl hg D2; have Dh := Cmp.ng hg D2; replace D0 := Cmp.be D0 hb; replace D2 := Cmp.be D2 hb; replace HB := Cmp.bs HB hb; clear hb hbox hg) | ((with_reducible refine gate_dst (N := 6) rfl ?_); (try (refine gate_guard (by rfl) ?_; dsimp only)); refine box_event ?hg (N := 6) ?hd (cs := #[.int .i64 0, .int .i64 0, .int .i64 0, .int .i64 0, .slice none 0 0, .int .i64 0]) (t := 34) ?hr ?_; (case hd => rfl); (case hg => rfl); (case hr => first | (go_simp; done) | (go_simp; rfl)); intro D6 hg w40 hbox hb; have D3 := Cmp.A (hbox); have Ec := Cmp.gw hg HB; have E7 := Cmp.gw hg HB; have Da := Cmp.nl hg D0; have Dk := Cmp.ng hg D0; have De := Cmp.nl hg D2; have Dl := Cmp.ng hg D2; have Di := Cmp.nl hg D4; have Dm := Cmp.ng hg D4; replace D0 := Cmp.be D0 hb; replace D2 := Cmp.be D2 hb; replace D4 := Cmp.be D4 hb; replace HB := Cmp.bs HB hb; clear hb hbox hg; have Qj := D8.out; have Rg := Dc.out; have Qk := D9.out; have Rh := Dg.out; have Ql := Da.out; have Ri := Dk.out; obtain ⟨Jb, Jc, Jd, Je, Jf, Jg⟩ := Cmp.q6 D0; obtain ⟨Mi, Mj, Mk, Ml, Mm, Mn⟩ := Cmp.f6 D0) | ((with_reducible refine gate_callee (f := 21) rfl ?_); refine goesL_ (some 10) rfl rfl Tryd.func21 (by kernel_rfl) rfl #[.agg #[.int .i64 a0_0, .int .i64 a0_1, .int .i64 a0_2, .int .i64 a0_3, .slice A0_4 l0_4.length c0_4, .int .i64 a0_5]] rfl Cmp.q ?_; (with_reducible refine (impl_copyBrowser.calls a0_0 a0_1 a0_2 a0_3 _ _ l0_4 a0_5 Dt Du Dv Dw Ds Dx _ ?side1 ?side2 A4.out).mono ?_); (case side1 => exact Cmp.rc (Kd.C_below E2.out HB.out)); (case side2 => exact HC0_4.out); rintro e w45 ⟨v217, rfl, Ee, hb⟩; refine ⟨_, rfl, ?_⟩; have D5 := Cmp.A (Kd.R_lower Ee (below_size (Cmp.g HB.out))); replace D0 := Cmp.be D0 hb; replace D2 := Cmp.be D2 hb; replace D4 := Cmp.be D4 hb; replace D3 := Cmp.be D3 hb; replace HB := Cmp.bs HB hb; (try clear hb); (try clear hb2); (try clear hk); (try clear hi); (try clear Ee)) | ((with_reducible refine gate_dst (N := 8) rfl ?_); (try (refine gate_guard (by rfl) ?_; dsimp only)); refine box_event ?hg (N := 8) ?hd (cs := #[.int .i64 0, .int .i64 0, .int .i64 0, .int .i64 0, .slice none 0 0, .int .i64 0]) (t := 34) ?hr ?_; (case hd => rfl); (case hg => rfl); (case hr => first | (go_simp; done) | (go_simp; rfl)); intro D7 hg w46 hbox hb; have D1 := Cmp.A (hbox); have Ed := Cmp.gw hg HB; have E8 := Cmp.gw hg HB; have Db := Cmp.nl hg D0; have Do := Cmp.ng hg D0; have Df := Cmp.nl hg D2; have Dp := Cmp.ng hg D2; have Dj := Cmp.nl hg D4; have Dq := Cmp.ng hg D4; have Dn := Cmp.nl hg D3; have Dr := Cmp.ng hg D3; replace D5 := Cmp.A (Kd.R_below (Cmp.rr D5.out) hb); replace D0 := Cmp.be D0 hb; replace D2 := Cmp.be D2 hb; replace D4 := Cmp.be D4 hb; replace D3 := Cmp.be D3 hb; replace HB := Cmp.bs HB hb; clear hb hbox hg; have Qm := Do.out; have Rj := Db.out; have Qn := Dp.out; have Rk := Df.out; have Qo := Dq.out; have Rl := Dj.out; have Qp := Dr.out; have Rm := Dn.out; obtain ⟨Jh, Ji, Jj, Jk, Jl, Jm⟩ := Cmp.q6 D1; obtain ⟨Mo, Mp, Mq, Mr, Ms, Mt⟩ := Cmp.f6 D1; obtain ⟨El, En, Pp⟩ := Kd.R_slice D5.out; subst Pp; have Qq := Dd.out; have Rn := Dh.out; have Qr := De.out; have Ro := Dl.out; obtain ⟨Jn, Jo, Jp⟩ := Cmp.q3 D2; obtain ⟨Mu, Mv, Mw⟩ := Cmp.f3 D2) | ((with_reducible refine gate_callee (f := 22) rfl ?_); refine goesL_ (some 12) rfl rfl Tryd.func22 (by kernel_rfl) rfl #[.agg #[.bool a1_0, .string a1_1, .int .i64 a1_2]] rfl Cmp.q ?_; (with_reducible refine (impl_IsOrigin.calls k a1_0 a1_1 a1_2 true _ (HasM.at (Cmp.g HB.out) HM.out) A5.out).mono ?_); rintro e w56 ⟨rfl, hb⟩; refine ⟨_, rfl, ?_⟩; replace D5 := Cmp.A (Kd.R_below (Cmp.rm (Kd.R_far (p := ⟨D7, 5, none⟩) (Kd.R_far (p := ⟨D7, 4, none⟩) (Kd.R_far (p := ⟨D7, 3, none⟩) (Kd.R_far (p := ⟨D7, 2, none⟩) (Kd.R_far (p := ⟨D7, 1, none⟩) (Kd.R_far (p := ⟨D7, 0, none⟩) (Kd.R_types D5.out D1.out (by decide)) (fun _ hk => hk.2) (.int .i64 Dt)) (fun _ hk => hk.2) (.int .i64 Du)) (fun _ hk => hk.2) (.int .i64 Dv)) (fun _ hk => hk.2) (.int .i64 Dw)) (fun _ hk => hk.2) (.slice El Ds.length En)) (fun _ hk => hk.2) (.int .i64 Dx)) (fun _ h_ => h_.1)) hb); replace D0 := Cmp.A (blk_below (g := Dy) (o := .cells #[.int .i64 a0_0, .int .i64 a0_1, .int .i64 a0_2, .int .i64 a0_3, .slice A0_4 l0_4.length c0_4, .int .i64 a0_5] 34 (0, 0)) (Cmp.bw D0.out) hb); replace D2 := Cmp.A (blk_below (g := Dz) (o := .cells #[.bool a1_0, .string a1_1, .int .i64 a1_2] 38 (0, 0)) (Cmp.bw D2.out) hb); replace D4 := Cmp.A (blk_below (g := E0) (o := .cells #[.bool a2_0, .string a2_1, .int .i64 a2_2] 38 (0, 0)) (Cmp.bw D4.out) hb); replace D3 := Cmp.A (blk_below (g := D6) (o := .cells #[.int .i64 0, .int .i64 0, .int .i64 0, .int .i64 0, .slice none 0 0, .int .i64 0] 34 (0, 0)) (Cmp.bw D3.out) hb); replace D1 := Cmp.A (blk_below (g := D7) (o := .cells #[.int .i64 Dt, .int .i64 Du, .int .i64 Dv, .int .i64 Dw, .slice El Ds.length En, .int .i64 Dx] 34 (0, 0)) (Cmp.bw D1.out) hb); replace HB := Cmp.bs HB hb; (try clear hb); (try clear hb2); (try clear hk); (try clear hi); have Qs := Di.out; have Rp := Dm.out; obtain ⟨Jq, Jr, Js⟩ := Cmp.q3 D4; obtain ⟨Mx, My, Mz⟩ := Cmp.f3 D4) | (go_at_call 22; (with_reducible refine (impl_IsOrigin.calls k a2_0 a2_1 a2_2 true _ (HasM.at (Cmp.g HB.out) HM.out) A7.out).mono ?_); rintro e w59 ⟨rfl, hb⟩; replace D5 := Cmp.A (Kd.R_below (Cmp.rr D5.out) hb); replace D0 := Cmp.be D0 hb; replace D2 := Cmp.be D2 hb; replace D4 := Cmp.be D4 hb; replace D3 := Cmp.be D3 hb; replace D1 := Cmp.be D1 hb; replace HB := Cmp.bs HB hb; (try clear hb); (try clear hb2); (try clear hk); (try clear hi); obtain ⟨Jt, Ju, Jv, Jw, Jx, Jy⟩ := Cmp.q6 D0; obtain ⟨N0, N1, N2, N3, N4, N5⟩ := Cmp.f6 D0; obtain ⟨Jz, K0, K1, K2, K3, K4⟩ := Cmp.q6 D1; obtain ⟨N6, N7, N8, N9, Na, Nb⟩ := Cmp.f6 D1; obtain ⟨K5, K6, K7⟩ := Cmp.q3 D2; obtain ⟨Nc, Nd, Ne⟩ := Cmp.f3 D2; obtain ⟨K8, K9, Ka⟩ := Cmp.q3 D4; obtain ⟨Nf, Ng, Nh⟩ := Cmp.f3 D4) | ((with_reducible refine gate_builtin (b := .append) (xs := #[.tmp 27, .tmp 31]) rfl ?_); (try (refine gate_guard (by rfl) ?_; dsimp only)); at_builtin; refine Kd.R_append k49 (w0 := w) w.heap.size rfl (.tmp 27) (.tmp 31) 32 49 (.agg #[(.bool false), (.string ⟨#[]⟩), (.int .i64 0), (.bool false), (.string ⟨#[]⟩), (.int .i64 0)]) 64 rfl Tryd.underlying32 info49 rfl (by decide) (by omega) (.slice El Ds.length En) Ds (⟨(⟨a1_0, a1_1, a1_2⟩ : S38), (⟨a2_0, a2_1, a2_2⟩ : S38)⟩ : S49) [.bool a1_0, .string a1_1, .int .i64 a1_2, .bool a2_0, .string a2_1, .int .i64 a2_2] (fun _ => True) (fun _ => False) rfl rfl ?aP (fun _ hk => hk.elim) ?aF ?aO ?aB ?aS ?aL ?_; (case aP => exact k49_mkM _ _ _ (⟨(⟨a1_0, a1_1, a1_2⟩ : S38), (⟨a2_0, a2_1, a2_2⟩ : S38)⟩ : S49)); (case aB => exact (Cmp.g HB.out)); (case aF => exact (fun _ _ => trivial)); (case aO => exact (Cmp.rr D5.out)); (case aS => exact (below_size (Cmp.g HB.out))); (case aL => have := LMc36.out; omega); intro v224 w64 ho hb hg hat; rw [← Er.out] at ho; have Ek := Cmp.A (ho); replace D0 := Cmp.bg D0 hg (Kd.R_ne D5.out D0.out (by decide)); replace D2 := Cmp.bg D2 hg (Kd.R_ne D5.out D2.out (by decide)); replace D4 := Cmp.bg D4 hg (Kd.R_ne D5.out D4.out (by decide)); replace D3 := Cmp.bg D3 hg (Kd.R_ne D5.out D3.out (by decide)); replace D1 := Cmp.bg D1 hg (Kd.R_ne D5.out D1.out (by decide)); replace HB := Cmp.A (hb); clear D5; clear ho hb hg hat; obtain ⟨Em, Eo, Pq⟩ := Kd.R_slice Ek.out; subst Pq; obtain ⟨Kb, Kc, Ke, Kf, Kg, Kh⟩ := Cmp.q6 D1; obtain ⟨Ni, Nj, Nk, Nl, Nm, Nn⟩ := Cmp.f6 D1; obtain ⟨Ki, Kj, Kk, Kl, Km, Kn⟩ := Cmp.q6 D3; obtain ⟨No, Np, Nq, Nr, Ns, Nt⟩ := Cmp.f6 D3))
     refine bodyPost_ret (results_ct rfl _ _ D6 34 #[.int .i64 Dt, .int .i64 Du, .int .i64 Dv, .int .i64 Dw, .slice Em Ej.length Eo, .int .i64 Dx] (0, 0) _ rfl (Cmp.bw D3.out) Tryd.underlying34 rfl (by kernel_rfl)) rfl ?_
     exact ⟨_, by first | rfl | (simp [errW_none, errW_some] <;> rfl) | (simp [*, errW_none, errW_some] <;> rfl), by (with_reducible repeat (first | apply Kd.R_alloc | apply Kd.R_drewN | apply Kd.R_drew)); exact Kd.R_mono (Kd.R_far (p := ⟨D6, 5, none⟩) (Kd.R_far (p := ⟨D6, 4, none⟩) (Kd.R_far (p := ⟨D6, 3, none⟩) (Kd.R_far (p := ⟨D6, 2, none⟩) (Kd.R_far (p := ⟨D6, 1, none⟩) (Kd.R_far (p := ⟨D6, 0, none⟩) (Kd.R_far (p := ⟨D7, 4, none⟩) (Kd.R_types (Kd.R_types Ek.out D1.out (by decide)) D3.out (by decide)) (fun _ hk => hk.1.2) (.slice Em Ej.length Eo)) (fun _ hk => hk.2) (.int .i64 Dt)) (fun _ hk => hk.2) (.int .i64 Du)) (fun _ hk => hk.2) (.int .i64 Dv)) (fun _ hk => hk.2) (.int .i64 Dw)) (fun _ hk => hk.2) (.slice Em Ej.length Eo)) (fun _ hk => hk.2) (.int .i64 Dx)) (fun _ hk => trivial), Cmp.g HB.out⟩
    ·rw [if_neg c36] at H; exact absurd H (by simp)
  ·replace c8 := Bool.eq_false_iff.mpr c8
   subst c8
   have H1 : (some (Dt, Du, Dv, Dw, Ds, Dx, false)) = some (r1, r2, r3, r4, r5, r6, r7) := by rw [if_neg (show ¬ (false = true) by decide)] at H; exact H
   clear H; have H := H1; clear H1
   simp only [Option.some.injEq, Prod.mk.injEq] at H
   obtain ⟨rfl, rfl, rfl, rfl, rfl, rfl, rfl⟩ := H
   go_enter Tryd.func10, Tryd.ntmps10
   go_wp2_with (first | ((with_reducible refine gate_dst (N := 3) rfl ?_); (try (refine gate_guard (by rfl) ?_; dsimp only)); refine box_event ?hg (N := 3) ?hd (cs := #[.int .i64 a0_0, .int .i64 a0_1, .int .i64 a0_2, .int .i64 a0_3, .slice A0_4 l0_4.length c0_4, .int .i64 a0_5]) (t := 34) ?hr ?_; (case hd => rfl); (case hg => rfl); (case hr => first | (go_simp; done) | (go_simp; rfl)); intro Dy hg w68 hbox hb; have D0 := Cmp.A (hbox); have E9 := Cmp.gw hg HB; have E4 := Cmp.gw hg HB; replace HB := Cmp.bs HB hb; clear hb hbox hg) | ((with_reducible refine gate_dst (N := 4) rfl ?_); (try (refine gate_guard (by rfl) ?_; dsimp only)); refine box_event ?hg (N := 4) ?hd (cs := #[.bool a1_0, .string a1_1, .int .i64 a1_2]) (t := 38) ?hr ?_; (case hd => rfl); (case hg => rfl); (case hr => first | (go_simp; done) | (go_simp; rfl)); intro Dz hg w69 hbox hb; have D2 := Cmp.A (hbox); have Ea := Cmp.gw hg HB; have E5 := Cmp.gw hg HB; have D8 := Cmp.nl hg D0; have Dc := Cmp.ng hg D0; replace D0 := Cmp.be D0 hb; replace HB := Cmp.bs HB hb; clear hb hbox hg) | ((with_reducible refine gate_dst (N := 5) rfl ?_); (try (refine gate_guard (by rfl) ?_; dsimp only)); refine box_event ?hg (N := 5) ?hd (cs := #[.bool a2_0, .string a2_1, .int .i64 a2_2]) (t := 38) ?hr ?_; (case hd => rfl); (case hg => rfl); (case hr => first | (go_simp; done) | (go_simp; rfl)); intro E0 hg w70 hbox hb; have D4 := Cmp.A (hbox); have Eb := Cmp.gw hg HB; have E6 := Cmp.gw hg HB; have D9 := Cmp.nl hg D0; have Dg := Cmp.ng hg D0; have Dd := Cmp.nl hg D2; have Dh := Cmp.ng hg D2; replace D0 := Cmp.be D0 hb; replace D2 := Cmp.be D2 hb; replace HB := Cmp.bs HB hb; clear hb hbox hg) | ((with_reducible refine gate_dst (N := 6) rfl ?_); (try (refine gate_guard (by rfl) ?_; dsimp only)); refine box_event ?hg (N := 6) ?hd (cs := #[.int .i64 0, .int .i64 0, .int .i64 0, .int .i64 0, .slice none 0 0, .int .i64 0]) (t := 34) ?hr ?_; (case hd => rfl); (case hg => rfl); (case hr => first | (go_simp; done) | (go_simp; rfl)); intro D6 hg w71 hbox hb; have D3 := Cmp.A (hbox); have Ec := Cmp.gw hg HB; have E7 := Cmp.gw hg HB; have Da := Cmp.nl hg D0; have Dk := Cmp.ng hg D0; have De := Cmp.nl hg D2; have Dl := Cmp.ng hg D2; have Di := Cmp.nl hg D4; have Dm := Cmp.ng hg D4; replace D0 := Cmp.be D0 hb; replace D2 := Cmp.be D2 hb; replace D4 := Cmp.be D4 hb; replace HB := Cmp.bs HB hb; clear hb hbox hg; have Qt := D8.out; have Rq := Dc.out; have Qu := D9.out; have Rr := Dg.out; have Qv := Da.out; have Rs := Dk.out; obtain ⟨Ko, Kp, Kq, Kr, Ks, Kt⟩ := Cmp.q6 D0; obtain ⟨Nu, Nv, Nw, Nx, Ny, Nz⟩ := Cmp.f6 D0) | ((with_reducible refine gate_callee (f := 21) rfl ?_); refine goesL_ (some 10) rfl rfl Tryd.func21 (by kernel_rfl) rfl #[.agg #[.int .i64 a0_0, .int .i64 a0_1, .int .i64 a0_2, .int .i64 a0_3, .slice A0_4 l0_4.length c0_4, .int .i64 a0_5]] rfl Cmp.q ?_; (with_reducible refine (impl_copyBrowser.calls a0_0 a0_1 a0_2 a0_3 _ _ l0_4 a0_5 Dt Du Dv Dw Ds Dx _ ?side1 ?side2 A4.out).mono ?_); (case side1 => exact Cmp.rc (Kd.C_below E2.out HB.out)); (case side2 => exact HC0_4.out); rintro e w76 ⟨v217, rfl, Ee, hb⟩; refine ⟨_, rfl, ?_⟩; have D5 := Cmp.A (Kd.R_lower Ee (below_size (Cmp.g HB.out))); replace D0 := Cmp.be D0 hb; replace D2 := Cmp.be D2 hb; replace D4 := Cmp.be D4 hb; replace D3 := Cmp.be D3 hb; replace HB := Cmp.bs HB hb; (try clear hb); (try clear hb2); (try clear hk); (try clear hi); (try clear Ee)) | ((with_reducible refine gate_dst (N := 8) rfl ?_); (try (refine gate_guard (by rfl) ?_; dsimp only)); refine box_event ?hg (N := 8) ?hd (cs := #[.int .i64 0, .int .i64 0, .int .i64 0, .int .i64 0, .slice none 0 0, .int .i64 0]) (t := 34) ?hr ?_; (case hd => rfl); (case hg => rfl); (case hr => first | (go_simp; done) | (go_simp; rfl)); intro D7 hg w77 hbox hb; have D1 := Cmp.A (hbox); have Ed := Cmp.gw hg HB; have E8 := Cmp.gw hg HB; have Db := Cmp.nl hg D0; have Do := Cmp.ng hg D0; have Df := Cmp.nl hg D2; have Dp := Cmp.ng hg D2; have Dj := Cmp.nl hg D4; have Dq := Cmp.ng hg D4; have Dn := Cmp.nl hg D3; have Dr := Cmp.ng hg D3; replace D5 := Cmp.A (Kd.R_below (Cmp.rr D5.out) hb); replace D0 := Cmp.be D0 hb; replace D2 := Cmp.be D2 hb; replace D4 := Cmp.be D4 hb; replace D3 := Cmp.be D3 hb; replace HB := Cmp.bs HB hb; clear hb hbox hg; have Qw := Do.out; have Rt := Db.out; have Qx := Dp.out; have Ru := Df.out; have Qy := Dq.out; have Rv := Dj.out; have Qz := Dr.out; have Rw := Dn.out; obtain ⟨Ku, Kv, Kw, Kx, Ky, Kz⟩ := Cmp.q6 D1; obtain ⟨P0, P1, P2, P3, P4, P5⟩ := Cmp.f6 D1; obtain ⟨Eg, Ei, Pr⟩ := Kd.R_slice D5.out; subst Pr; have R0 := Dd.out; have Rx := Dh.out; have R1 := De.out; have Ry := Dl.out; obtain ⟨L0, L1, L2⟩ := Cmp.q3 D2; obtain ⟨P6, P7, P8⟩ := Cmp.f3 D2) | ((with_reducible refine gate_callee (f := 22) rfl ?_); refine goesL_ (some 12) rfl rfl Tryd.func22 (by kernel_rfl) rfl #[.agg #[.bool a1_0, .string a1_1, .int .i64 a1_2]] rfl Cmp.q ?_; (with_reducible refine (impl_IsOrigin.calls k a1_0 a1_1 a1_2 true _ (HasM.at (Cmp.g HB.out) HM.out) A5.out).mono ?_); rintro e w87 ⟨rfl, hb⟩; refine ⟨_, rfl, ?_⟩; replace D5 := Cmp.A (Kd.R_below (Cmp.rm (Kd.R_far (p := ⟨D7, 5, none⟩) (Kd.R_far (p := ⟨D7, 4, none⟩) (Kd.R_far (p := ⟨D7, 3, none⟩) (Kd.R_far (p := ⟨D7, 2, none⟩) (Kd.R_far (p := ⟨D7, 1, none⟩) (Kd.R_far (p := ⟨D7, 0, none⟩) (Kd.R_types D5.out D1.out (by decide)) (fun _ hk => hk.2) (.int .i64 Dt)) (fun _ hk => hk.2) (.int .i64 Du)) (fun _ hk => hk.2) (.int .i64 Dv)) (fun _ hk => hk.2) (.int .i64 Dw)) (fun _ hk => hk.2) (.slice Eg Ds.length Ei)) (fun _ hk => hk.2) (.int .i64 Dx)) (fun _ h_ => h_.1)) hb); replace D0 := Cmp.A (blk_below (g := Dy) (o := .cells #[.int .i64 a0_0, .int .i64 a0_1, .int .i64 a0_2, .int .i64 a0_3, .slice A0_4 l0_4.length c0_4, .int .i64 a0_5] 34 (0, 0)) (Cmp.bw D0.out) hb); replace D2 := Cmp.A (blk_below (g := Dz) (o := .cells #[.bool a1_0, .string a1_1, .int .i64 a1_2] 38 (0, 0)) (Cmp.bw D2.out) hb); replace D4 := Cmp.A (blk_below (g := E0) (o := .cells #[.bool a2_0, .string a2_1, .int .i64 a2_2] 38 (0, 0)) (Cmp.bw D4.out) hb); replace D3 := Cmp.A (blk_below (g := D6) (o := .cells #[.int .i64 0, .int .i64 0, .int .i64 0, .int .i64 0, .slice none 0 0, .int .i64 0] 34 (0, 0)) (Cmp.bw D3.out) hb); replace D1 := Cmp.A (blk_below (g := D7) (o := .cells #[.int .i64 Dt, .int .i64 Du, .int .i64 Dv, .int .i64 Dw, .slice Eg Ds.length Ei, .int .i64 Dx] 34 (0, 0)) (Cmp.bw D1.out) hb); replace HB := Cmp.bs HB hb; (try clear hb); (try clear hb2); (try clear hk); (try clear hi); have R2 := Di.out; have Rz := Dm.out; obtain ⟨L3, L4, L5⟩ := Cmp.q3 D4; obtain ⟨P9, Pa, Pb⟩ := Cmp.f3 D4) | (go_at_call 22; (with_reducible refine (impl_IsOrigin.calls k a2_0 a2_1 a2_2 false _ (HasM.at (Cmp.g HB.out) HM.out) A7.out).mono ?_); rintro e w90 ⟨rfl, hb⟩; replace D5 := Cmp.A (Kd.R_below (Cmp.rr D5.out) hb); replace D0 := Cmp.be D0 hb; replace D2 := Cmp.be D2 hb; replace D4 := Cmp.be D4 hb; replace D3 := Cmp.be D3 hb; replace D1 := Cmp.be D1 hb; replace HB := Cmp.bs HB hb; (try clear hb); (try clear hb2); (try clear hk); (try clear hi); obtain ⟨L6, L7, L8, L9, La, Lb⟩ := Cmp.q6 D1; obtain ⟨Pc, Pd, Pe, Pf, Pg, Ph⟩ := Cmp.f6 D1; obtain ⟨Lc, Ld, Le, Lf, Lg, Lh⟩ := Cmp.q6 D3; obtain ⟨Pi, Pj, Pk, Pl, Pm, Pn⟩ := Cmp.f6 D3))
   refine bodyPost_ret (results_ct rfl _ _ D6 34 #[.int .i64 Dt, .int .i64 Du, .int .i64 Dv, .int .i64 Dw, .slice Eg Ds.length Ei, .int .i64 Dx] (0, 0) _ rfl (Cmp.bw D3.out) Tryd.underlying34 rfl (by kernel_rfl)) rfl ?_
   exact ⟨_, by first | rfl | (simp [errW_none, errW_some] <;> rfl) | (simp [*, errW_none, errW_some] <;> rfl), by (with_reducible repeat (first | apply Kd.R_alloc | apply Kd.R_drewN | apply Kd.R_drew)); exact Kd.R_mono (Kd.R_far (p := ⟨D6, 5, none⟩) (Kd.R_far (p := ⟨D6, 4, none⟩) (Kd.R_far (p := ⟨D6, 3, none⟩) (Kd.R_far (p := ⟨D6, 2, none⟩) (Kd.R_far (p := ⟨D6, 1, none⟩) (Kd.R_far (p := ⟨D6, 0, none⟩) (Kd.R_types D5.out D3.out (by decide)) (fun _ hk => hk.2) (.int .i64 Dt)) (fun _ hk => hk.2) (.int .i64 Du)) (fun _ hk => hk.2) (.int .i64 Dv)) (fun _ hk => hk.2) (.int .i64 Dw)) (fun _ hk => hk.2) (.slice Eg Ds.length Ei)) (fun _ hk => hk.2) (.int .i64 Dx)) (fun _ hk => trivial), Cmp.g HB.out⟩
 ·replace c6 := Bool.eq_false_iff.mpr c6
  subst c6
  have H1 : (some (Dt, Du, Dv, Dw, Ds, Dx, false)) = some (r1, r2, r3, r4, r5, r6, r7) := by rw [if_neg (show ¬ (false = true) by decide)] at H; exact H
  clear H; have H := H1; clear H1
  simp only [Option.some.injEq, Prod.mk.injEq] at H
  obtain ⟨rfl, rfl, rfl, rfl, rfl, rfl, rfl⟩ := H
  go_enter Tryd.func10, Tryd.ntmps10
  go_wp2_with (first | ((with_reducible refine gate_dst (N := 3) rfl ?_); (try (refine gate_guard (by rfl) ?_; dsimp only)); refine box_event ?hg (N := 3) ?hd (cs := #[.int .i64 a0_0, .int .i64 a0_1, .int .i64 a0_2, .int .i64 a0_3, .slice A0_4 l0_4.length c0_4, .int .i64 a0_5]) (t := 34) ?hr ?_; (case hd => rfl); (case hg => rfl); (case hr => first | (go_simp; done) | (go_simp; rfl)); intro Dy hg w93 hbox hb; have D0 := Cmp.A (hbox); have E9 := Cmp.gw hg HB; have E4 := Cmp.gw hg HB; replace HB := Cmp.bs HB hb; clear hb hbox hg) | ((with_reducible refine gate_dst (N := 4) rfl ?_); (try (refine gate_guard (by rfl) ?_; dsimp only)); refine box_event ?hg (N := 4) ?hd (cs := #[.bool a1_0, .string a1_1, .int .i64 a1_2]) (t := 38) ?hr ?_; (case hd => rfl); (case hg => rfl); (case hr => first | (go_simp; done) | (go_simp; rfl)); intro Dz hg w94 hbox hb; have D2 := Cmp.A (hbox); have Ea := Cmp.gw hg HB; have E5 := Cmp.gw hg HB; have D8 := Cmp.nl hg D0; have Dc := Cmp.ng hg D0; replace D0 := Cmp.be D0 hb; replace HB := Cmp.bs HB hb; clear hb hbox hg) | ((with_reducible refine gate_dst (N := 5) rfl ?_); (try (refine gate_guard (by rfl) ?_; dsimp only)); refine box_event ?hg (N := 5) ?hd (cs := #[.bool a2_0, .string a2_1, .int .i64 a2_2]) (t := 38) ?hr ?_; (case hd => rfl); (case hg => rfl); (case hr => first | (go_simp; done) | (go_simp; rfl)); intro E0 hg w95 hbox hb; have D4 := Cmp.A (hbox); have Eb := Cmp.gw hg HB; have E6 := Cmp.gw hg HB; have D9 := Cmp.nl hg D0; have Dg := Cmp.ng hg D0; have Dd := Cmp.nl hg D2; have Dh := Cmp.ng hg D2; replace D0 := Cmp.be D0 hb; replace D2 := Cmp.be D2 hb; replace HB := Cmp.bs HB hb; clear hb hbox hg) | ((with_reducible refine gate_dst (N := 6) rfl ?_); (try (refine gate_guard (by rfl) ?_; dsimp only)); refine box_event ?hg (N := 6) ?hd (cs := #[.int .i64 0, .int .i64 0, .int .i64 0, .int .i64 0, .slice none 0 0, .int .i64 0]) (t := 34) ?hr ?_; (case hd => rfl); (case hg => rfl); (case hr => first | (go_simp; done) | (go_simp; rfl)); intro D6 hg w96 hbox hb; have D3 := Cmp.A (hbox); have Ec := Cmp.gw hg HB; have E7 := Cmp.gw hg HB; have Da := Cmp.nl hg D0; have Dk := Cmp.ng hg D0; have De := Cmp.nl hg D2; have Dl := Cmp.ng hg D2; have Di := Cmp.nl hg D4; have Dm := Cmp.ng hg D4; replace D0 := Cmp.be D0 hb; replace D2 := Cmp.be D2 hb; replace D4 := Cmp.be D4 hb; replace HB := Cmp.bs HB hb; clear hb hbox hg; have R3 := D8.out; have S0 := Dc.out; have R4 := D9.out; have S1 := Dg.out; have R5 := Da.out; have S2 := Dk.out; obtain ⟨Et, Eu, Ev, Ew, Ex, Ey⟩ := Cmp.q6 D0; obtain ⟨Fk, Fl, Fm, Fn, Fo, Fp⟩ := Cmp.f6 D0) | ((with_reducible refine gate_callee (f := 21) rfl ?_); refine goesL_ (some 10) rfl rfl Tryd.func21 (by kernel_rfl) rfl #[.agg #[.int .i64 a0_0, .int .i64 a0_1, .int .i64 a0_2, .int .i64 a0_3, .slice A0_4 l0_4.length c0_4, .int .i64 a0_5]] rfl Cmp.q ?_; (with_reducible refine (impl_copyBrowser.calls a0_0 a0_1 a0_2 a0_3 _ _ l0_4 a0_5 Dt Du Dv Dw Ds Dx _ ?side1 ?side2 A4.out).mono ?_); (case side1 => exact Cmp.rc (Kd.C_below E2.out HB.out)); (case side2 => exact HC0_4.out); rintro e w101 ⟨v217, rfl, Ee, hb⟩; refine ⟨_, rfl, ?_⟩; have D5 := Cmp.A (Kd.R_lower Ee (below_size (Cmp.g HB.out))); replace D0 := Cmp.be D0 hb; replace D2 := Cmp.be D2 hb; replace D4 := Cmp.be D4 hb; replace D3 := Cmp.be D3 hb; replace HB := Cmp.bs HB hb; (try clear hb); (try clear hb2); (try clear hk); (try clear hi); (try clear Ee)) | ((with_reducible refine gate_dst (N := 8) rfl ?_); (try (refine gate_guard (by rfl) ?_; dsimp only)); refine box_event ?hg (N := 8) ?hd (cs := #[.int .i64 0, .int .i64 0, .int .i64 0, .int .i64 0, .slice none 0 0, .int .i64 0]) (t := 34) ?hr ?_; (case hd => rfl); (case hg => rfl); (case hr => first | (go_simp; done) | (go_simp; rfl)); intro D7 hg w102 hbox hb; have D1 := Cmp.A (hbox); have Ed := Cmp.gw hg HB; have E8 := Cmp.gw hg HB; have Db := Cmp.nl hg D0; have Do := Cmp.ng hg D0; have Df := Cmp.nl hg D2; have Dp := Cmp.ng hg D2; have Dj := Cmp.nl hg D4; have Dq := Cmp.ng hg D4; have Dn := Cmp.nl hg D3; have Dr := Cmp.ng hg D3; replace D5 := Cmp.A (Kd.R_below (Cmp.rr D5.out) hb); replace D0 := Cmp.be D0 hb; replace D2 := Cmp.be D2 hb; replace D4 := Cmp.be D4 hb; replace D3 := Cmp.be D3 hb; replace HB := Cmp.bs HB hb; clear hb hbox hg; have Ps := Do.out; have Pz := Db.out; have Pt := Dp.out; have Q0 := Df.out; have Pu := Dq.out; have Q1 := Dj.out; have Pv := Dr.out; have Q2 := Dn.out; obtain ⟨Ez, F0, F1, F2, F3, F4⟩ := Cmp.q6 D1; obtain ⟨Fq, Fr, Fs, Ft, Fu, Fv⟩ := Cmp.f6 D1; obtain ⟨E1, E3, Es⟩ := Kd.R_slice D5.out; subst Es; have Pw := Dd.out; have Q3 := Dh.out; have Px := De.out; have Q4 := Dl.out; obtain ⟨F5, F6, F7⟩ := Cmp.q3 D2; obtain ⟨Fw, Fx, Fy⟩ := Cmp.f3 D2) | ((with_reducible refine gate_callee (f := 22) rfl ?_); refine goesL_ (some 12) rfl rfl Tryd.func22 (by kernel_rfl) rfl #[.agg #[.bool a1_0, .string a1_1, .int .i64 a1_2]] rfl Cmp.q ?_; (with_reducible refine (impl_IsOrigin.calls k a1_0 a1_1 a1_2 false _ (HasM.at (Cmp.g HB.out) HM.out) A5.out).mono ?_); rintro e w112 ⟨rfl, hb⟩; refine ⟨_, rfl, ?_⟩; replace D5 := Cmp.A (Kd.R_below (Cmp.rm (Kd.R_far (p := ⟨D7, 5, none⟩) (Kd.R_far (p := ⟨D7, 4, none⟩) (Kd.R_far (p := ⟨D7, 3, none⟩) (Kd.R_far (p := ⟨D7, 2, none⟩) (Kd.R_far (p := ⟨D7, 1, none⟩) (Kd.R_far (p := ⟨D7, 0, none⟩) (Kd.R_types D5.out D1.out (by decide)) (fun _ hk => hk.2) (.int .i64 Dt)) (fun _ hk => hk.2) (.int .i64 Du)) (fun _ hk => hk.2) (.int .i64 Dv)) (fun _ hk => hk.2) (.int .i64 Dw)) (fun _ hk => hk.2) (.slice E1 Ds.length E3)) (fun _ hk => hk.2) (.int .i64 Dx)) (fun _ h_ => h_.1)) hb); replace D0 := Cmp.A (blk_below (g := Dy) (o := .cells #[.int .i64 a0_0, .int .i64 a0_1, .int .i64 a0_2, .int .i64 a0_3, .slice A0_4 l0_4.length c0_4, .int .i64 a0_5] 34 (0, 0)) (Cmp.bw D0.out) hb); replace D2 := Cmp.A (blk_below (g := Dz) (o := .cells #[.bool a1_0, .string a1_1, .int .i64 a1_2] 38 (0, 0)) (Cmp.bw D2.out) hb); replace D4 := Cmp.A (blk_below (g := E0) (o := .cells #[.bool a2_0, .string a2_1, .int .i64 a2_2] 38 (0, 0)) (Cmp.bw D4.out) hb); replace D3 := Cmp.A (blk_below (g := D6) (o := .cells #[.int .i64 0, .int .i64 0, .int .i64 0, .int .i64 0, .slice none 0 0, .int .i64 0] 34 (0, 0)) (Cmp.bw D3.out) hb); replace D1 := Cmp.A (blk_below (g := D7) (o := .cells #[.int .i64 Dt, .int .i64 Du, .int .i64 Dv, .int .i64 Dw, .slice E1 Ds.length E3, .int .i64 Dx] 34 (0, 0)) (Cmp.bw D1.out) hb); replace HB := Cmp.bs HB hb; (try clear hb); (try clear hb2); (try clear hk); (try clear hi); obtain ⟨F8, F9, Fa, Fb, Fc, Fd⟩ := Cmp.q6 D1; obtain ⟨Fz, G0, G1, G2, G3, G4⟩ := Cmp.f6 D1; have Py := Dm.out; have Q5 := Di.out; obtain ⟨Fe, Ff, Fg, Fh, Fi, Fj⟩ := Cmp.q6 D3; obtain ⟨G5, G6, G7, G8, G9, Ga⟩ := Cmp.f6 D3))
  refine bodyPost_ret (results_ct rfl _ _ D6 34 #[.int .i64 Dt, .int .i64 Du, .int .i64 Dv, .int .i64 Dw, .slice E1 Ds.length E3, .int .i64 Dx] (0, 0) _ rfl (Cmp.bw D3.out) Tryd.underlying34 rfl (by kernel_rfl)) rfl ?_
  exact ⟨_, by first | rfl | (simp [errW_none, errW_some] <;> rfl) | (simp [*, errW_none, errW_some] <;> rfl), by (with_reducible repeat (first | apply Kd.R_alloc | apply Kd.R_drewN | apply Kd.R_drew)); exact Kd.R_mono (Kd.R_far (p := ⟨D6, 5, none⟩) (Kd.R_far (p := ⟨D6, 4, none⟩) (Kd.R_far (p := ⟨D6, 3, none⟩) (Kd.R_far (p := ⟨D6, 2, none⟩) (Kd.R_far (p := ⟨D6, 1, none⟩) (Kd.R_far (p := ⟨D6, 0, none⟩) (Kd.R_types D5.out D3.out (by decide)) (fun _ hk => hk.2) (.int .i64 Dt)) (fun _ hk => hk.2) (.int .i64 Du)) (fun _ hk => hk.2) (.int .i64 Dv)) (fun _ hk => hk.2) (.int .i64 Dw)) (fun _ hk => hk.2) (.slice E1 Ds.length E3)) (fun _ hk => hk.2) (.int .i64 Dx)) (fun _ hk => trivial), Cmp.g HB.out⟩
/-! ### laws_eqKeyStore: function 23 -/
def laws_eqKeyStore.f (a0_0 : Int) (a0_1 : Int) (a0_2 : Int) (a0_3 : Int) (a1_0 : Int) (a1_1 : Int) (a1_2 : Int) (a1_3 : Int) : Option (Bool) := if a0_0 = a1_0 then (if a0_1 = a1_1 then (if a0_2 = a1_2 then (if a0_3 = a1_3 then (some true) else (some false)) else (some false)) else (some false)) else (some false)
set_option maxHeartbeats 8000000 in
set_option maxRecDepth 100000 in
theorem laws_eqKeyStore.calls (a0_0 : Int) (a0_1 : Int) (a0_2 : Int) (a0_3 : Int) (a1_0 : Int) (a1_1 : Int) (a1_2 : Int) (a1_3 : Int) (r : Bool) (w : World) (h : laws_eqKeyStore.f a0_0 a0_1 a0_2 a0_3 a1_0 a1_1 a1_2 a1_3 = some r) :
    Calls Tryd.prog 23 #[.agg #[.int .i64 a0_0, .int .i64 a0_1, .int .i64 a0_2, .int .i64 a0_3], .agg #[.int .i64 a1_0, .int .i64 a1_1, .int .i64 a1_2, .int .i64 a1_3]] w fun e w' => e = .returned (.bool r) ∧ Below w.heap.size w w' := by
 have hu31 := Tryd.underlying31
 have HB := Cmp.A (Below.refl w.heap.size w)
 have H : (if a0_0 = a1_0 then (if a0_1 = a1_1 then (if a0_2 = a1_2 then (if a0_3 = a1_3 then (some true) else (some false)) else (some false)) else (some false)) else (some false)) = some r := h
 clear h
 by_cases c3 : a0_0 = a1_0
 ·rw [if_pos c3] at H; have c3b0 : (a0_0 == a1_0) = true := beq_iff_eq.mpr c3; have c3b1 : (a0_0 != a1_0) = false := bne_eq_false_iff_eq.mpr c3; clear c3
  by_cases c4 : a0_1 = a1_1
  ·rw [if_pos c4] at H; have c4b0 : (a0_1 == a1_1) = true := beq_iff_eq.mpr c4; have c4b1 : (a0_1 != a1_1) = false := bne_eq_false_iff_eq.mpr c4; clear c4
   by_cases c5 : a0_2 = a1_2
   ·rw [if_pos c5] at H; have c5b0 : (a0_2 == a1_2) = true := beq_iff_eq.mpr c5; have c5b1 : (a0_2 != a1_2) = false := bne_eq_false_iff_eq.mpr c5; clear c5
    by_cases c6 : a0_3 = a1_3
    ·rw [if_pos c6] at H; have c6b0 : (a0_3 == a1_3) = true := beq_iff_eq.mpr c6; have c6b1 : (a0_3 != a1_3) = false := bne_eq_false_iff_eq.mpr c6; clear c6
     obtain rfl := Option.some.inj H
     go_enter Tryd.func23, Tryd.ntmps23
     go_wp2_with (first | ((with_reducible refine gate_dst (N := 2) rfl ?_); refine box_event ?hg (N := 2) ?hd (cs := #[.int .i64 a0_0, .int .i64 a0_1, .int .i64 a0_2, .int .i64 a0_3]) (t := 31) ?hr ?_; (case hd => rfl); (case hg => rfl); (case hr => first | (go_simp; done) | (go_simp; rfl)); intro D8 hg w7 hbox hb; have D0 := Cmp.A (hbox); have D6 := Cmp.gw hg HB; have D4 := Cmp.gw hg HB; replace HB := Cmp.bs HB hb; clear hb hbox hg) | ((with_reducible refine gate_dst (N := 3) rfl ?_); refine box_event ?hg (N := 3) ?hd (cs := #[.int .i64 a1_0, .int .i64 a1_1, .int .i64 a1_2, .int .i64 a1_3]) (t := 31) ?hr ?_; (case hd => rfl); (case hg => rfl); (case hr => first | (go_simp; done) | (go_simp; rfl)); intro D9 hg w8 hbox hb; have D1 := Cmp.A (hbox); have D7 := Cmp.gw hg HB; have D5 := Cmp.gw hg HB; have D2 := Cmp.nl hg D0; have D3 := Cmp.ng hg D0; replace D0 := Cmp.be D0 hb; replace HB := Cmp.bs HB hb; clear hb hbox hg; have Fq := D2.out; have Fr := D3.out; obtain ⟨Da, Db, Dc, Dd⟩ := Cmp.q4 D0; obtain ⟨Ee, Ef, Eg, Eh⟩ := Cmp.f4 D0; obtain ⟨De, Df, Dg, Dh⟩ := Cmp.q4 D1; obtain ⟨Ei, Ej, Ek, El⟩ := Cmp.f4 D1))
     go_ret
     exact ⟨by first | rfl | (simp [errW_none, errW_some] <;> rfl) | (simp [*, errW_none, errW_some] <;> rfl), Cmp.g HB.out⟩
    ·rw [if_neg c6] at H; have c6b0 : (a0_3 == a1_3) = false := beq_eq_false_iff_ne.mpr c6; have c6b1 : (a0_3 != a1_3) = true := bne_iff_ne.mpr c6
     obtain rfl := Option.some.inj H
     go_enter Tryd.func23, Tryd.ntmps23
     go_wp2_with (first | ((with_reducible refine gate_dst (N := 2) rfl ?_); refine box_event ?hg (N := 2) ?hd (cs := #[.int .i64 a0_0, .int .i64 a0_1, .int .i64 a0_2, .int .i64 a0_3]) (t := 31) ?hr ?_; (case hd => rfl); (case hg => rfl); (case hr => first | (go_simp; done) | (go_simp; rfl)); intro D8 hg w12 hbox hb; have D0 := Cmp.A (hbox); have D6 := Cmp.gw hg HB; have D4 := Cmp.gw hg HB; replace HB := Cmp.bs HB hb; clear hb hbox hg) | ((with_reducible refine gate_dst (N := 3) rfl ?_); refine box_event ?hg (N := 3) ?hd (cs := #[.int .i64 a1_0, .int .i64 a1_1, .int .i64 a1_2, .int .i64 a1_3]) (t := 31) ?hr ?_; (case hd => rfl); (case hg => rfl); (case hr => first | (go_simp; done) | (go_simp; rfl)); intro D9 hg w13 hbox hb; have D1 := Cmp.A (hbox); have D7 := Cmp.gw hg HB; have D5 := Cmp.gw hg HB; have D2 := Cmp.nl hg D0; have D3 := Cmp.ng hg D0; replace D0 := Cmp.be D0 hb; replace HB := Cmp.bs HB hb; clear hb hbox hg; have Fi := D2.out; have Fm := D3.out; obtain ⟨Di, Dj, Dk, Dl⟩ := Cmp.q4 D0; obtain ⟨Em, En, Eo, Ep⟩ := Cmp.f4 D0; obtain ⟨Dm, Dn, Do, Dp⟩ := Cmp.q4 D1; obtain ⟨Eq, Er, Es, Et⟩ := Cmp.f4 D1))
     go_ret
     exact ⟨by first | rfl | (simp [errW_none, errW_some] <;> rfl) | (simp [*, errW_none, errW_some] <;> rfl), Cmp.g HB.out⟩
   ·rw [if_neg c5] at H; have c5b0 : (a0_2 == a1_2) = false := beq_eq_false_iff_ne.mpr c5; have c5b1 : (a0_2 != a1_2) = true := bne_iff_ne.mpr c5
    obtain rfl := Option.some.inj H
    go_enter Tryd.func23, Tryd.ntmps23
    go_wp2_with (first | ((with_reducible refine gate_dst (N := 2) rfl ?_); refine box_event ?hg (N := 2) ?hd (cs := #[.int .i64 a0_0, .int .i64 a0_1, .int .i64 a0_2, .int .i64 a0_3]) (t := 31) ?hr ?_; (case hd => rfl); (case hg => rfl); (case hr => first | (go_simp; done) | (go_simp; rfl)); intro D8 hg w17 hbox hb; have D0 := Cmp.A (hbox); have D6 := Cmp.gw hg HB; have D4 := Cmp.gw hg HB; replace HB := Cmp.bs HB hb; clear hb hbox hg) | ((with_reducible refine gate_dst (N := 3) rfl ?_); refine box_event ?hg (N := 3) ?hd (cs := #[.int .i64 a1_0, .int .i64 a1_1, .int .i64 a1_2, .int .i64 a1_3]) (t := 31) ?hr ?_; (case hd => rfl); (case hg => rfl); (case hr => first | (go_simp; done) | (go_simp; rfl)); intro D9 hg w18 hbox hb; have D1 := Cmp.A (hbox); have D7 := Cmp.gw hg HB; have D5 := Cmp.gw hg HB; have D2 := Cmp.nl hg D0; have D3 := Cmp.ng hg D0; replace D0 := Cmp.be D0 hb; replace HB := Cmp.bs HB hb; clear hb hbox hg; have Fj := D2.out; have Fn := D3.out; obtain ⟨Dq, Dr, Ds, Dt⟩ := Cmp.q4 D0; obtain ⟨Eu, Ev, Ew, Ex⟩ := Cmp.f4 D0; obtain ⟨Du, Dv, Dw, Dx⟩ := Cmp.q4 D1; obtain ⟨Ey, Ez, F0, F1⟩ := Cmp.f4 D1))
    go_ret
    exact ⟨by first | rfl | (simp [errW_none, errW_some] <;> rfl) | (simp [*, errW_none, errW_some] <;> rfl), Cmp.g HB.out⟩
  ·rw [if_neg c4] at H; have c4b0 : (a0_1 == a1_1) = false := beq_eq_false_iff_ne.mpr c4; have c4b1 : (a0_1 != a1_1) = true := bne_iff_ne.mpr c4
   obtain rfl := Option.some.inj H
   go_enter Tryd.func23, Tryd.ntmps23
   go_wp2_with (first | ((with_reducible refine gate_dst (N := 2) rfl ?_); refine box_event ?hg (N := 2) ?hd (cs := #[.int .i64 a0_0, .int .i64 a0_1, .int .i64 a0_2, .int .i64 a0_3]) (t := 31) ?hr ?_; (case hd => rfl); (case hg => rfl); (case hr => first | (go_simp; done) | (go_simp; rfl)); intro D8 hg w22 hbox hb; have D0 := Cmp.A (hbox); have D6 := Cmp.gw hg HB; have D4 := Cmp.gw hg HB; replace HB := Cmp.bs HB hb; clear hb hbox hg) | ((with_reducible refine gate_dst (N := 3) rfl ?_); refine box_event ?hg (N := 3) ?hd (cs := #[.int .i64 a1_0, .int .i64 a1_1, .int .i64 a1_2, .int .i64 a1_3]) (t := 31) ?hr ?_; (case hd => rfl); (case hg => rfl); (case hr => first | (go_simp; done) | (go_simp; rfl)); intro D9 hg w23 hbox hb; have D1 := Cmp.A (hbox); have D7 := Cmp.gw hg HB; have D5 := Cmp.gw hg HB; have D2 := Cmp.nl hg D0; have D3 := Cmp.ng hg D0; replace D0 := Cmp.be D0 hb; replace HB := Cmp.bs HB hb; clear hb hbox hg; have Fk := D2.out; have Fo := D3.out; obtain ⟨Dy, Dz, E0, E1⟩ := Cmp.q4 D0; obtain ⟨F2, F3, F4, F5⟩ := Cmp.f4 D0; obtain ⟨E2, E3, E4, E5⟩ := Cmp.q4 D1; obtain ⟨F6, F7, F8, F9⟩ := Cmp.f4 D1))
   go_ret
   exact ⟨by first | rfl | (simp [errW_none, errW_some] <;> rfl) | (simp [*, errW_none, errW_some] <;> rfl), Cmp.g HB.out⟩
 ·rw [if_neg c3] at H; have c3b0 : (a0_0 == a1_0) = false := beq_eq_false_iff_ne.mpr c3; have c3b1 : (a0_0 != a1_0) = true := bne_iff_ne.mpr c3
  obtain rfl := Option.some.inj H
  go_enter Tryd.func23, Tryd.ntmps23
  go_wp2_with (first | ((with_reducible refine gate_dst (N := 2) rfl ?_); refine box_event ?hg (N := 2) ?hd (cs := #[.int .i64 a0_0, .int .i64 a0_1, .int .i64 a0_2, .int .i64 a0_3]) (t := 31) ?hr ?_; (case hd => rfl); (case hg => rfl); (case hr => first | (go_simp; done) | (go_simp; rfl)); intro D8 hg w27 hbox hb; have D0 := Cmp.A (hbox); have D6 := Cmp.gw hg HB; have D4 := Cmp.gw hg HB; replace HB := Cmp.bs HB hb; clear hb hbox hg) | ((with_reducible refine gate_dst (N := 3) rfl ?_); refine box_event ?hg (N := 3) ?hd (cs := #[.int .i64 a1_0, .int .i64 a1_1, .int .i64 a1_2, .int .i64 a1_3]) (t := 31) ?hr ?_; (case hd => rfl); (case hg => rfl); (case hr => first | (go_simp; done) | (go_simp; rfl)); intro D9 hg w28 hbox hb; have D1 := Cmp.A (hbox); have D7 := Cmp.gw hg HB; have D5 := Cmp.gw hg HB; have D2 := Cmp.nl hg D0; have D3 := Cmp.ng hg D0; replace D0 := Cmp.be D0 hb; replace HB := Cmp.bs HB hb; clear hb hbox hg; have Fl := D2.out; have Fp := D3.out; obtain ⟨E6, E7, E8, E9⟩ := Cmp.q4 D0; obtain ⟨Fa, Fb, Fc, Fd⟩ := Cmp.f4 D0; obtain ⟨Ea, Eb, Ec, Ed⟩ := Cmp.q4 D1; obtain ⟨Fe, Ff, Fg, Fh⟩ := Cmp.f4 D1))
  go_ret
  exact ⟨by first | rfl | (simp [errW_none, errW_some] <;> rfl) | (simp [*, errW_none, errW_some] <;> rfl), Cmp.g HB.out⟩
end Go.Proofs.YtpgjecknkmmnhaaDoor.PFnExactOpenTab
