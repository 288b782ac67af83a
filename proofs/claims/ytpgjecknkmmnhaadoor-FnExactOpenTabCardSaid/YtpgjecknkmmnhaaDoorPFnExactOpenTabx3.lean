/- Printed functions of the program, out of print.sh, told more shortly. No condition. -/
import Derived.Test.YtpgjecknkmmnhaaDoorCmp
import Derived.Test.YtpgjecknkmmnhaaDoorPFnExactOpenTabx0
import Derived.Test.YtpgjecknkmmnhaaDoorPFnExactOpenTabx2
namespace Go.Proofs.YtpgjecknkmmnhaaDoor.PFnExactOpenTab
open Go.Proofs.YtpgjecknkmmnhaaDoor
open Go.RowKit Go.Proofs.YtpgjecknkmmnhaaDoorW.PrintWords Go.Proofs.YtpgjecknkmmnhaaDoorW.PrintLast Go.Proofs.YtpgjecknkmmnhaaDoorW.PrintMore
attribute [local go_sem] max2_int min2_int max_two min_two max_three min_three max_four min_four   -- for this text's walks alone
set_option linter.unusedVariables false
set_option linter.unusedSimpArgs false
/-! ### laws_toTabS: function 20 -/
def laws_toTabS.l0 : Nat → List (S58) → List (S49) → Int → Option ((List (S49)))
  | 0, _, _, _ => none
  | k + 1, x0, x3, x4 => if x4 < (x0.length : Int) then (if 0 ≤ x4 then ((laws_toTab.f ((rd_T58 x0 x4).f0.f0) ((rd_T58 x0 x4).f0.f1) ((rd_T58 x0 x4).f0.f2) ((rd_T58 x0 x4).f1.f0) ((rd_T58 x0 x4).f1.f1) ((rd_T58 x0 x4).f1.f2)).bind fun bt173 => (if x4 < (x3.length : Int) then (laws_toTabS.l0 k x0 (x3.set (x4 : Int).toNat (⟨(⟨bt173.1, bt173.2.1, bt173.2.2.1⟩ : S38), (⟨bt173.2.2.2.1, bt173.2.2.2.2.1, bt173.2.2.2.2.2⟩ : S38)⟩ : S49)) (wrap64 (x4 + 1))) else (none))) else (none)) else (some x3)
def laws_toTabS.f (k : Nat) (l0 : List (S58)) : Option ((List (S49))) := if 0 ≤ (l0.length : Int) then (if ((l0.length : Int) : Int).toNat ≤ 4398046511104 then (laws_toTabS.l0 k l0 (List.replicate ((l0.length : Int) : Int).toNat z49) 0) else (none)) else (none)
theorem laws_toTabS.mono_l : ∀ k, (∀ y0 y1 y2, LeO (laws_toTabS.l0 k y0 y1 y2) (laws_toTabS.l0 (k + 1) y0 y1 y2))
 | 0 => fun _ _ _ r h => by simp [laws_toTabS.l0] at h
 | k + 1 => by
    have ih0 := laws_toTabS.mono_l k
    · intro y0 y1 y2
      unfold laws_toTabS.l0
      repeat' first
 | (with_reducible exact ih0 _ _ _)
 | (with_reducible exact LeO.refl _)
 | (with_reducible exact LeO.none _)
 | (with_reducible refine LeO.ite ?_ ?_)
 | (with_reducible refine LeO.bind ?_ (fun _ => ?_))
theorem laws_toTabS.mono : ∀ a0 k, LeO (laws_toTabS.f k a0) (laws_toTabS.f (k + 1) a0) := by
  intro a0 k
  have ih0 := laws_toTabS.mono_l k
  unfold laws_toTabS.f
  repeat' first
 | (with_reducible exact ih0 _ _ _)
 | (with_reducible exact LeO.refl _)
 | (with_reducible exact LeO.none _)
 | (with_reducible refine LeO.ite ?_ ?_)
 | (with_reducible refine LeO.bind ?_ (fun _ => ?_))
set_option maxHeartbeats 8000000 in
set_option maxRecDepth 100000 in
theorem laws_toTabS.calls (k : Nat) (A0 : Option Addr) (c0 : Nat) (l0 : List (S58)) (r : List (S49)) (w : World) (hr0 : Kd.C k58 w A0 l0.length l0) (hc0 : l0.length ≤ c0) (h : laws_toTabS.f k l0 = some r) :
    Calls Tryd.prog 20 #[.slice A0 l0.length c0] w fun e w' => ∃ v0_ : Value, e = .returned (v0_) ∧ Kd.R k49 49 w' w.heap.size (fun _ => True) v0_ r ∧ Below w.heap.size w w' := by
 have hu58 := Tryd.underlying58; have hu49 := Tryd.underlying49; have HR0 := Cmp.A hr0; have HC0 := Cmp.A hc0; clear hr0 hc0
 have HB := Cmp.A (Below.refl w.heap.size w)
 have H : (if 0 ≤ (l0.length : Int) then (if ((l0.length : Int) : Int).toNat ≤ 4398046511104 then (laws_toTabS.l0 k l0 (List.replicate ((l0.length : Int) : Int).toNat z49) 0) else (none)) else (none)) = some r := h
 clear h
 by_cases c2 : 0 ≤ (l0.length : Int)
 ·rw [if_pos c2] at H
  have c2b0 := eq_true c2
  have c2b1 : decide (0 ≤ (l0.length : Int)) = true := decide_eq_true c2
  clear c2
  by_cases c3 : ((l0.length : Int) : Int).toNat ≤ 4398046511104
  ·rw [if_pos c3] at H
   have c3b0 := eq_true c3
   have c3b1 : decide (((l0.length : Int) : Int).toNat ≤ 4398046511104) = true := decide_eq_true c3
   clear c3
   obtain ⟨Dt, hy169⟩ : ∃ y_ : List (S49), y_ = (List.replicate ((l0.length : Int) : Int).toNat z49) := ⟨_, rfl⟩
   replace H : (laws_toTabS.l0 k l0 Dt 0) = some r := Cmp.hy hy169 H
   have Df := Cmp.A hy169; clear hy169
   have H' := Cmp.A H
   clear H
   go_enter Tryd.func20, Tryd.ntmps20
   go_wp2_with (first | ((with_reducible refine gate_dst (N := 7) rfl ?_); refine Kd.R_make k49 _ 49 rfl (N := 7) rfl 32 _ _ rfl (l0.length : Int) rfl rfl Tryd.underlying32 (.agg #[(.bool false), (.string ⟨#[]⟩), (.int .i64 0), (.bool false), (.string ⟨#[]⟩), (.int .i64 0)]) 64 info49 rfl (by decide) (by omega) z49 (ok := fun _ => True) (okp := fun _ => True) (k49_mkM _ _ _ z49 ) (fun _ hk => hk) trivial (of_decide_eq_true Cmp.d) (Nat.le_trans (Nat.mul_le_mul_right _ (of_decide_eq_true Cmp.d : (l0.length : Int).toNat ≤ 4398046511104)) (by omega)) (Below.refl _ _) (Nat.le_refl _) ?_; intro v170 w4 Ds hb hg_ hnew_; clear hg_ hnew_; (first | rw [← Df.out] at Ds | (simp only [Int.reduceToNat] at Ds; rw [← Df.out] at Ds)); have Dn := Cmp.A (Kd.R_lower Ds (below_size (Cmp.g HB.out))); replace HB := Cmp.bs HB hb; clear hb Ds))
   go_loopg [4] k (fun kq v4 w' => ∃ (D1 : List (S49)) (D0 : Int), v4 = .int .i64 D0 ∧ Aside0 (laws_toTabS.l0 kq l0 D1 D0 = some r) ∧ Aside0 (kq ≤ k) ∧ Aside0 (Kd.R k49 49 w' w.heap.size (fun _ => True) v170 D1) ∧ Aside0 (Below w.heap.size w w'))
   case atStart => exact ⟨(Dt), (0), (by first | rfl | simp | simp [*]), H', ⟨Nat.le_refl _⟩, ⟨Cmp.rr Dn.out⟩, ⟨Cmp.g HB.out⟩⟩
   case round =>
    clear H'
    (try clear c2); (try clear c2b0); (try clear c2b1); (try clear p2); (try clear c3); (try clear c3b0); (try clear c3b1)
    obtain ⟨D1, D0, rfl, HA, HK1, D2, HB⟩ := hrel
    cases gk with
    | zero => exact absurd HA.out (by simp [laws_toTabS.l0])
    | succ k1 =>
     have H := HA.out; clear HA
     simp only [laws_toTabS.l0] at H
     by_cases c6 : D0 < (l0.length : Int)
     ·rw [if_pos c6] at H
      have c6b0 : decide (D0 < (l0.length : Int)) = true := decide_eq_true c6
      clear c6
      by_cases c7 : 0 ≤ D0
      ·rw [if_pos c7] at H; have c7b0 : decide (0 ≤ D0) = true := decide_eq_true c7; clear c7; replace H := Option.bind_eq_some_iff.mp H; obtain ⟨⟨D9, Da, Db, Dc, Dd, De⟩, E0, H⟩ := H; (try dsimp only at H); have A8 := Cmp.A E0; clear E0
       by_cases c9 : D0 < (D1.length : Int)
       ·rw [if_pos c9] at H
        have c9b0 : decide (D0 < (D1.length : Int)) = true := decide_eq_true c9
        clear c9
        obtain ⟨Dm, hy179⟩ : ∃ y_ : List (S49), y_ = (D1.set (D0 : Int).toNat (⟨(⟨D9, Da, Db⟩ : S38), (⟨Dc, Dd, De⟩ : S38)⟩ : S49)) := ⟨_, rfl⟩
        replace H : (laws_toTabS.l0 k1 l0 Dm (wrap64 (D0 + 1))) = some r := Cmp.hy hy179 H
        have Do := Cmp.A hy179; clear hy179
        have H' := Cmp.A H
        clear H
        have p172 : 0 ≤ (D0 : Int) := of_decide_eq_true Cmp.d
        have q172 : D0 < (l0.length : Int) := of_decide_eq_true Cmp.d
        obtain ⟨E1, e172, D3, D4, D5, D6, D7, D8⟩ := at_T58 HR0.out D0 p172 q172
        cases e172
        replace D3 := Cmp.hc HB D3
        replace D4 := Cmp.hc HB D4
        replace D5 := Cmp.hc HB D5
        replace D6 := Cmp.hc HB D6
        replace D7 := Cmp.hc HB D7
        replace D8 := Cmp.hc HB D8
        replace p172 := eq_true p172; replace q172 := eq_true q172
        go_wp2_with (first | ((with_reducible refine gate_callee (f := 30) rfl ?_); refine goesL_ (some 20) rfl rfl Tryd.func30 (by kernel_rfl) rfl #[.agg #[.bool ((rd_T58 l0 D0).f0.f0), .string ((rd_T58 l0 D0).f0.f1), .int .i64 ((rd_T58 l0 D0).f0.f2), .bool ((rd_T58 l0 D0).f1.f0), .string ((rd_T58 l0 D0).f1.f1), .int .i64 ((rd_T58 l0 D0).f1.f2)]] rfl Cmp.q ?_; (with_reducible refine (laws_toTab.calls ((rd_T58 l0 D0).f0.f0) ((rd_T58 l0 D0).f0.f1) ((rd_T58 l0 D0).f0.f2) ((rd_T58 l0 D0).f1.f0) ((rd_T58 l0 D0).f1.f1) ((rd_T58 l0 D0).f1.f2) D9 Da Db Dc Dd De _ A8.out).mono ?_); rintro e w11 ⟨rfl, hb⟩; refine ⟨_, rfl, ?_⟩; replace D2 := Cmp.A (Kd.R_below (Cmp.rr D2.out) hb); replace HB := Cmp.bs HB hb; (try clear hb); (try clear hb2); (try clear hk); (try clear hi); have p10 : 0 ≤ (D0 : Int) := of_decide_eq_true Cmp.d; have q10 : (D0 : Int) < ((D1.length : Int) : Int) := of_decide_eq_true Cmp.d; obtain ⟨go10, Dp, Dq, Dr, gl10, cl10, HG10⟩ := Kd.R_form D2.out (by omega); (first | cases Dq | (injection Dq with ea_ en_ ec_; (first | subst ea_ | (injection ea_ with ea_; subst ea_)); subst ec_; clear en_)); have GB10 := Cmp.A Dr; have GG10 := Cmp.A HG10; clear Dr gl10 HG10; obtain ⟨ce10, hcl10, hM10, hcc10, hfr10⟩ := Kd.R_elem D2.out z49 (D0 : Int) p10 q10; obtain rfl := k49_openM hM10; have Du : w11.cell? ⟨go10, (D0 : Int).toNat * 6, none⟩ = some (.bool ((rd_T49 D1 D0).f0.f0)) := hcc10 0 _ rfl; have Dv : w11.cell? ⟨go10, (D0 : Int).toNat * 6 + 1, none⟩ = some (.string ((rd_T49 D1 D0).f0.f1)) := hcc10 1 _ rfl; have Dw : w11.cell? ⟨go10, (D0 : Int).toNat * 6 + 2, none⟩ = some (.int .i64 ((rd_T49 D1 D0).f0.f2)) := hcc10 2 _ rfl; have Dx : w11.cell? ⟨go10, (D0 : Int).toNat * 6 + 3, none⟩ = some (.bool ((rd_T49 D1 D0).f1.f0)) := hcc10 3 _ rfl; have Dy : w11.cell? ⟨go10, (D0 : Int).toNat * 6 + 4, none⟩ = some (.string ((rd_T49 D1 D0).f1.f1)) := hcc10 4 _ rfl; have Dz : w11.cell? ⟨go10, (D0 : Int).toNat * 6 + 5, none⟩ = some (.int .i64 ((rd_T49 D1 D0).f1.f2)) := hcc10 5 _ rfl; have hf10_0 : w11.frozen? ⟨go10, (D0 : Int).toNat * 6, none⟩ = false := hfr10 0; have hf10_1 : w11.frozen? ⟨go10, (D0 : Int).toNat * 6 + 1, none⟩ = false := hfr10 1; have hf10_2 : w11.frozen? ⟨go10, (D0 : Int).toNat * 6 + 2, none⟩ = false := hfr10 2; have hf10_3 : w11.frozen? ⟨go10, (D0 : Int).toNat * 6 + 3, none⟩ = false := hfr10 3; have hf10_4 : w11.frozen? ⟨go10, (D0 : Int).toNat * 6 + 4, none⟩ = false := hfr10 4; have hf10_5 : w11.frozen? ⟨go10, (D0 : Int).toNat * 6 + 5, none⟩ = false := hfr10 5; clear hcl10 hcc10 hfr10 hM10; replace p10 := eq_true p10; replace q10 := eq_true q10; have HX12 := Cmp.A (show Kd.R k49 49 w11 w.heap.size (fun _ => True) (.slice (some ⟨go10, 0, none⟩) D1.length Dp) D1 from (Cmp.rr D2.out)); obtain ⟨ce12, hcl12, hM12, hcc12, hfr12⟩ := Kd.R_elem HX12.out z49 (D0 : Int) (of_decide_eq_true Cmp.d) (by have h_ : (D0 : Int) < ((D1.length : Int) : Int) := of_decide_eq_true Cmp.d; first | exact h_ | (have e_ := (Kd.R_reads' D2.out).1; omega) | simpa using h_); obtain rfl := k49_openM hM12; have HP12 := Kd.R_seg HX12.out (D0 : Int) (of_decide_eq_true Cmp.d) (by have h_ : (D0 : Int) < ((D1.length : Int) : Int) := of_decide_eq_true Cmp.d; first | exact h_ | (have e_ := (Kd.R_reads' D2.out).1; omega) | simpa using h_) (seg := [.bool D9, .string Da, .int .i64 Db, .bool Dc, .string Dd, .int .i64 De]) (j := 0) hcl12 hcc12 (show 6 ≤ 6 from by decide) (x' := (⟨(⟨D9, Da, Db⟩ : S38), (⟨Dc, Dd, De⟩ : S38)⟩ : S49)) (k49_mkM _ _ _ (⟨(⟨D9, Da, Db⟩ : S38), (⟨Dc, Dd, De⟩ : S38)⟩ : S49) ) (fun _ hk => hk); have Dg := hcc12 0 _ rfl; (try simp only [show (k49).sz = 6 from rfl, Nat.mul_one, Nat.add_zero] at Dg); have hf12_0 := hfr12 0; (try simp only [show (k49).sz = 6 from rfl, Nat.mul_one, Nat.add_zero] at hf12_0); have Dh := hcc12 1 _ rfl; (try simp only [show (k49).sz = 6 from rfl, Nat.mul_one, Nat.add_zero] at Dh); have hf12_1 := hfr12 1; (try simp only [show (k49).sz = 6 from rfl, Nat.mul_one, Nat.add_zero] at hf12_1); have Di := hcc12 2 _ rfl; (try simp only [show (k49).sz = 6 from rfl, Nat.mul_one, Nat.add_zero] at Di); have hf12_2 := hfr12 2; (try simp only [show (k49).sz = 6 from rfl, Nat.mul_one, Nat.add_zero] at hf12_2); have Dj := hcc12 3 _ rfl; (try simp only [show (k49).sz = 6 from rfl, Nat.mul_one, Nat.add_zero] at Dj); have hf12_3 := hfr12 3; (try simp only [show (k49).sz = 6 from rfl, Nat.mul_one, Nat.add_zero] at hf12_3); have Dk := hcc12 4 _ rfl; (try simp only [show (k49).sz = 6 from rfl, Nat.mul_one, Nat.add_zero] at Dk); have hf12_4 := hfr12 4; (try simp only [show (k49).sz = 6 from rfl, Nat.mul_one, Nat.add_zero] at hf12_4); have Dl := hcc12 5 _ rfl; (try simp only [show (k49).sz = 6 from rfl, Nat.mul_one, Nat.add_zero] at Dl); have hf12_5 := hfr12 5; (try simp only [show (k49).sz = 6 from rfl, Nat.mul_one, Nat.add_zero] at hf12_5); clear hcl12 hcc12 hfr12 hM12) | ((with_reducible refine gate_store (t := 49) (p := 21) rfl ?_); refine store_event (t := 49) (p := 21) (v := ?vo_w13) (w1 := ((((((w11.setCell ⟨go10, (D0 : Int).toNat * 6, none⟩ (.bool D9)).setCell ⟨go10, (D0 : Int).toNat * 6 + 1, none⟩ (.string Da)).setCell ⟨go10, (D0 : Int).toNat * 6 + 2, none⟩ (.int .i64 Db)).setCell ⟨go10, (D0 : Int).toNat * 6 + 3, none⟩ (.bool Dc)).setCell ⟨go10, (D0 : Int).toNat * 6 + 4, none⟩ (.string Dd)).setCell ⟨go10, (D0 : Int).toNat * 6 + 5, none⟩ (.int .i64 De))) ?hg ?ho ?hn ?hr ?_; (case ho => rfl); (case hg => rfl); (case hn => rfl); (case hr => first | (go_simp; done) | (go_simp; rfl)); intro w13 hw; have hg : w11.grownBy w13 (some go10) := (by rw [hw]; exact HP12.2); have hp_ : Kd.R k49 49 w13 w.heap.size (fun _ => True) (.slice (some ⟨go10, 0, none⟩) D1.length Dp) Dm := (by rw [hw, Do.out]; exact HP12.1); clear HP12; replace D2 := Cmp.A (hp_); replace HB := Cmp.A ((by rw [hw]; exact below_set (below_set (below_set (below_set (below_set (below_set (HB.out) GB10.out) GB10.out) GB10.out) GB10.out) GB10.out) GB10.out : Below w.heap.size w w13)); clear hg hw hp_))
        go_roundg k1
        case measure => have := HK1.out; omega
        case rel => exact ⟨(Dm), (wrap64 (D0 + 1)), (by first | rfl | simp | simp [*]), H', ⟨by have := HK1.out; omega⟩, ⟨Cmp.rr D2.out⟩, ⟨Cmp.g HB.out⟩⟩
       ·rw [if_neg c9] at H; exact absurd H (by simp)
      ·rw [if_neg c7] at H; exact absurd H (by simp)
     ·rw [if_neg c6] at H
      have c6b0 : decide (D0 < (l0.length : Int)) = false := decide_eq_false c6
      clear c6
      obtain rfl := Option.some.inj H
      go_wp2
      go_ret
      exact ⟨_, by first | rfl | (simp [errW_none, errW_some] <;> rfl) | (simp [*, errW_none, errW_some] <;> rfl), by (with_reducible repeat (first | apply Kd.R_alloc | apply Kd.R_drewN | apply Kd.R_drew)); exact D2.out, Cmp.g HB.out⟩
  ·rw [if_neg c3] at H; exact absurd H (by simp)
 ·rw [if_neg c2] at H; exact absurd H (by simp)
/-! ### laws_toBrowser: function 8 -/
def laws_toBrowser.f (k : Nat) (a0_0 : Int) (a0_1 : Int) (a0_2 : Int) (a0_3 : Int) (l0_4 : List (S58)) (a0_5 : Int) : Option (Int × Int × Int × Int × (List (S49)) × Int) := (laws_toKeyStore.f a0_0 a0_1 a0_2 a0_3).bind fun bt183 => ((laws_toTabS.f k l0_4).bind fun t187 => (some (bt183.1, bt183.2.1, bt183.2.2.1, bt183.2.2.2, t187, a0_5)))
theorem laws_toBrowser.mono : ∀ a0 a1 a2 a3 a4 a5 k, LeO (laws_toBrowser.f k a0 a1 a2 a3 a4 a5) (laws_toBrowser.f (k + 1) a0 a1 a2 a3 a4 a5) := by
  intro a0 a1 a2 a3 a4 a5 k
  unfold laws_toBrowser.f
  repeat' first
 | (with_reducible exact laws_toTabS.mono _ _)
 | (with_reducible exact LeO.refl _)
 | (with_reducible exact LeO.none _)
 | (with_reducible refine LeO.ite ?_ ?_)
 | (with_reducible refine LeO.bind ?_ (fun _ => ?_))
set_option maxHeartbeats 8000000 in
set_option maxRecDepth 100000 in
theorem laws_toBrowser.calls (k : Nat) (a0_0 : Int) (a0_1 : Int) (a0_2 : Int) (a0_3 : Int) (A0_4 : Option Addr) (c0_4 : Nat) (l0_4 : List (S58)) (a0_5 : Int) (r1 : Int) (r2 : Int) (r3 : Int) (r4 : Int) (r5 : List (S49)) (r6 : Int) (w : World) (hr0_4 : Kd.C k58 w A0_4 l0_4.length l0_4) (hc0_4 : l0_4.length ≤ c0_4) (h : laws_toBrowser.f k a0_0 a0_1 a0_2 a0_3 l0_4 a0_5 = some (r1, r2, r3, r4, r5, r6)) :
    Calls Tryd.prog 8 #[.agg #[.int .i64 a0_0, .int .i64 a0_1, .int .i64 a0_2, .int .i64 a0_3, .slice A0_4 l0_4.length c0_4, .int .i64 a0_5]] w fun e w' => ∃ v4_ : Value, e = .returned (.agg #[.int .i64 r1, .int .i64 r2, .int .i64 r3, .int .i64 r4, v4_, .int .i64 r6]) ∧ Kd.R k49 49 w' w.heap.size (fun _ => True) v4_ r5 ∧ Below w.heap.size w w' := by
 have hu26 := Tryd.underlying26; have hu34 := Tryd.underlying34; have hu23 := Tryd.underlying23; have hu31 := Tryd.underlying31; have Dj := Cmp.A hr0_4; have HC0_4 := Cmp.A hc0_4; clear hr0_4 hc0_4
 have HB := Cmp.A (Below.refl w.heap.size w)
 have H : ((laws_toKeyStore.f a0_0 a0_1 a0_2 a0_3).bind fun bt183 => ((laws_toTabS.f k l0_4).bind fun Da => (some (bt183.1, bt183.2.1, bt183.2.2.1, bt183.2.2.2, Da, a0_5)))) = some (r1, r2, r3, r4, r5, r6) := h
 clear h; replace H := Option.bind_eq_some_iff.mp H; obtain ⟨⟨Dc, Dd, De, Df⟩, Fm, H⟩ := H; (try dsimp only at H); have A2 := Cmp.A Fm; clear Fm; replace H := Option.bind_eq_some_iff.mp H; obtain ⟨Da, Fn, H⟩ := H; (try dsimp only at H); have A3 := Cmp.A Fn; clear Fn
 simp only [Option.some.injEq, Prod.mk.injEq] at H
 obtain ⟨rfl, rfl, rfl, rfl, rfl, rfl⟩ := H
 go_enter Tryd.func8, Tryd.ntmps8
 go_wp2_with (first | ((with_reducible refine gate_dst (N := 1) rfl ?_); refine box_event ?hg (N := 1) ?hd (cs := #[.int .i64 a0_0, .int .i64 a0_1, .int .i64 a0_2, .int .i64 a0_3, .slice A0_4 l0_4.length c0_4, .int .i64 a0_5]) (t := 26) ?hr ?_; (case hd => rfl); (case hg => rfl); (case hr => first | (go_simp; done) | (go_simp; rfl)); intro Dk hg w4 hbox hb; have D0 := Cmp.A (hbox); have Fr := Cmp.gw hg HB; have Fo := Cmp.gw hg HB; replace HB := Cmp.bs HB hb; clear hb hbox hg) | ((with_reducible refine gate_dst (N := 2) rfl ?_); refine box_event ?hg (N := 2) ?hd (cs := #[.int .i64 0, .int .i64 0, .int .i64 0, .int .i64 0, .slice none 0 0, .int .i64 0]) (t := 34) ?hr ?_; (case hd => rfl); (case hg => rfl); (case hr => first | (go_simp; done) | (go_simp; rfl)); intro D3 hg w5 hbox hb; have D2 := Cmp.A (hbox); have Fs := Cmp.gw hg HB; have Fp := Cmp.gw hg HB; have D4 := Cmp.nl hg D0; have D6 := Cmp.ng hg D0; replace D0 := Cmp.be D0 hb; replace HB := Cmp.bs HB hb; clear hb hbox hg) | ((with_reducible refine gate_dst (N := 3) rfl ?_); refine box_event ?hg (N := 3) ?hd (cs := #[.int .i64 0, .int .i64 0, .int .i64 0, .int .i64 0, .slice none 0 0, .int .i64 0]) (t := 34) ?hr ?_; (case hd => rfl); (case hg => rfl); (case hr => first | (go_simp; done) | (go_simp; rfl)); intro Db hg w6 hbox hb; have D1 := Cmp.A (hbox); have Ft := Cmp.gw hg HB; have Fq := Cmp.gw hg HB; have D5 := Cmp.nl hg D0; have D8 := Cmp.ng hg D0; have D7 := Cmp.nl hg D2; have D9 := Cmp.ng hg D2; replace D0 := Cmp.be D0 hb; replace D2 := Cmp.be D2 hb; replace HB := Cmp.bs HB hb; clear hb hbox hg; have Fx := D4.out; have Fz := D6.out; have Fy := D5.out; have G0 := D8.out; obtain ⟨Fa, Fb, Fc, Fd, Fe, Ff⟩ := Cmp.q6 D0; obtain ⟨Fg, Fh, Fi, Fj, Fk, Fl⟩ := Cmp.f6 D0) | ((with_reducible refine gate_callee (f := 19) rfl ?_); refine goesL_ (some 6) rfl rfl Tryd.func19 (by kernel_rfl) rfl #[.agg #[.int .i64 a0_0, .int .i64 a0_1, .int .i64 a0_2, .int .i64 a0_3]] rfl Cmp.q ?_; (with_reducible refine (laws_toKeyStore.calls a0_0 a0_1 a0_2 a0_3 Dc Dd De Df _ A2.out).mono ?_); rintro e w10 ⟨rfl, hb⟩; refine ⟨_, rfl, ?_⟩; replace D0 := Cmp.be D0 hb; replace D2 := Cmp.be D2 hb; replace D1 := Cmp.be D1 hb; replace HB := Cmp.bs HB hb; (try clear hb); (try clear hb2); (try clear hk); (try clear hi); have Fu := D9.out; have Fv := D7.out; obtain ⟨Dl, Dm, Dn, Do, Dp, Dq⟩ := Cmp.q6 D1; obtain ⟨Ef, Eg, Eh, Ei, Ej, Ek⟩ := Cmp.f6 D1; obtain ⟨Dr, Ds, Dt, Du, Dv, Dw⟩ := Cmp.q6 D0; obtain ⟨El, Em, En, Eo, Ep, Eq⟩ := Cmp.f6 D0) | ((with_reducible refine gate_callee (f := 20) rfl ?_); refine goesL_ (some 10) rfl rfl Tryd.func20 (by kernel_rfl) rfl #[.slice A0_4 l0_4.length c0_4] rfl Cmp.q ?_; (with_reducible refine (laws_toTabS.calls k _ _ l0_4 Da _ ?side1 ?side2 A3.out).mono ?_); (case side1 => exact Kd.C_below Dj.out (Cmp.g HB.out)); (case side2 => exact HC0_4.out); rintro e w14 ⟨v188, rfl, Fw, hb⟩; refine ⟨_, rfl, ?_⟩; have Dg := Cmp.A (Kd.R_lower Fw (below_size (Cmp.g HB.out))); replace D0 := Cmp.A (blk_below (g := Dk) (o := .cells #[.int .i64 a0_0, .int .i64 a0_1, .int .i64 a0_2, .int .i64 a0_3, .slice A0_4 l0_4.length c0_4, .int .i64 a0_5] 26 (0, 0)) (Cmp.bw D0.out) hb); replace D2 := Cmp.A (blk_below (g := D3) (o := .cells #[.int .i64 0, .int .i64 0, .int .i64 0, .int .i64 0, .slice none 0 0, .int .i64 0] 34 (0, 0)) (Cmp.bw D2.out) hb); replace D1 := Cmp.A (blk_below (g := Db) (o := .cells #[.int .i64 Dc, .int .i64 Dd, .int .i64 De, .int .i64 Df, .slice none 0 0, .int .i64 0] 34 (0, 0)) (Cmp.bw D1.out) hb); replace HB := Cmp.bs HB hb; (try clear hb); (try clear hb2); (try clear hk); (try clear hi); (try clear Fw); obtain ⟨Dh, Di, F9⟩ := Kd.R_slice Dg.out; subst F9; obtain ⟨Dx, Dy, Dz, E0, E1, E2⟩ := Cmp.q6 D1; obtain ⟨Er, Es, Et, Eu, Ev, Ew⟩ := Cmp.f6 D1; obtain ⟨E3, E4, E5, E6, E7, E8⟩ := Cmp.q6 D0; obtain ⟨Ex, Ey, Ez, F0, F1, F2⟩ := Cmp.f6 D0; obtain ⟨E9, Ea, Eb, Ec, Ed, Ee⟩ := Cmp.q6 D2; obtain ⟨F3, F4, F5, F6, F7, F8⟩ := Cmp.f6 D2))
 refine bodyPost_ret (results_cell_row rfl _ _ D3 34 #[.int .i64 Dc, .int .i64 Dd, .int .i64 De, .int .i64 Df, .slice Dh Da.length Di, .int .i64 a0_5] (0, 0) _ rfl (Cmp.bw D2.out) Tryd.underlying34 rfl (by kernel_rfl)) rfl ?_
 exact ⟨_, by first | rfl | (simp [errW_none, errW_some] <;> rfl) | (simp [*, errW_none, errW_some] <;> rfl), by (with_reducible repeat (first | apply Kd.R_alloc | apply Kd.R_drewN | apply Kd.R_drew)); exact Kd.R_mono (Kd.R_far (p := ⟨D3, 5, none⟩) (Kd.R_far (p := ⟨D3, 4, none⟩) (Kd.R_far (p := ⟨D3, 3, none⟩) (Kd.R_far (p := ⟨D3, 2, none⟩) (Kd.R_far (p := ⟨D3, 1, none⟩) (Kd.R_far (p := ⟨D3, 0, none⟩) (Kd.R_far (p := ⟨Db, 5, none⟩) (Kd.R_far (p := ⟨Db, 4, none⟩) (Kd.R_types (Kd.R_types Dg.out D1.out (by decide)) D2.out (by decide)) (fun _ hk => hk.1.2) (.slice Dh Da.length Di)) (fun _ hk => hk.1.2) (.int .i64 a0_5)) (fun _ hk => hk.2) (.int .i64 Dc)) (fun _ hk => hk.2) (.int .i64 Dd)) (fun _ hk => hk.2) (.int .i64 De)) (fun _ hk => hk.2) (.int .i64 Df)) (fun _ hk => hk.2) (.slice Dh Da.length Di)) (fun _ hk => hk.2) (.int .i64 a0_5)) (fun _ hk => trivial), Cmp.g HB.out⟩
/-! ### impl_copyBrowser: function 21 -/
def impl_copyBrowser.f (a0_0 : Int) (a0_1 : Int) (a0_2 : Int) (a0_3 : Int) (l0_4 : List (S49)) (a0_5 : Int) : Option (Int × Int × Int × Int × (List (S49)) × Int) := (some (([] : List (S49)) : List (S49))).bind fun y192 => (if y192.length + l0_4.length < 2199023255552 then (some (a0_0, a0_1, a0_2, a0_3, (y192 ++ l0_4), a0_5)) else (none))
def impl_copyBrowser.T1 : Bool × List (List Nat × List Nat) := (true, [([], []), ([0], [0]), ([], []), ([], []), ([3], [3]), ([2, 4], [2, 4]), ([], []), ([6], [6]), ([1, 5, 7], [1, 5, 7]), ([8, 5, 0, 1, 2, 3, 4, 5, 6, 7, 8], [8])])
def impl_copyBrowser.B1 : List Nat := [0, 1, 0, 0, 8, 28, 0, 64, 255, 511]
theorem impl_copyBrowser.tab1 : rtab .any (opsOf Tryd.f21 1) = impl_copyBrowser.T1 := by kernel_rfl
theorem impl_copyBrowser.bits1 : waitsOk impl_copyBrowser.T1.2 impl_copyBrowser.B1 = true := by kernel_rfl
set_option maxHeartbeats 8000000 in
set_option maxRecDepth 100000 in
theorem impl_copyBrowser.calls (a0_0 : Int) (a0_1 : Int) (a0_2 : Int) (a0_3 : Int) (A0_4 : Option Addr) (c0_4 : Nat) (l0_4 : List (S49)) (a0_5 : Int) (r1 : Int) (r2 : Int) (r3 : Int) (r4 : Int) (r5 : List (S49)) (r6 : Int) (w : World) (hr0_4 : Kd.C k49 w A0_4 l0_4.length l0_4) (hc0_4 : l0_4.length ≤ c0_4) (h : impl_copyBrowser.f a0_0 a0_1 a0_2 a0_3 l0_4 a0_5 = some (r1, r2, r3, r4, r5, r6)) :
    Calls Tryd.prog 21 #[.agg #[.int .i64 a0_0, .int .i64 a0_1, .int .i64 a0_2, .int .i64 a0_3, .slice A0_4 l0_4.length c0_4, .int .i64 a0_5]] w fun e w' => ∃ v4_ : Value, e = .returned (.agg #[.int .i64 r1, .int .i64 r2, .int .i64 r3, .int .i64 r4, v4_, .int .i64 r6]) ∧ Kd.R k49 49 w' w.heap.size (fun _ => True) v4_ r5 ∧ Below w.heap.size w w' := by
 have hu34 := Tryd.underlying34; have hu31 := Tryd.underlying31; have Db := Cmp.A hr0_4; have HC0_4 := Cmp.A hc0_4; clear hr0_4 hc0_4
 have HB := Cmp.A (Below.refl w.heap.size w)
 have H : ((some (([] : List (S49)) : List (S49))).bind fun D6 => (if D6.length + l0_4.length < 2199023255552 then (some (a0_0, a0_1, a0_2, a0_3, (D6 ++ l0_4), a0_5)) else (none))) = some (r1, r2, r3, r4, r5, r6) := h
 clear h
 obtain ⟨D6, hy192⟩ : ∃ y_ : List (S49), y_ = (([] : List (S49))) := ⟨_, rfl⟩
 replace H : (if D6.length + l0_4.length < 2199023255552 then (some (a0_0, a0_1, a0_2, a0_3, (D6 ++ l0_4), a0_5)) else (none)) = some (r1, r2, r3, r4, r5, r6) := Cmp.hy hy192 H
 have D9 := Cmp.A hy192; clear hy192
 by_cases c2 : D6.length + l0_4.length < 2199023255552
 ·rw [if_pos c2] at H; have LMc2 := Cmp.A c2; clear c2
  obtain ⟨Da, hy195⟩ : ∃ y_ : List (S49), y_ = (D6 ++ l0_4) := ⟨_, rfl⟩
  replace H : (some (a0_0, a0_1, a0_2, a0_3, Da, a0_5)) = some (r1, r2, r3, r4, r5, r6) := Cmp.hy hy195 H
  have Dc := Cmp.A hy195; clear hy195
  simp only [Option.some.injEq, Prod.mk.injEq] at H
  obtain ⟨rfl, rfl, rfl, rfl, rfl, rfl⟩ := H
  go_enter Tryd.func21, Tryd.ntmps21
  try go_wp2_with (first | ((with_reducible refine gate_dst (N := 1) rfl ?_); refine box_event ?hg (N := 1) ?hd (cs := #[.int .i64 a0_0, .int .i64 a0_1, .int .i64 a0_2, .int .i64 a0_3, .slice A0_4 l0_4.length c0_4, .int .i64 a0_5]) (t := 34) ?hr ?_; (case hd => rfl); (case hg => rfl); (case hr => first | (go_simp; done) | (go_simp; rfl)); intro D5 hg w3 hbox hb; have D2 := Cmp.A (hbox); have Dh := Cmp.gw hg HB; have Df := Cmp.gw hg HB; replace HB := Cmp.bs HB hb; clear hb hbox hg) | ((with_reducible refine gate_dst (N := 2) rfl ?_); refine box_event ?hg (N := 2) ?hd (cs := #[.int .i64 0, .int .i64 0, .int .i64 0, .int .i64 0, .slice none 0 0, .int .i64 0]) (t := 34) ?hr ?_; (case hd => rfl); (case hg => rfl); (case hr => first | (go_simp; done) | (go_simp; rfl)); intro D1 hg w4 hbox hb; have D3 := Cmp.A (hbox); have Di := Cmp.gw hg HB; have Dg := Cmp.gw hg HB; have D0 := Cmp.nl hg D2; have D4 := Cmp.ng hg D2; replace D2 := Cmp.be D2 hb; replace HB := Cmp.bs HB hb; clear hb hbox hg))
  replace D2 := Cmp.A (blk_drew D2.out); replace D3 := Cmp.A (blk_drew D3.out); replace HB := Cmp.A (below_drew1 HB.out)
  refine start_ (n := 10) (S := fun w' => w'.cell? ⟨D5, 0, none⟩ = some (.int .i64 a0_0) ∧ w'.cell? ⟨D5, 1, none⟩ = some (.int .i64 a0_1) ∧ w'.cell? ⟨D5, 2, none⟩ = some (.int .i64 a0_2) ∧ w'.cell? ⟨D5, 3, none⟩ = some (.int .i64 a0_3) ∧ w'.cell? ⟨D5, 4, none⟩ = some (.slice A0_4 l0_4.length c0_4) ∧ w'.cell? ⟨D5, 5, none⟩ = some (.int .i64 a0_5)) (ds := []) (Cmp.bm 0 10) (by kernel_rfl) rfl rfl ⟨(Cmp.c0 D2 :), (Cmp.c1 D2 :), (Cmp.c2 D2 :), (Cmp.c3 D2 :), (Cmp.c4 D2 :), (Cmp.c5 D2 :)⟩ (fun hHeld => ?_); refine with_tabW impl_copyBrowser.tab1 impl_copyBrowser.bits1 (fun HT_ HW_ => ?_)
  generalize w4.drew = w5 at D2 D3 HB hHeld ⊢
  refine Cmp.pu HT_ 0 3 (Cmp.bm 1 9) ?_; refine Cmp.pu HT_ 3 6 (Cmp.bb 10 9) ?_; refine Cmp.pu HT_ 6 9 (Cmp.bb 10 73) ?_; refine Cmp.tk HT_ HW_ hHeld 1 4 (Cmp.bb 10 75) ?_; refine Cmp.tk HT_ HW_ hHeld 4 7 (Cmp.bb 10 91) ?_; refine Cmp.tk HT_ HW_ hHeld 7 10 (Cmp.bb 10 219) ?_
  refine one_ (i := 2) (N := some 5) (Cmp.bb 10 223) rfl rfl (one_of HT_.out (by kernel_rfl)) (by decide) (fun K hK => ?_)
  refine Kd.R_lit_step k49 _ 49 ?hg (N := 5) ?hd (xs := ([] : List (S49))) (inner := []) (ok := fun _ => True) (okp := fun _ => True) ?hr ?hp (fun _ hk => hk) trivial (Below.refl _ _) (Nat.le_refl _) (by simp) ?_; (case hd => rfl); (case hg => rfl); (case hr => first | (go_simp; done) | (go_simp; rfl)); (case hp => exact (Reps.none _ _))
  intro v193 w6 Dd hb hg_ hnew_
  clear hg_ hnew_
  (first | rw [← D9.out] at Dd | (simp only [Int.reduceToNat] at Dd; rw [← D9.out] at Dd))
  have D7 := Cmp.A (Kd.R_lower Dd (below_size (Cmp.g HB.out))); replace D2 := Cmp.be D2 hb; replace D3 := Cmp.be D3 hb; replace HB := Cmp.A (below_step (Cmp.g HB.out) hb); clear hb Dd
  refine hK.out _ _ ⟨(Cmp.c0 D2 :), (Cmp.c1 D2 :), (Cmp.c2 D2 :), (Cmp.c3 D2 :), (Cmp.c4 D2 :), (Cmp.c5 D2 :)⟩ (fun hHeld => ?_)
  clear hK K
  refine Cmp.no ?_
  refine one_ (i := 5) (N := some 8) (Cmp.bm 8 2) rfl rfl (one_of HT_.out (by kernel_rfl)) (by decide) (fun K hK => ?_)
  refine Kd.R_append_rows_step k49 (w0 := w) w.heap.size (by rfl) (.tmp 5) (.tmp 7) 32 49 (.agg #[(.bool false), (.string ⟨#[]⟩), (.int .i64 0), (.bool false), (.string ⟨#[]⟩), (.int .i64 0)]) 64 rfl Tryd.underlying32 info49 rfl (by decide) (by omega) v193 D6 l0_4 _ _ _ (fun _ => True) (fun _ => False) rfl rfl ?aO ?aR (fun _ _ h => h) (fun _ h => h.elim) ?aF ?aB ?aS ?aL ?_
  (case aR => repeat (first | exact (Kd.C_below Db.out HB.out) | (with_reducible refine Kd.C_alloc ?_ _) | (with_reducible refine Kd.C_drewN ?_ _) | (with_reducible refine Kd.C_drew ?_)))
  (case aB => exact (Cmp.g HB.out))
  (case aF => exact (fun _ _ => trivial))
  (case aO => exact (Cmp.rr D7.out))
  (case aS => exact (below_size (Cmp.g HB.out)))
  (case aL => have := LMc2.out; omega)
  intro v196 w8 ho hb hg hat
  rw [← Dc.out] at ho
  have D8 := Cmp.A (ho); replace D2 := Cmp.bg D2 hg (Kd.R_ne D7.out D2.out (by decide)); replace D3 := Cmp.bg D3 hg (Kd.R_ne D7.out D3.out (by decide)); replace HB := Cmp.A (hb); clear D7; clear ho hb hg hat
  obtain ⟨De, Dj, Dk⟩ := Kd.R_slice D8.out
  (first | subst Dk | (injection Dk with f1_ f2_ f3_; have f4_ := f1_.symm; have f5_ := f3_.symm; clear f1_ f2_ f3_; subst f4_; subst f5_))
  refine hK.out _ _ ⟨(Cmp.c0 D2 :), (Cmp.c1 D2 :), (Cmp.c2 D2 :), (Cmp.c3 D2 :), (Cmp.c4 D2 :), (Cmp.c5 D2 :)⟩ (fun hHeld => ?_)
  clear hK K
  refine Cmp.no ?_
  refine Cmp.pu HT_ 8 11 (Cmp.bm 9 1) ?_
  refine one_ (i := 9) (N := none) (Cmp.bm 10 0) rfl rfl (one_of HT_.out (by kernel_rfl)) (by decide) (fun K hK => ?_)
  have hs10 : w8.cell? ⟨D1, 0, none⟩ = some (.int .i64 0) := (blk_cell D3.out 0).trans rfl
  have hfs10 := blk_frozen D3.out 0; have hns10_0 := D0.out; have hms10_0 := D4.out
  have hs11 : w8.cell? ⟨D1, 1, none⟩ = some (.int .i64 0) := (blk_cell D3.out 1).trans rfl
  have hfs11 := blk_frozen D3.out 1; have hns11_0 := D0.out; have hms11_0 := D4.out
  have hs12 : w8.cell? ⟨D1, 2, none⟩ = some (.int .i64 0) := (blk_cell D3.out 2).trans rfl
  have hfs12 := blk_frozen D3.out 2; have hns12_0 := D0.out; have hms12_0 := D4.out
  have hs13 : w8.cell? ⟨D1, 3, none⟩ = some (.int .i64 0) := (blk_cell D3.out 3).trans rfl
  have hfs13 := blk_frozen D3.out 3; have hns13_0 := D0.out; have hms13_0 := D4.out
  have hs14 : w8.cell? ⟨D1, 4, none⟩ = some (.slice none 0 0) := (blk_cell D3.out 4).trans rfl
  have hfs14 := blk_frozen D3.out 4; have hns14_0 := D0.out; have hms14_0 := D4.out
  have hs15 : w8.cell? ⟨D1, 5, none⟩ = some (.int .i64 0) := (blk_cell D3.out 5).trans rfl
  have hfs15 := blk_frozen D3.out 5; have hns15_0 := D0.out; have hms15_0 := D4.out
  refine skip_ (w1 := ?_) (by rfl) rfl ?_ ?_
  rotate_left
  ·go_simp; rfl
  refine hK.out _ _ ⟨((cell_far (p := ⟨D1, _, none⟩) D0.out _).trans (((cell_far (p := ⟨D1, _, none⟩) D0.out _).trans (((cell_far (p := ⟨D1, _, none⟩) D0.out _).trans (((cell_far (p := ⟨D1, _, none⟩) D0.out _).trans (((cell_far (p := ⟨D1, _, none⟩) D0.out _).trans (((cell_far (p := ⟨D1, _, none⟩) D0.out _).trans (hHeld.1)))))))))))), ((cell_far (p := ⟨D1, _, none⟩) D0.out _).trans (((cell_far (p := ⟨D1, _, none⟩) D0.out _).trans (((cell_far (p := ⟨D1, _, none⟩) D0.out _).trans (((cell_far (p := ⟨D1, _, none⟩) D0.out _).trans (((cell_far (p := ⟨D1, _, none⟩) D0.out _).trans (((cell_far (p := ⟨D1, _, none⟩) D0.out _).trans (hHeld.2.1)))))))))))), ((cell_far (p := ⟨D1, _, none⟩) D0.out _).trans (((cell_far (p := ⟨D1, _, none⟩) D0.out _).trans (((cell_far (p := ⟨D1, _, none⟩) D0.out _).trans (((cell_far (p := ⟨D1, _, none⟩) D0.out _).trans (((cell_far (p := ⟨D1, _, none⟩) D0.out _).trans (((cell_far (p := ⟨D1, _, none⟩) D0.out _).trans (hHeld.2.2.1)))))))))))), ((cell_far (p := ⟨D1, _, none⟩) D0.out _).trans (((cell_far (p := ⟨D1, _, none⟩) D0.out _).trans (((cell_far (p := ⟨D1, _, none⟩) D0.out _).trans (((cell_far (p := ⟨D1, _, none⟩) D0.out _).trans (((cell_far (p := ⟨D1, _, none⟩) D0.out _).trans (((cell_far (p := ⟨D1, _, none⟩) D0.out _).trans (hHeld.2.2.2.1)))))))))))), ((cell_far (p := ⟨D1, _, none⟩) D0.out _).trans (((cell_far (p := ⟨D1, _, none⟩) D0.out _).trans (((cell_far (p := ⟨D1, _, none⟩) D0.out _).trans (((cell_far (p := ⟨D1, _, none⟩) D0.out _).trans (((cell_far (p := ⟨D1, _, none⟩) D0.out _).trans (((cell_far (p := ⟨D1, _, none⟩) D0.out _).trans (hHeld.2.2.2.2.1)))))))))))), ((cell_far (p := ⟨D1, _, none⟩) D0.out _).trans (((cell_far (p := ⟨D1, _, none⟩) D0.out _).trans (((cell_far (p := ⟨D1, _, none⟩) D0.out _).trans (((cell_far (p := ⟨D1, _, none⟩) D0.out _).trans (((cell_far (p := ⟨D1, _, none⟩) D0.out _).trans (((cell_far (p := ⟨D1, _, none⟩) D0.out _).trans (hHeld.2.2.2.2.2))))))))))))⟩ (fun hHeld => ?_)
  clear hK K
  refine done_ (done_of HT_.out (by kernel_rfl)) ?_
  try go_wp2
  refine bodyPost_ret (results_cell_row rfl _ _ D1 34 #[.int .i64 a0_0, .int .i64 a0_1, .int .i64 a0_2, .int .i64 a0_3, .slice De Da.length Dj, .int .i64 a0_5] (0, 0) _ rfl (Cmp.bw D3.out) Tryd.underlying34 rfl (by kernel_rfl)) rfl ?_
  exact ⟨_, by first | rfl | (simp [errW_none, errW_some] <;> rfl) | (simp [*, errW_none, errW_some] <;> rfl), by (with_reducible repeat (first | apply Kd.R_alloc | apply Kd.R_drewN | apply Kd.R_drew)); exact Kd.R_mono (Kd.R_far (p := ⟨D1, 5, none⟩) (Kd.R_far (p := ⟨D1, 4, none⟩) (Kd.R_far (p := ⟨D1, 3, none⟩) (Kd.R_far (p := ⟨D1, 2, none⟩) (Kd.R_far (p := ⟨D1, 1, none⟩) (Kd.R_far (p := ⟨D1, 0, none⟩) (Kd.R_types D8.out D3.out (by decide)) (fun _ hk => hk.2) (.int .i64 a0_0)) (fun _ hk => hk.2) (.int .i64 a0_1)) (fun _ hk => hk.2) (.int .i64 a0_2)) (fun _ hk => hk.2) (.int .i64 a0_3)) (fun _ hk => hk.2) (.slice De Da.length Dj)) (fun _ hk => hk.2) (.int .i64 a0_5)) (fun _ hk => trivial), Cmp.g HB.out⟩
 ·rw [if_neg c2] at H; exact absurd H (by simp)
end Go.Proofs.YtpgjecknkmmnhaaDoor.PFnExactOpenTab
