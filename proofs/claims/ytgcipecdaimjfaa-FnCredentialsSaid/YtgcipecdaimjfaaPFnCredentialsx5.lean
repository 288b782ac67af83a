/- Printed functions of the program (by a changed copy of the printer). No condition. -/
import Derived.Test.YtgcipecdaimjfaaCmp
import Derived.Test.YtgcipecdaimjfaaPFnCredentialsx0
import Derived.Test.YtgcipecdaimjfaaPFnCredentialsx2
namespace Go.Proofs.Ytgcipecdaimjfaa.PFnCredentials
open Go.Proofs.Ytgcipecdaimjfaa
open Go.RowKit Go.Proofs.YtgcipecdaimjfaaW.PrintWords Go.Proofs.YtgcipecdaimjfaaW.PrintLast Go.Proofs.YtgcipecdaimjfaaW.PrintMore
attribute [local go_sem] max2_int min2_int max_two min_two max_three min_three max_four min_four   -- for this text's walks alone
set_option linter.unusedVariables false
set_option linter.unusedSimpArgs false

/-! ### spec_l1Once: function 55 -/
def spec_l1Once.f (s0_0 : List Int) (s0_1 : Int) (s0_2 : Int) (a1 : Int) : Option (Bool × Int × Int) := (spec_l1Below.f s0_0 s0_1 s0_2 a1).bind fun bt191 => (some ((bt191.1 == 0), bt191.2.1, bt191.2.2))
set_option maxHeartbeats 8000000 in
set_option maxRecDepth 100000 in
theorem spec_l1Once.calls (g : Nat) (s0_0 : List Int) (s0_1 : Int) (s0_2 : Int) (a1 : Int) (r1 : Bool) (r2 : Int) (r3 : Int) (w0 w : World) (hI : IsS146 w0 w g s0_0 s0_1 s0_2) (hB : Below w0.heap.size w0 w) (h : spec_l1Once.f s0_0 s0_1 s0_2 a1 = some (r1, r2, r3)) :
    Calls Try.prog 55 #[.pointer (some ⟨g, 0, none⟩), .int .i64 a1] w fun e w' => e = .returned (.bool r1) ∧ IsS146 w0 w' g s0_0 r2 r3 ∧ Below w0.heap.size w0 w' ∧ KeepBut w w' g none := by
 have D0 := Aside0.mk hI
 have HK := Aside0.mk (KeepBut.refl w g none)
 have HL := Aside0.mk hB.size; clear hI; have HW0 := Aside0.mk hB.size; have HB := Aside0.mk hB; clear hB
 have H : ((spec_l1Below.f s0_0 s0_1 s0_2 a1).bind fun bt191 => (some ((bt191.1 == 0), bt191.2.1, bt191.2.2))) = some (r1, r2, r3) := h
 clear h; replace H := Option.bind_eq_some_iff.mp H; obtain ⟨⟨D1, D2, D3⟩, D4, H⟩ := H; (try dsimp only at H); have A3 := Aside0.mk D4; clear D4
 simp only [Option.some.injEq, Prod.mk.injEq] at H
 obtain ⟨rfl, rfl, rfl⟩ := H
 go_enter Try.func55, Try.ntmps55
 go_wp2_with (first | ((with_reducible refine gate_callee (f := 106) rfl ?_); refine goesL_ (some 7) rfl rfl Try.func106 (by kernel_rfl) rfl #[.pointer (some ⟨g, 0, none⟩), .int .i64 a1] rfl Cmp.q ?_; (with_reducible refine (spec_l1Below.calls g s0_0 s0_1 s0_2 a1 D1 D2 D3 w0 _ ?side1 ?side2 A3.out).mono ?_); (case side1 => exact IsS146.go D0.out); (case side2 => exact IsS146.bl HB.out); rintro e w4 ⟨rfl, hi, hb, hk⟩; refine ⟨_, rfl, ?_⟩; replace HK := Aside0.mk (KeepBut.trans (Cmp.kk HK.out) hk (.inl rfl)); replace HB := Aside0.mk (hb); replace D0 := Aside0.mk (hi); (try clear hb); (try clear hb2); (try clear hk); (try clear hi)))
 go_ret
 exact ⟨by first | rfl | (simp [errW_none, errW_some] <;> rfl) | (simp [*, errW_none, errW_some] <;> rfl), IsS146.go D0.out, IsS146.bl HB.out, Cmp.kk HK.out⟩

/-! ### spec_l10Store: function 148 -/
def spec_l10Store.f (s0_0 : List Int) (s0_1 : Int) (s0_2 : Int) : Option (Int × Int × Int × Int × Int × Int) := (spec_l1Below.f s0_0 s0_1 s0_2 3).bind fun bt195 => ((spec_l1Below.f s0_0 bt195.2.1 bt195.2.2 20).bind fun bt198 => ((spec_l1Below.f s0_0 bt198.2.1 bt198.2.2 9999).bind fun bt201 => ((spec_l1Below.f s0_0 bt201.2.1 bt201.2.2 50).bind fun bt204 => (some (wrap64 (1 + bt195.1), bt198.1, wrap64 (1 + bt201.1), bt204.1, bt204.2.1, bt204.2.2)))))
set_option maxHeartbeats 8000000 in
set_option maxRecDepth 100000 in
theorem spec_l10Store.calls (g : Nat) (s0_0 : List Int) (s0_1 : Int) (s0_2 : Int) (r1 : Int) (r2 : Int) (r3 : Int) (r4 : Int) (r5 : Int) (r6 : Int) (w0 w : World) (hI : IsS146 w0 w g s0_0 s0_1 s0_2) (hB : Below w0.heap.size w0 w) (h : spec_l10Store.f s0_0 s0_1 s0_2 = some (r1, r2, r3, r4, r5, r6)) :
    Calls Try.prog 148 #[.pointer (some ⟨g, 0, none⟩)] w fun e w' => e = .returned (.agg #[.int .i64 r1, .int .i64 r2, .int .i64 r3, .int .i64 r4]) ∧ IsS146 w0 w' g s0_0 r5 r6 ∧ Below w0.heap.size w0 w' ∧ KeepBut w w' g none := by
 have hu84 := Try.underlying84; have D3 := Aside0.mk hI
 have HK := Aside0.mk (KeepBut.refl w g none)
 have HL := Aside0.mk hB.size; clear hI; have HW0 := Aside0.mk hB.size; have HB := Aside0.mk hB; clear hB
 have H : ((spec_l1Below.f s0_0 s0_1 s0_2 3).bind fun bt195 => ((spec_l1Below.f s0_0 bt195.2.1 bt195.2.2 20).bind fun bt198 => ((spec_l1Below.f s0_0 bt198.2.1 bt198.2.2 9999).bind fun bt201 => ((spec_l1Below.f s0_0 bt201.2.1 bt201.2.2 50).bind fun bt204 => (some (wrap64 (1 + bt195.1), bt198.1, wrap64 (1 + bt201.1), bt204.1, bt204.2.1, bt204.2.2)))))) = some (r1, r2, r3, r4, r5, r6) := h
 clear h; replace H := Option.bind_eq_some_iff.mp H; obtain ⟨⟨D5, D6, D7⟩, Dp, H⟩ := H; (try dsimp only at H); have A2 := Aside0.mk Dp; clear Dp; replace H := Option.bind_eq_some_iff.mp H; obtain ⟨⟨D8, D9, Da⟩, Dq, H⟩ := H; (try dsimp only at H); have A3 := Aside0.mk Dq; clear Dq; replace H := Option.bind_eq_some_iff.mp H; obtain ⟨⟨Db, Dc, Dd⟩, Dr, H⟩ := H; (try dsimp only at H); have A4 := Aside0.mk Dr; clear Dr; replace H := Option.bind_eq_some_iff.mp H; obtain ⟨⟨De, Dn, Do⟩, Ds, H⟩ := H; (try dsimp only at H); have A5 := Aside0.mk Ds; clear Ds
 simp only [Option.some.injEq, Prod.mk.injEq] at H
 obtain ⟨rfl, rfl, rfl, rfl, rfl, rfl⟩ := H
 go_enter Try.func148, Try.ntmps148
 go_wp2_with (first | ((with_reducible refine gate_dst (N := 2) rfl ?_); refine box_event ?hg (N := 2) ?hd (cs := #[.int .i64 0, .int .i64 0, .int .i64 0, .int .i64 0]) (t := 84) ?hr ?_; (case hd => rfl); (case hg => rfl); (case hr => first | (go_simp; done) | (go_simp; rfl)); intro D1 hg w6 hbox hb; have D0 := Aside0.mk (hbox); have Du := Aside0.mk ((by rw [hg]; exact (keep_size (w := w) (g := g) (row := none) (Cmp.kk HK.out)) : w.heap.size ≤ D1)); have Dt := Aside0.mk ((Nat.le_trans HW0.out (by rw [hg]; exact (keep_size (w := w) (g := g) (row := none) (Cmp.kk HK.out)) : w.heap.size ≤ D1) : w0.heap.size ≤ D1)); have D4 := Aside0.mk ((by rw [hg]; exact Nat.ne_of_lt (IsS146.lt (show IsS146 w0 _ g s0_0 s0_1 s0_2 from IsS146.go D3.out)) : g ≠ D1)); have D2 := Aside0.mk ((by rw [hg]; exact Nat.ne_of_gt (IsS146.lt (show IsS146 w0 _ g s0_0 s0_1 s0_2 from IsS146.go D3.out)) : D1 ≠ g)); replace HK := Aside0.mk (KeepBut.trans (Cmp.kk HK.out) (KeepBut.of_below hb g none) (.inl rfl)); replace HB := Aside0.mk (below_step (IsS146.bl HB.out) hb); replace D3 := Aside0.mk (IsS146.below (IsS146.go D3.out) hb); clear hb hbox hg) | ((with_reducible refine gate_callee (f := 106) rfl ?_); refine goesL_ (some 4) rfl rfl Try.func106 (by kernel_rfl) rfl #[.pointer (some ⟨g, 0, none⟩), .int .i64 3] rfl Cmp.q ?_; (with_reducible refine (spec_l1Below.calls g s0_0 s0_1 s0_2 3 D5 D6 D7 w0 _ ?side1 ?side2 A2.out).mono ?_); (case side1 => exact IsS146.go D3.out); (case side2 => exact IsS146.bl HB.out); rintro e w7 ⟨rfl, hi, hb, hk⟩; refine ⟨_, rfl, ?_⟩; replace D0 := Aside0.mk (KeepBut.blk hk (g' := D1) (o := .cells #[.int .i64 0, .int .i64 0, .int .i64 0, .int .i64 0] 84 (0, 0)) (Cmp.b D0.out) D2.out (by simp)); replace HK := Aside0.mk (KeepBut.trans (Cmp.kk HK.out) hk (.inl rfl)); replace HB := Aside0.mk (hb); replace D3 := Aside0.mk (hi); (try clear hb); (try clear hb2); (try clear hk); (try clear hi)) | ((with_reducible refine gate_callee (f := 106) rfl ?_); refine goesL_ (some 7) rfl rfl Try.func106 (by kernel_rfl) rfl #[.pointer (some ⟨g, 0, none⟩), .int .i64 20] rfl Cmp.q ?_; (with_reducible refine (spec_l1Below.calls g s0_0 D6 D7 20 D8 D9 Da w0 _ ?side1 ?side2 A3.out).mono ?_); (case side1 => exact IsS146.go D3.out); (case side2 => exact IsS146.bl HB.out); rintro e w8 ⟨rfl, hi, hb, hk⟩; refine ⟨_, rfl, ?_⟩; replace D0 := Aside0.mk (KeepBut.blk hk (g' := D1) (o := .cells #[.int .i64 0, .int .i64 0, .int .i64 0, .int .i64 0] 84 (0, 0)) (Cmp.b D0.out) D2.out (by simp)); replace HK := Aside0.mk (KeepBut.trans (Cmp.kk HK.out) hk (.inl rfl)); replace HB := Aside0.mk (hb); replace D3 := Aside0.mk (hi); (try clear hb); (try clear hb2); (try clear hk); (try clear hi)) | ((with_reducible refine gate_callee (f := 106) rfl ?_); refine goesL_ (some 9) rfl rfl Try.func106 (by kernel_rfl) rfl #[.pointer (some ⟨g, 0, none⟩), .int .i64 9999] rfl Cmp.q ?_; (with_reducible refine (spec_l1Below.calls g s0_0 D9 Da 9999 Db Dc Dd w0 _ ?side1 ?side2 A4.out).mono ?_); (case side1 => exact IsS146.go D3.out); (case side2 => exact IsS146.bl HB.out); rintro e w9 ⟨rfl, hi, hb, hk⟩; refine ⟨_, rfl, ?_⟩; replace D0 := Aside0.mk (KeepBut.blk hk (g' := D1) (o := .cells #[.int .i64 0, .int .i64 0, .int .i64 0, .int .i64 0] 84 (0, 0)) (Cmp.b D0.out) D2.out (by simp)); replace HK := Aside0.mk (KeepBut.trans (Cmp.kk HK.out) hk (.inl rfl)); replace HB := Aside0.mk (hb); replace D3 := Aside0.mk (hi); (try clear hb); (try clear hb2); (try clear hk); (try clear hi)) | ((with_reducible refine gate_callee (f := 106) rfl ?_); refine goesL_ (some 12) rfl rfl Try.func106 (by kernel_rfl) rfl #[.pointer (some ⟨g, 0, none⟩), .int .i64 50] rfl Cmp.q ?_; (with_reducible refine (spec_l1Below.calls g s0_0 Dc Dd 50 De Dn Do w0 _ ?side1 ?side2 A5.out).mono ?_); (case side1 => exact IsS146.go D3.out); (case side2 => exact IsS146.bl HB.out); rintro e w10 ⟨rfl, hi, hb, hk⟩; refine ⟨_, rfl, ?_⟩; replace D0 := Aside0.mk (KeepBut.blk hk (g' := D1) (o := .cells #[.int .i64 0, .int .i64 0, .int .i64 0, .int .i64 0] 84 (0, 0)) (Cmp.b D0.out) D2.out (by simp)); replace HK := Aside0.mk (KeepBut.trans (Cmp.kk HK.out) hk (.inl rfl)); replace HB := Aside0.mk (hb); replace D3 := Aside0.mk (hi); (try clear hb); (try clear hb2); (try clear hk); (try clear hi); have Dv := D2.out; have Dw := D4.out; have Df := Cmp.c0 D0; have Dg := Cmp.c1 D0; have Dh := Cmp.c2 D0; have Di := Cmp.c3 D0; have Dj := blk_frozen D0.out 0; have Dk := blk_frozen D0.out 1; have Dl := blk_frozen D0.out 2; have Dm := blk_frozen D0.out 3))
 refine bodyPost_ret (results_cell_row rfl _ _ D1 84 #[.int .i64 (wrap64 (1 + D5)), .int .i64 D8, .int .i64 (wrap64 (1 + Db)), .int .i64 De] (0, 0) _ rfl (Cmp.bw D0.out) Try.underlying84 rfl (by kernel_rfl)) rfl ?_
 exact ⟨by first | rfl | (simp [errW_none, errW_some] <;> rfl) | (simp [*, errW_none, errW_some] <;> rfl), IsS146.go D3.out, IsS146.bl HB.out, Cmp.kk HK.out⟩

/-! ### spec_Mod: function 169 -/
def spec_Mod.f (a0 : Int) (a1 : Int) : Option (Int) := (spec_l1In.f a1 1 1000000000000).bind fun t207 => (if t207 = true then (if a1 = 0 then (none) else (some (Int.tmod (wrap64 ((Int.tmod a0 a1) + a1)) a1))) else (some 0))
set_option maxHeartbeats 8000000 in
set_option maxRecDepth 100000 in
theorem spec_Mod.calls (a0 : Int) (a1 : Int) (r : Int) (w : World) (h : spec_Mod.f a0 a1 = some r) :
    Calls Try.prog 169 #[.int .i64 a0, .int .i64 a1] w fun e w' => e = .returned (.int .i64 r) ∧ Drawn0 w w' := by
 have H : ((spec_l1In.f a1 1 1000000000000).bind fun D0 => (if D0 = true then (if a1 = 0 then (none) else (some (Int.tmod (wrap64 ((Int.tmod a0 a1) + a1)) a1))) else (some 0))) = some r := h
 clear h; replace H := Option.bind_eq_some_iff.mp H; obtain ⟨D0, D1, H⟩ := H; (try dsimp only at H); have A3 := Aside0.mk D1; clear D1
 by_cases c4 : D0 = true
 ·subst c4; rw [if_pos rfl] at H
  by_cases c5 : a1 = 0
  ·rw [if_pos c5] at H; exact absurd H (by simp)
  ·rw [if_neg c5] at H; have c5b0 : (a1 == 0) = false := beq_eq_false_iff_ne.mpr c5; have c5b1 : (a1 != 0) = true := bne_iff_ne.mpr c5
   obtain rfl := Option.some.inj H
   go_enter Try.func169, Try.ntmps169
   go_wp2_with (first | ((with_reducible refine gate_callee (f := 62) rfl ?_); refine goesL_ (some 6) rfl rfl Try.func62 (by kernel_rfl) rfl #[.int .i64 a1, .int .i64 1, .int .i64 1000000000000] rfl Cmp.q ?_; (with_reducible refine (spec_l1In.calls a1 1 1000000000000 true _ A3.out).mono ?_); rintro e w' ⟨rfl, ⟨nd, rfl⟩⟩; refine ⟨_, rfl, ?_⟩))
   go_ret
   exact ⟨by first | rfl | (simp; done) | (simp [*]; done), by repeat (first | exact Drawn0.refl _ | apply Drawn0.step)⟩
 ·replace c4 := Bool.eq_false_iff.mpr c4
  subst c4
  have H1 : (some 0) = some r := by rw [if_neg (show ¬ (false = true) by decide)] at H; exact H
  clear H; have H := H1; clear H1
  obtain rfl := Option.some.inj H
  go_enter Try.func169, Try.ntmps169
  go_wp2_with (first | ((with_reducible refine gate_callee (f := 62) rfl ?_); refine goesL_ (some 6) rfl rfl Try.func62 (by kernel_rfl) rfl #[.int .i64 a1, .int .i64 1, .int .i64 1000000000000] rfl Cmp.q ?_; (with_reducible refine (spec_l1In.calls a1 1 1000000000000 false _ A3.out).mono ?_); rintro e w' ⟨rfl, ⟨nd, rfl⟩⟩; refine ⟨_, rfl, ?_⟩))
  go_ret
  exact ⟨by first | rfl | (simp; done) | (simp [*]; done), by repeat (first | exact Drawn0.refl _ | apply Drawn0.step)⟩

/-! ### spec_Hash: function 154 -/
def spec_Hash.l0 : Nat → List Int → Int → Int → Option (Int)
  | 0, _, _, _ => none
  | k + 1, x0, x3, x4 => if x4 < (x0.length : Int) then (if 0 ≤ x4 then ((spec_Mod.f (rd x0 x4) 2147483647).bind fun t209 => (spec_Hash.l0 k x0 (Int.tmod (wrap64 ((wrap64 ((wrap64 (x3 * 1000003)) + t209)) + 13)) 2147483647) (wrap64 (x4 + 1)))) else (none)) else (some x3)
def spec_Hash.f (k : Nat) (l0 : List Int) : Option (Int) := spec_Hash.l0 k l0 11 0
theorem spec_Hash.mono_l : ∀ k, (∀ y0 y1 y2, LeO (spec_Hash.l0 k y0 y1 y2) (spec_Hash.l0 (k + 1) y0 y1 y2))
  | 0 => fun _ _ _ r h => by simp [spec_Hash.l0] at h
  | k + 1 => by
    have ih0 := spec_Hash.mono_l k
    · intro y0 y1 y2
      unfold spec_Hash.l0
      repeat' first
      | (with_reducible exact ih0 _ _ _)
      | (with_reducible exact LeO.refl _)
      | (with_reducible exact LeO.none _)
      | (with_reducible refine LeO.ite ?_ ?_)
      | (with_reducible refine LeO.bind ?_ (fun _ => ?_))
      | exact ih0 _ _ _
      | exact LeO.none _
      | refine LeO.ite ?_ ?_
      | refine LeO.bind ?_ (fun _ => ?_)
theorem spec_Hash.mono : ∀ a0 k, LeO (spec_Hash.f k a0) (spec_Hash.f (k + 1) a0) := by
  intro a0 k
  have ih0 := spec_Hash.mono_l k
  unfold spec_Hash.f
  repeat' first
      | (with_reducible exact ih0 _ _ _)
      | (with_reducible exact LeO.refl _)
      | (with_reducible exact LeO.none _)
      | (with_reducible refine LeO.ite ?_ ?_)
      | (with_reducible refine LeO.bind ?_ (fun _ => ?_))
      | exact ih0 _ _ _
      | exact LeO.none _
      | refine LeO.ite ?_ ?_
      | refine LeO.bind ?_ (fun _ => ?_)
set_option maxHeartbeats 8000000 in
set_option maxRecDepth 100000 in
theorem spec_Hash.calls (k : Nat) (A0 : Option Addr) (c0 : Nat) (l0 : List Int) (r : Int) (w : World) (hr0 : Kd.C (Kd.int .i64) w A0 l0.length l0) (hc0 : l0.length ≤ c0) (h : spec_Hash.f k l0 = some r) :
    Calls Try.prog 154 #[.slice A0 l0.length c0] w fun e w' => e = .returned (.int .i64 r) ∧ Drawn0 w w' := by
 have HR0 := Aside0.mk hr0; have HC0 := Aside0.mk hc0; clear hr0 hc0
 have H : (spec_Hash.l0 k l0 11 0) = some r := h
 clear h
 have H' := Aside0.mk H
 clear H
 go_enter Try.func154, Try.ntmps154
 go_wp2
 go_loopg [3, 4] k (fun kq v3 v4 w' => ∃ (D1 : Int) (D0 : Int), v3 = .int .i64 D1 ∧ v4 = .int .i64 D0 ∧ Aside0 (spec_Hash.l0 kq l0 D1 D0 = some r) ∧ Aside0 (kq ≤ k) ∧ Drawn0 w w')
 case atStart => exact ⟨(11), (0), (by first | rfl | simp | simp [*]), (by first | rfl | simp | simp [*]), H', ⟨Nat.le_refl _⟩, by repeat (first | exact Drawn0.refl _ | apply Drawn0.step)⟩
 case round =>
  clear H'
  (try clear c1)
  obtain ⟨D1, D0, rfl, rfl, HA, HK1, ⟨m1, rfl⟩⟩ := hrel
  cases gk with
  | zero => exact absurd HA.out (by simp [spec_Hash.l0])
  | succ k1 =>
   have H := HA.out; clear HA
   simp only [spec_Hash.l0] at H
   by_cases c2 : D0 < (l0.length : Int)
   ·rw [if_pos c2] at H
    have c2b0 : decide (D0 < (l0.length : Int)) = true := decide_eq_true c2
    clear c2
    by_cases c3 : 0 ≤ D0
    ·rw [if_pos c3] at H; have c3b0 : decide (0 ≤ D0) = true := decide_eq_true c3; clear c3; replace H := Option.bind_eq_some_iff.mp H; obtain ⟨D2, D4, H⟩ := H; (try dsimp only at H); have A4 := Aside0.mk D4; clear D4
     have H' := Aside0.mk H
     clear H
     have p208 : 0 ≤ (D0 : Int) := of_decide_eq_true Cmp.d
     have q208 : D0 < (l0.length : Int) := of_decide_eq_true Cmp.d
     obtain ⟨D5, e208, D3⟩ := Kd.at_int HR0.out D0 p208 q208
     cases e208; replace p208 := eq_true p208; replace q208 := eq_true q208
     go_wp2_with (first | ((with_reducible refine gate_callee (f := 169) rfl ?_); refine goesL_ (some 17) rfl rfl Try.func169 (by kernel_rfl) rfl #[.int .i64 (rd l0 D0), .int .i64 2147483647] rfl Cmp.q ?_; (with_reducible refine (spec_Mod.calls (rd l0 D0) 2147483647 D2 _ A4.out).mono ?_); rintro e w' ⟨rfl, ⟨nd, rfl⟩⟩; refine ⟨_, rfl, ?_⟩))
     go_roundg k1
     case measure => have := HK1.out; omega
     case rel => exact ⟨(Int.tmod (wrap64 ((wrap64 ((wrap64 (D1 * 1000003)) + D2)) + 13)) 2147483647), (wrap64 (D0 + 1)), (by first | rfl | simp | simp [*]), (by first | rfl | simp | simp [*]), H', ⟨by have := HK1.out; omega⟩, by repeat (first | exact Drawn0.refl _ | apply Drawn0.step)⟩
    ·rw [if_neg c3] at H; exact absurd H (by simp)
   ·rw [if_neg c2] at H
    have c2b0 : decide (D0 < (l0.length : Int)) = false := decide_eq_false c2
    clear c2
    obtain rfl := Option.some.inj H
    go_wp2
    go_ret
    exact ⟨by first | rfl | (simp; done) | (simp [*]; done), by repeat (first | exact Drawn0.refl _ | apply Drawn0.step)⟩

/-! ### spec_KeyedHash: function 130 -/
def spec_KeyedHash.f (k : Nat) (a0 : Int) (l1 : List Int) : Option (Int) := (some (([a0] : List Int) : List Int)).bind fun y210 => (if y210.length + l1.length < 17592186044416 then ((some (y210 ++ l1 : List Int)).bind fun y213 => (if y213.length < 17592186044416 then ((spec_Hash.f k (y213 ++ [a0])).bind fun t219 => (some t219)) else (none))) else (none))
theorem spec_KeyedHash.mono : ∀ a0 a1 k, LeO (spec_KeyedHash.f k a0 a1) (spec_KeyedHash.f (k + 1) a0 a1) := by
  intro a0 a1 k
  unfold spec_KeyedHash.f
  repeat' first
      | (with_reducible exact spec_Hash.mono _ _)
      | (with_reducible exact LeO.refl _)
      | (with_reducible exact LeO.none _)
      | (with_reducible refine LeO.ite ?_ ?_)
      | (with_reducible refine LeO.bind ?_ (fun _ => ?_))
      | exact spec_Hash.mono _ _
      | exact LeO.none _
      | refine LeO.ite ?_ ?_
      | refine LeO.bind ?_ (fun _ => ?_)
set_option maxHeartbeats 8000000 in
set_option maxRecDepth 100000 in
theorem spec_KeyedHash.calls (k : Nat) (a0 : Int) (A1 : Option Addr) (c1 : Nat) (l1 : List Int) (r : Int) (w : World) (hr1 : Kd.C (Kd.int .i64) w A1 l1.length l1) (hc1 : l1.length ≤ c1) (h : spec_KeyedHash.f k a0 l1 = some r) :
    Calls Try.prog 130 #[.int .i64 a0, .slice A1 l1.length c1] w fun e w' => e = .returned (.int .i64 r) ∧ Below w.heap.size w w' := by
 have HR1 := Aside0.mk hr1; have HC1 := Aside0.mk hc1; clear hr1 hc1
 have HB := Aside0.mk (Below.refl w.heap.size w)
 have H : ((some (([a0] : List Int) : List Int)).bind fun D2 => (if D2.length + l1.length < 17592186044416 then ((some (D2 ++ l1 : List Int)).bind fun D0 => (if D0.length < 17592186044416 then ((spec_Hash.f k (D0 ++ [a0])).bind fun D1 => (some D1)) else (none))) else (none))) = some r := h
 clear h
 obtain ⟨D2, hy210⟩ : ∃ y_ : List Int, y_ = (([a0] : List Int)) := ⟨_, rfl⟩
 replace H : (if D2.length + l1.length < 17592186044416 then ((some (D2 ++ l1 : List Int)).bind fun D0 => (if D0.length < 17592186044416 then ((spec_Hash.f k (D0 ++ [a0])).bind fun D1 => (some D1)) else (none))) else (none)) = some r := by first | (rw [hy210]; with_reducible exact H) | (have H2_ := (Option.bind_some _ _).symm.trans H; rw [hy210]; with_reducible exact H2_) | (have H2_ := (Option.bind_some _ _).symm.trans H; with_reducible exact H2_) | with_reducible exact H | (rw [hy210]; exact H) | exact H
 have D6 := Aside0.mk hy210; clear hy210
 by_cases c3 : D2.length + l1.length < 17592186044416
 ·rw [if_pos c3] at H; have LMc3 := Aside0.mk c3; clear c3
  obtain ⟨D0, hy213⟩ : ∃ y_ : List Int, y_ = (D2 ++ l1) := ⟨_, rfl⟩
  replace H : (if D0.length < 17592186044416 then ((spec_Hash.f k (D0 ++ [a0])).bind fun D1 => (some D1)) else (none)) = some r := by first | (rw [hy213]; with_reducible exact H) | (have H2_ := (Option.bind_some _ _).symm.trans H; rw [hy213]; with_reducible exact H2_) | (have H2_ := (Option.bind_some _ _).symm.trans H; with_reducible exact H2_) | with_reducible exact H | (rw [hy213]; exact H) | exact H
  have D8 := Aside0.mk hy213; clear hy213
  by_cases c4 : D0.length < 17592186044416
  ·rw [if_pos c4] at H; have LMc4 := Aside0.mk c4; clear c4
   obtain ⟨D7, hy216⟩ : ∃ y_ : List Int, y_ = (D0 ++ [a0]) := ⟨_, rfl⟩
   replace H : ((spec_Hash.f k D7).bind fun D1 => (some D1)) = some r := by first | (rw [hy216]; with_reducible exact H) | (have H2_ := (Option.bind_some _ _).symm.trans H; rw [hy216]; with_reducible exact H2_) | (have H2_ := (Option.bind_some _ _).symm.trans H; with_reducible exact H2_) | with_reducible exact H | (rw [hy216]; exact H) | exact H
   have D9 := Aside0.mk hy216; clear hy216; replace H := Option.bind_eq_some_iff.mp H; obtain ⟨D1, De, H⟩ := H; (try dsimp only at H); have A5 := Aside0.mk De; clear De
   obtain rfl := Option.some.inj H
   go_enter Try.func130, Try.ntmps130
   go_wp2_with (first | ((with_reducible refine gate_dst (N := 6) rfl ?_); refine Kd.R_lit (Kd.int .i64) _ 3 ?hg (N := 6) ?hd (xs := ([a0] : List Int)) (inner := [.int .i64 a0]) (ok := fun _ => True) (okp := fun _ => True) ?hr ?hp (fun _ hk => hk) trivial (Below.refl _ _) (Nat.le_refl _) (by simp) ?_; (case hd => rfl); (case hg => rfl); (case hr => first | (go_simp; done) | (go_simp; rfl)); (case hp => exact (Reps.one (show Kd.M (Kd.int .i64) _ _ _ a0 [.int .i64 a0] from rfl) (Reps.none _ _))); intro v211 w6 Da hb hg_ hnew_; clear hg_ hnew_; (first | rw [← D6.out] at Da | (simp only [Int.reduceToNat] at Da; rw [← D6.out] at Da)); have D4 := Aside0.mk (Kd.R_lower Da (below_size (Cmp.g HB.out))); replace HB := Cmp.bs HB hb; clear hb Da) | ((with_reducible refine gate_builtin (b := .append) (xs := #[.tmp 6, .tmp 7]) rfl ?_); at_builtin; refine Kd.R_append_rows (Kd.int .i64) (w0 := w) w.heap.size rfl (.tmp 6) (.tmp 7) 48 3 (.int .i64 0) 8 rfl Try.underlying48 info3 rfl (by decide) (by omega) v211 D2 l1 _ _ _ (fun _ => True) (fun _ => False) rfl rfl ?aO ?aR (fun _ _ h => h) (fun _ h => h.elim) ?aF ?aB ?aS ?aL ?_; (case aR => repeat (first | exact (Kd.C_below HR1.out HB.out) | (with_reducible refine Kd.C_alloc ?_ _) | (with_reducible refine Kd.C_drewN ?_ _) | (with_reducible refine Kd.C_drew ?_))); (case aB => exact (Cmp.g HB.out)); (case aF => exact (fun _ _ => trivial)); (case aO => exact (Cmp.rr D4.out)); (case aS => exact (below_size (Cmp.g HB.out))); (case aL => have := LMc3.out; omega); intro v214 w8 ho hb hg hat; rw [← D8.out] at ho; have D5 := Aside0.mk (ho); replace HB := Aside0.mk (hb); clear D4; clear ho hb hg hat) | ((with_reducible refine gate_builtin (b := .append) (xs := #[.tmp 8, .tmp 10]) rfl ?_); at_builtin; refine Kd.R_append (Kd.int .i64) (w0 := w) w.heap.size rfl (.tmp 8) (.tmp 10) 48 3 (.int .i64 0) 8 rfl Try.underlying48 info3 rfl (by decide) (by omega) v214 D0 a0 [.int .i64 a0] (fun _ => True) (fun _ => False) rfl rfl ?aP (fun _ hk => hk.elim) ?aF ?aO ?aB ?aS ?aL ?_; (case aP => exact rfl); (case aB => exact (Cmp.g HB.out)); (case aF => exact (fun _ _ => trivial)); (case aO => exact (Cmp.rr D5.out)); (case aS => exact (below_size (Cmp.g HB.out))); (case aL => have := LMc4.out; omega); intro v217 w9 ho hb hg hat; rw [← D9.out] at ho; have D3 := Aside0.mk (ho); replace HB := Aside0.mk (hb); clear D5; clear ho hb hg hat; obtain ⟨Db, Dc, Dd⟩ := Kd.R_slice D3.out; subst Dd) | ((with_reducible refine gate_callee (f := 154) rfl ?_); refine goesL_ (some 12) rfl rfl Try.func154 (by kernel_rfl) rfl #[.slice Db D7.length Dc] rfl Cmp.q ?_; (with_reducible refine (spec_Hash.calls k _ _ D7 D1 _ ?side1 ?side2 A5.out).mono ?_); (case side1 => exact Cmp.rc (Kd.R_reads' D3.out).2.2); (case side2 => exact (Kd.R_reads' D3.out).2.1); rintro e w' ⟨rfl, ⟨nd, rfl⟩⟩; refine ⟨_, rfl, ?_⟩))
   go_ret
   exact ⟨by first | rfl | (simp [errW_none, errW_some] <;> rfl) | (simp [*, errW_none, errW_some] <;> rfl), Cmp.g HB.out⟩
  ·rw [if_neg c4] at H; exact absurd H (by simp)
 ·rw [if_neg c3] at H; exact absurd H (by simp)

/-! ### spec_Max: function 160 -/
def spec_Max.f (a0 : Int) (a1 : Int) : Option (Int) := if a1 > a0 then (some a1) else (some a0)
set_option maxHeartbeats 8000000 in
set_option maxRecDepth 100000 in
theorem spec_Max.calls (a0 : Int) (a1 : Int) (r : Int) (w : World) (h : spec_Max.f a0 a1 = some r) :
    Calls Try.prog 160 #[.int .i64 a0, .int .i64 a1] w fun e w' => e = .returned (.int .i64 r) ∧ Drawn0 w w' := by
 have H : (if a1 > a0 then (some a1) else (some a0)) = some r := h
 clear h
 by_cases c3 : a1 > a0
 ·rw [if_pos c3] at H; have c3b0 : decide (a0 < a1) = true := decide_eq_true c3; clear c3
  obtain rfl := Option.some.inj H
  go_enter Try.func160, Try.ntmps160
  go_wp2
  go_ret
  exact ⟨by first | rfl | (simp; done) | (simp [*]; done), by repeat (first | exact Drawn0.refl _ | apply Drawn0.step)⟩
 ·rw [if_neg c3] at H; have c3b0 : decide (a0 < a1) = false := decide_eq_false c3; clear c3
  obtain rfl := Option.some.inj H
  go_enter Try.func160, Try.ntmps160
  go_wp2
  go_ret
  exact ⟨by first | rfl | (simp; done) | (simp [*]; done), by repeat (first | exact Drawn0.refl _ | apply Drawn0.step)⟩

/-! ### spec_DeriveKey: function 131 -/
def spec_DeriveKey.f (k : Nat) (a0 : Int) (l1 : List Int) : Option (Int) := (some (([151] : List Int) : List Int)).bind fun y220 => (if y220.length + l1.length < 17592186044416 then ((spec_KeyedHash.f k a0 (y220 ++ l1)).bind fun t226 => ((spec_Max.f 1 t226).bind fun t227 => (some t227))) else (none))
theorem spec_DeriveKey.mono : ∀ a0 a1 k, LeO (spec_DeriveKey.f k a0 a1) (spec_DeriveKey.f (k + 1) a0 a1) := by
  intro a0 a1 k
  unfold spec_DeriveKey.f
  repeat' first
      | (with_reducible exact spec_KeyedHash.mono _ _ _)
      | (with_reducible exact LeO.refl _)
      | (with_reducible exact LeO.none _)
      | (with_reducible refine LeO.ite ?_ ?_)
      | (with_reducible refine LeO.bind ?_ (fun _ => ?_))
      | exact spec_KeyedHash.mono _ _ _
      | exact LeO.none _
      | refine LeO.ite ?_ ?_
      | refine LeO.bind ?_ (fun _ => ?_)
set_option maxHeartbeats 8000000 in
set_option maxRecDepth 100000 in
theorem spec_DeriveKey.calls (k : Nat) (a0 : Int) (A1 : Option Addr) (c1 : Nat) (l1 : List Int) (r : Int) (w : World) (hr1 : Kd.C (Kd.int .i64) w A1 l1.length l1) (hc1 : l1.length ≤ c1) (h : spec_DeriveKey.f k a0 l1 = some r) :
    Calls Try.prog 131 #[.int .i64 a0, .slice A1 l1.length c1] w fun e w' => e = .returned (.int .i64 r) ∧ Below w.heap.size w w' := by
 have HR1 := Aside0.mk hr1; have HC1 := Aside0.mk hc1; clear hr1 hc1
 have HB := Aside0.mk (Below.refl w.heap.size w)
 have H : ((some (([151] : List Int) : List Int)).bind fun D2 => (if D2.length + l1.length < 17592186044416 then ((spec_KeyedHash.f k a0 (D2 ++ l1)).bind fun D0 => ((spec_Max.f 1 D0).bind fun D3 => (some D3))) else (none))) = some r := h
 clear h
 obtain ⟨D2, hy220⟩ : ∃ y_ : List Int, y_ = (([151] : List Int)) := ⟨_, rfl⟩
 replace H : (if D2.length + l1.length < 17592186044416 then ((spec_KeyedHash.f k a0 (D2 ++ l1)).bind fun D0 => ((spec_Max.f 1 D0).bind fun D3 => (some D3))) else (none)) = some r := by first | (rw [hy220]; with_reducible exact H) | (have H2_ := (Option.bind_some _ _).symm.trans H; rw [hy220]; with_reducible exact H2_) | (have H2_ := (Option.bind_some _ _).symm.trans H; with_reducible exact H2_) | with_reducible exact H | (rw [hy220]; exact H) | exact H
 have D5 := Aside0.mk hy220; clear hy220
 by_cases c3 : D2.length + l1.length < 17592186044416
 ·rw [if_pos c3] at H; have LMc3 := Aside0.mk c3; clear c3
  obtain ⟨D6, hy223⟩ : ∃ y_ : List Int, y_ = (D2 ++ l1) := ⟨_, rfl⟩
  replace H : ((spec_KeyedHash.f k a0 D6).bind fun D0 => ((spec_Max.f 1 D0).bind fun D3 => (some D3))) = some r := by first | (rw [hy223]; with_reducible exact H) | (have H2_ := (Option.bind_some _ _).symm.trans H; rw [hy223]; with_reducible exact H2_) | (have H2_ := (Option.bind_some _ _).symm.trans H; with_reducible exact H2_) | with_reducible exact H | (rw [hy223]; exact H) | exact H
  have D7 := Aside0.mk hy223; clear hy223; replace H := Option.bind_eq_some_iff.mp H; obtain ⟨D0, D9, H⟩ := H; (try dsimp only at H); have A4 := Aside0.mk D9; clear D9; replace H := Option.bind_eq_some_iff.mp H; obtain ⟨D3, Da, H⟩ := H; (try dsimp only at H); have A5 := Aside0.mk Da; clear Da
  obtain rfl := Option.some.inj H
  go_enter Try.func131, Try.ntmps131
  go_wp2_with (first | ((with_reducible refine gate_dst (N := 6) rfl ?_); refine Kd.R_lit (Kd.int .i64) _ 3 ?hg (N := 6) ?hd (xs := ([151] : List Int)) (inner := [.int .i64 151]) (ok := fun _ => True) (okp := fun _ => True) ?hr ?hp (fun _ hk => hk) trivial (Below.refl _ _) (Nat.le_refl _) (by simp) ?_; (case hd => rfl); (case hg => rfl); (case hr => first | (go_simp; done) | (go_simp; rfl)); (case hp => exact (Reps.one (show Kd.M (Kd.int .i64) _ _ _ 151 [.int .i64 151] from rfl) (Reps.none _ _))); intro v221 w6 D8 hb hg_ hnew_; clear hg_ hnew_; (first | rw [← D5.out] at D8 | (simp only [Int.reduceToNat] at D8; rw [← D5.out] at D8)); have D4 := Aside0.mk (Kd.R_lower D8 (below_size (Cmp.g HB.out))); replace HB := Cmp.bs HB hb; clear hb D8) | ((with_reducible refine gate_builtin (b := .append) (xs := #[.tmp 6, .tmp 7]) rfl ?_); at_builtin; refine Kd.R_append_rows (Kd.int .i64) (w0 := w) w.heap.size rfl (.tmp 6) (.tmp 7) 48 3 (.int .i64 0) 8 rfl Try.underlying48 info3 rfl (by decide) (by omega) v221 D2 l1 _ _ _ (fun _ => True) (fun _ => False) rfl rfl ?aO ?aR (fun _ _ h => h) (fun _ h => h.elim) ?aF ?aB ?aS ?aL ?_; (case aR => repeat (first | exact (Kd.C_below HR1.out HB.out) | (with_reducible refine Kd.C_alloc ?_ _) | (with_reducible refine Kd.C_drewN ?_ _) | (with_reducible refine Kd.C_drew ?_))); (case aB => exact (Cmp.g HB.out)); (case aF => exact (fun _ _ => trivial)); (case aO => exact (Cmp.rr D4.out)); (case aS => exact (below_size (Cmp.g HB.out))); (case aL => have := LMc3.out; omega); intro v224 w8 ho hb hg hat; rw [← D7.out] at ho; have D1 := Aside0.mk (ho); replace HB := Aside0.mk (hb); clear D4; clear ho hb hg hat; obtain ⟨Db, Dc, Dd⟩ := Kd.R_slice D1.out; subst Dd) | ((with_reducible refine gate_callee (f := 130) rfl ?_); refine goesL_ (some 9) rfl rfl Try.func130 (by kernel_rfl) rfl #[.int .i64 a0, .slice Db D6.length Dc] rfl Cmp.q ?_; (with_reducible refine (spec_KeyedHash.calls k a0 _ _ D6 D0 _ ?side1 ?side2 A4.out).mono ?_); (case side1 => exact Cmp.rc (Kd.R_reads' D1.out).2.2); (case side2 => exact (Kd.R_reads' D1.out).2.1); rintro e w10 ⟨rfl, hb⟩; refine ⟨_, rfl, ?_⟩; replace D1 := Aside0.mk (Kd.R_below (Cmp.rr D1.out) hb); replace HB := Cmp.bs HB hb; (try clear hb); (try clear hb2); (try clear hk); (try clear hi)) | ((with_reducible refine gate_callee (f := 160) rfl ?_); refine goesL_ (some 10) rfl rfl Try.func160 (by kernel_rfl) rfl #[.int .i64 1, .int .i64 D0] rfl Cmp.q ?_; (with_reducible refine (spec_Max.calls 1 D0 D3 _ A5.out).mono ?_); rintro e w' ⟨rfl, ⟨nd, rfl⟩⟩; refine ⟨_, rfl, ?_⟩))
  go_ret
  exact ⟨by first | rfl | (simp [errW_none, errW_some] <;> rfl) | (simp [*, errW_none, errW_some] <;> rfl), Cmp.g HB.out⟩
 ·rw [if_neg c3] at H; exact absurd H (by simp)

/-! ### spec_BytesToInts: function 132 -/
def spec_BytesToInts.l0 : Nat → List Int → List Int → Int → Option (List Int)
  | 0, _, _, _ => none
  | k + 1, x0, x3, x4 => if x4 < (x0.length : Int) then (if 0 ≤ x4 then (if x3.length < 17592186044416 then (spec_BytesToInts.l0 k x0 (x3 ++ [wrap64 (rd x0 x4)]) (wrap64 (x4 + 1))) else (none)) else (none)) else (some x3)
def spec_BytesToInts.f (k : Nat) (l0 : List Int) : Option (List Int) := spec_BytesToInts.l0 k l0 (([(l0.length : Int)] : List Int)) 0
theorem spec_BytesToInts.mono_l : ∀ k, (∀ y0 y1 y2, LeO (spec_BytesToInts.l0 k y0 y1 y2) (spec_BytesToInts.l0 (k + 1) y0 y1 y2))
  | 0 => fun _ _ _ r h => by simp [spec_BytesToInts.l0] at h
  | k + 1 => by
    have ih0 := spec_BytesToInts.mono_l k
    · intro y0 y1 y2
      unfold spec_BytesToInts.l0
      repeat' first
      | (with_reducible exact ih0 _ _ _)
      | (with_reducible exact LeO.refl _)
      | (with_reducible exact LeO.none _)
      | (with_reducible refine LeO.ite ?_ ?_)
      | (with_reducible refine LeO.bind ?_ (fun _ => ?_))
      | exact ih0 _ _ _
      | exact LeO.none _
      | refine LeO.ite ?_ ?_
      | refine LeO.bind ?_ (fun _ => ?_)
theorem spec_BytesToInts.mono : ∀ a0 k, LeO (spec_BytesToInts.f k a0) (spec_BytesToInts.f (k + 1) a0) := by
  intro a0 k
  have ih0 := spec_BytesToInts.mono_l k
  unfold spec_BytesToInts.f
  repeat' first
      | (with_reducible exact ih0 _ _ _)
      | (with_reducible exact LeO.refl _)
      | (with_reducible exact LeO.none _)
      | (with_reducible refine LeO.ite ?_ ?_)
      | (with_reducible refine LeO.bind ?_ (fun _ => ?_))
      | exact ih0 _ _ _
      | exact LeO.none _
      | refine LeO.ite ?_ ?_
      | refine LeO.bind ?_ (fun _ => ?_)
set_option maxHeartbeats 8000000 in
set_option maxRecDepth 100000 in
theorem spec_BytesToInts.calls (k : Nat) (A0 : Option Addr) (c0 : Nat) (l0 : List Int) (r : List Int) (w : World) (hr0 : Kd.C (Kd.int .u8) w A0 l0.length l0) (hc0 : l0.length ≤ c0) (h : spec_BytesToInts.f k l0 = some r) :
    Calls Try.prog 132 #[.slice A0 l0.length c0] w fun e w' => ∃ v0_ : Value, e = .returned (v0_) ∧ Kd.R (Kd.int .i64) 3 w' w.heap.size (fun _ => True) v0_ r ∧ Below w.heap.size w w' := by
 have HR0 := Aside0.mk hr0; have HC0 := Aside0.mk hc0; clear hr0 hc0
 have HB := Aside0.mk (Below.refl w.heap.size w)
 have H : (spec_BytesToInts.l0 k l0 (([(l0.length : Int)] : List Int)) 0) = some r := h
 clear h
 obtain ⟨D9, hy228⟩ : ∃ y_ : List Int, y_ = (([(l0.length : Int)] : List Int)) := ⟨_, rfl⟩
 replace H : (spec_BytesToInts.l0 k l0 D9 0) = some r := by first | (rw [hy228]; with_reducible exact H) | (have H2_ := (Option.bind_some _ _).symm.trans H; rw [hy228]; with_reducible exact H2_) | (have H2_ := (Option.bind_some _ _).symm.trans H; with_reducible exact H2_) | with_reducible exact H | (rw [hy228]; exact H) | exact H
 have D3 := Aside0.mk hy228; clear hy228
 have H' := Aside0.mk H
 clear H
 go_enter Try.func132, Try.ntmps132
 go_wp2_with (first | ((with_reducible refine gate_dst (N := 7) rfl ?_); refine Kd.R_lit (Kd.int .i64) _ 3 ?hg (N := 7) ?hd (xs := ([(l0.length : Int)] : List Int)) (inner := [.int .i64 (l0.length : Int)]) (ok := fun _ => True) (okp := fun _ => True) ?hr ?hp (fun _ hk => hk) trivial (Below.refl _ _) (Nat.le_refl _) (by simp) ?_; (case hd => rfl); (case hg => rfl); (case hr => first | (go_simp; done) | (go_simp; rfl)); (case hp => exact (Reps.one (show Kd.M (Kd.int .i64) _ _ _ (l0.length : Int) [.int .i64 (l0.length : Int)] from rfl) (Reps.none _ _))); intro v229 w2 D8 hb hg_ hnew_; clear hg_ hnew_; (first | rw [← D3.out] at D8 | (simp only [Int.reduceToNat] at D8; rw [← D3.out] at D8)); have D5 := Aside0.mk (Kd.R_lower D8 (below_size (Cmp.g HB.out))); replace HB := Cmp.bs HB hb; clear hb D8))
 go_loopg [3, 4] k (fun kq v3 v4 w' => ∃ (D2 : List Int) (D0 : Int), v4 = .int .i64 D0 ∧ Aside0 (spec_BytesToInts.l0 kq l0 D2 D0 = some r) ∧ Aside0 (kq ≤ k) ∧ Aside0 (Kd.R (Kd.int .i64) 3 w' w.heap.size (fun _ => True) v3 D2) ∧ Aside0 (Below w.heap.size w w'))
 case atStart => exact ⟨(D9), (0), (by first | rfl | simp | simp [*]), H', ⟨Nat.le_refl _⟩, ⟨Cmp.rr D5.out⟩, ⟨Cmp.g HB.out⟩⟩
 case round =>
  clear H'
  (try clear c1); (try clear p2)
  obtain ⟨D2, D0, rfl, HA, HK1, D4, HB⟩ := hrel
  cases gk with
  | zero => exact absurd HA.out (by simp [spec_BytesToInts.l0])
  | succ k1 =>
   have H := HA.out; clear HA
   simp only [spec_BytesToInts.l0] at H
   by_cases c4 : D0 < (l0.length : Int)
   ·rw [if_pos c4] at H
    have c4b0 : decide (D0 < (l0.length : Int)) = true := decide_eq_true c4
    clear c4
    by_cases c5 : 0 ≤ D0
    ·rw [if_pos c5] at H; have c5b0 : decide (0 ≤ D0) = true := decide_eq_true c5; clear c5
     by_cases c6 : D2.length < 17592186044416
     ·rw [if_pos c6] at H; have LMc6 := Aside0.mk c6; clear c6
      obtain ⟨Da, hy232⟩ : ∃ y_ : List Int, y_ = (D2 ++ [wrap64 (rd l0 D0)]) := ⟨_, rfl⟩
      replace H : (spec_BytesToInts.l0 k1 l0 Da (wrap64 (D0 + 1))) = some r := by first | (rw [hy232]; with_reducible exact H) | (have H2_ := (Option.bind_some _ _).symm.trans H; rw [hy232]; with_reducible exact H2_) | (have H2_ := (Option.bind_some _ _).symm.trans H; with_reducible exact H2_) | with_reducible exact H | (rw [hy232]; exact H) | exact H
      have D7 := Aside0.mk hy232; clear hy232
      have H' := Aside0.mk H
      clear H
      have p231 : 0 ≤ (D0 : Int) := of_decide_eq_true Cmp.d
      have q231 : D0 < (l0.length : Int) := of_decide_eq_true Cmp.d
      obtain ⟨Db, e231, D1⟩ := Kd.at_int HR0.out D0 p231 q231
      cases e231
      replace D1 := Cmp.hc HB D1
      replace p231 := eq_true p231; replace q231 := eq_true q231
      go_wp2_with (first | ((with_reducible refine gate_builtin (b := .append) (xs := #[.tmp 14, .tmp 20]) rfl ?_); at_builtin; refine Kd.R_append (Kd.int .i64) (w0 := w) w.heap.size rfl (.tmp 14) (.tmp 20) 48 3 (.int .i64 0) 8 rfl Try.underlying48 info3 rfl (by decide) (by omega) u3 D2 (wrap64 (rd l0 D0)) [.int .i64 (wrap64 (rd l0 D0))] (fun _ => True) (fun _ => False) rfl rfl ?aP (fun _ hk => hk.elim) ?aF ?aO ?aB ?aS ?aL ?_; (case aP => exact rfl); (case aB => exact (Cmp.g HB.out)); (case aF => exact (fun _ _ => trivial)); (case aO => exact (Cmp.rr D4.out)); (case aS => exact (below_size (Cmp.g HB.out))); (case aL => have := LMc6.out; omega); intro v233 w7 ho hb hg hat; rw [← D7.out] at ho; have D6 := Aside0.mk (ho); replace HB := Aside0.mk (hb); clear D4; clear ho hb hg hat))
      go_roundg k1
      case measure => have := HK1.out; omega
      case rel => exact ⟨(Da), (wrap64 (D0 + 1)), (by first | rfl | simp | simp [*]), H', ⟨by have := HK1.out; omega⟩, ⟨Cmp.rr D6.out⟩, ⟨Cmp.g HB.out⟩⟩
     ·rw [if_neg c6] at H; exact absurd H (by simp)
    ·rw [if_neg c5] at H; exact absurd H (by simp)
   ·rw [if_neg c4] at H
    have c4b0 : decide (D0 < (l0.length : Int)) = false := decide_eq_false c4
    clear c4
    obtain rfl := Option.some.inj H
    go_wp2
    go_ret
    exact ⟨_, by first | rfl | (simp [errW_none, errW_some] <;> rfl) | (simp [*, errW_none, errW_some] <;> rfl), by (with_reducible repeat (first | apply Kd.R_alloc | apply Kd.R_drewN | apply Kd.R_drew)); exact D4.out, Cmp.g HB.out⟩

/-! ### spec_DeriveFromString: function 173 -/
/-- '[]byte(s)': the string's bytes as a new row that is read alone. -/
theorem conv_bytes {P : Program} {ops : Array Oper} {rest : List Oper} {o : Oper} {a : Act} {Q : Exit → Act → World → Prop} {W : World} {xs : List Int} (hgd : o.guard = none) {N : Tmp} (_hd : o.dst = some N) (src dst e : TypeId) (x : Operand) (ho : o.op = .convert src dst x) (s : ByteArray) (hx : a.eval x = .string s) {u : TypeDesc} (hs : P.underlying src = some u) (ht : P.underlying dst = some (.slice e)) (he : P.underlying e = some (.int .u8))
    (hxs : xs = s.data.toList.map fun b_ => (b_.toNat : Int)) (hl : s.size ≤ 281474976710656)
    (h : ∀ A c w1, Kd.C (Kd.int .u8) w1 A xs.length xs → xs.length ≤ c → Below W.heap.size W w1 → wpList P ops Q rest (a.put o.dst (.slice A xs.length c)) w1) : wpList P ops Q (o :: rest) a W := by
  have hlen : xs.length = s.size := by rw [hxs, List.length_map, Array.length_toList]; rfl
  have hrun : (execOp a.eval o).run P W = .ok (.value (.slice (some ⟨W.heap.size, 0, none⟩) xs.length (grownCap W s.size 0 e))) (Go.Lib.bytesWorld W e s) := by
    rw [hlen]; simp [execOp, ho, hx, Go.Lib.run_convert_string_bytes W src dst e s hs ht he]
  refine wpList_plain hgd fun K hK => ?_
  unfold Oper.wp
  rw [hrun]
  refine hK _ _ (h _ _ _ ?_ ?_ ?_)
  · refine Kd.C_of_reads (enc := Value.int .u8) (d := 0) (h1 := fun _ => rfl) ⟨rfl, by omega, fun hn => ⟨_, rfl, fun j hj => ?_⟩⟩
    have hj' : j < s.size := by omega
    have hadd : (⟨W.heap.size, 0, none⟩ : Addr).add j = ⟨W.heap.size, j, none⟩ := by unfold Addr.add; split <;> simp_all
    rw [hadd, Go.Lib.bytesWorld_cell W e s j hj', hxs]
    simp [List.getD_eq_getElem?_getD, Array.getElem?_eq_getElem (show j < s.data.size from hj')]
  · rw [hlen]; exact grownCap_ge W s.size 0 e
  · refine ⟨?_, ?_, ?_, ?_, ?_⟩
    · rfl
    · rfl
    · rfl
    · rw [Go.Lib.bytesWorld_size]; omega
    · intro k hk; exact Go.Lib.bytesWorld_at_old W e s k hk
def spec_DeriveFromString.f (k : Nat) (a0 : Int) (a1 : ByteArray) : Option (Int) := if a1.size ≤ 281474976710656 then ((spec_BytesToInts.f k (a1.data.toList.map (fun b_ => (b_.toNat : Int)))).bind fun t238 => ((spec_KeyedHash.f k a0 t238).bind fun t241 => ((spec_Max.f 1 t241).bind fun t242 => (some t242)))) else (none)
theorem spec_DeriveFromString.mono : ∀ a0 a1 k, LeO (spec_DeriveFromString.f k a0 a1) (spec_DeriveFromString.f (k + 1) a0 a1) := by
  intro a0 a1 k
  unfold spec_DeriveFromString.f
  repeat' first
      | (with_reducible exact spec_BytesToInts.mono _ _)
      | (with_reducible exact spec_KeyedHash.mono _ _ _)
      | (with_reducible exact LeO.refl _)
      | (with_reducible exact LeO.none _)
      | (with_reducible refine LeO.ite ?_ ?_)
      | (with_reducible refine LeO.bind ?_ (fun _ => ?_))
      | exact spec_BytesToInts.mono _ _
      | exact spec_KeyedHash.mono _ _ _
      | exact LeO.none _
      | refine LeO.ite ?_ ?_
      | refine LeO.bind ?_ (fun _ => ?_)
set_option maxHeartbeats 8000000 in
set_option maxRecDepth 100000 in
theorem spec_DeriveFromString.calls (k : Nat) (a0 : Int) (a1 : ByteArray) (r : Int) (w : World) (h : spec_DeriveFromString.f k a0 a1 = some r) :
    Calls Try.prog 173 #[.int .i64 a0, .string a1] w fun e w' => e = .returned (.int .i64 r) ∧ Below w.heap.size w w' := by
 have HB := Aside0.mk (Below.refl w.heap.size w)
 have H : (if a1.size ≤ 281474976710656 then ((spec_BytesToInts.f k (a1.data.toList.map (fun b_ => (b_.toNat : Int)))).bind fun D1 => ((spec_KeyedHash.f k a0 D1).bind fun D2 => ((spec_Max.f 1 D2).bind fun D3 => (some D3)))) else (none)) = some r := h
 clear h
 by_cases c3 : a1.size ≤ 281474976710656
 ·rw [if_pos c3] at H
  have c3b0 := eq_true c3
  have c3b1 : decide (a1.size ≤ 281474976710656) = true := decide_eq_true c3; clear c3
  obtain ⟨D4, hy235⟩ : ∃ y_ : List Int, y_ = (a1.data.toList.map (fun b_ => (b_.toNat : Int))) := ⟨_, rfl⟩
  replace H : ((spec_BytesToInts.f k D4).bind fun D1 => ((spec_KeyedHash.f k a0 D1).bind fun D2 => ((spec_Max.f 1 D2).bind fun D3 => (some D3)))) = some r := by first | (rw [hy235]; with_reducible exact H) | (have H2_ := (Option.bind_some _ _).symm.trans H; rw [hy235]; with_reducible exact H2_) | (have H2_ := (Option.bind_some _ _).symm.trans H; with_reducible exact H2_) | with_reducible exact H | (rw [hy235]; exact H) | exact H
  have D5 := Aside0.mk hy235; clear hy235; replace H := Option.bind_eq_some_iff.mp H; obtain ⟨D1, D9, H⟩ := H; (try dsimp only at H); have A4 := Aside0.mk D9; clear D9; replace H := Option.bind_eq_some_iff.mp H; obtain ⟨D2, Da, H⟩ := H; (try dsimp only at H); have A5 := Aside0.mk Da; clear Da; replace H := Option.bind_eq_some_iff.mp H; obtain ⟨D3, Db, H⟩ := H; (try dsimp only at H); have A6 := Aside0.mk Db; clear Db
  obtain rfl := Option.some.inj H
  go_enter Try.func173, Try.ntmps173
  go_wp2_with (first | ((with_reducible refine gate_dst (N := 7) rfl ?_); refine conv_bytes (N := 7) rfl rfl 9 22 5 _ rfl a1 rfl Try.underlying9 Try.underlying22 Try.underlying5 D5.out (of_decide_eq_true Cmp.d) ?_; intro Dd De w7 hc_ hl_ hb; have HC_ := Aside0.mk hc_; have HL_ := Aside0.mk hl_; have n1_ := Aside0.mk (below_step (Cmp.g HB.out) hb); clear HB; have HB := n1_; clear n1_; clear hb hc_ hl_) | ((with_reducible refine gate_callee (f := 132) rfl ?_); refine goesL_ (some 8) rfl rfl Try.func132 (by kernel_rfl) rfl #[.slice Dd D4.length De] rfl Cmp.q ?_; (with_reducible refine (spec_BytesToInts.calls k _ _ D4 D1 _ ?side1 ?side2 A4.out).mono ?_); (case side1 => repeat (first | exact HC_.out | (with_reducible refine Kd.C_alloc ?_ _) | (with_reducible refine Kd.C_drewN ?_ _) | (with_reducible refine Kd.C_drew ?_))); (case side2 => exact HL_.out); rintro e w10 ⟨v239, rfl, Dc, hb⟩; refine ⟨_, rfl, ?_⟩; have n0_ := HL_; have n1_ := Aside0.mk (Kd.R_lower Dc (below_size (Cmp.g HB.out))); have n2_ := Aside0.mk (below_step (Cmp.g HB.out) hb); clear HB; have D0 := n1_; have HB := n2_; clear n0_ n1_ n2_; (try clear hb); (try clear hb2); (try clear hk); (try clear hi); (try clear Dc); obtain ⟨D6, D7, D8⟩ := Kd.R_slice D0.out; subst D8) | ((with_reducible refine gate_callee (f := 130) rfl ?_); refine goesL_ (some 9) rfl rfl Try.func130 (by kernel_rfl) rfl #[.int .i64 a0, .slice D6 D1.length D7] rfl Cmp.q ?_; (with_reducible refine (spec_KeyedHash.calls k a0 _ _ D1 D2 _ ?side1 ?side2 A5.out).mono ?_); (case side1 => exact Cmp.rc (Kd.R_reads' D0.out).2.2); (case side2 => exact (Kd.R_reads' D0.out).2.1); rintro e w12 ⟨rfl, hb⟩; refine ⟨_, rfl, ?_⟩; have n0_ := HL_; have n1_ := Aside0.mk (Kd.R_below (Cmp.rr D0.out) hb); have n2_ := Aside0.mk (below_step (Cmp.g HB.out) hb); clear D0; clear HB; have D0 := n1_; have HB := n2_; clear n0_ n1_ n2_; (try clear hb); (try clear hb2); (try clear hk); (try clear hi)) | ((with_reducible refine gate_callee (f := 160) rfl ?_); refine goesL_ (some 10) rfl rfl Try.func160 (by kernel_rfl) rfl #[.int .i64 1, .int .i64 D2] rfl Cmp.q ?_; (with_reducible refine (spec_Max.calls 1 D2 D3 _ A6.out).mono ?_); rintro e w' ⟨rfl, ⟨nd, rfl⟩⟩; refine ⟨_, rfl, ?_⟩))
  go_ret
  exact ⟨by first | rfl | (simp [errW_none, errW_some] <;> rfl) | (simp [*, errW_none, errW_some] <;> rfl), Cmp.g HB.out⟩
 ·rw [if_neg c3] at H; exact absurd H (by simp)

/-! ### spec_SiteHash: function 172 -/
def spec_SiteHash.f (k : Nat) (a0 : ByteArray) : Option (Int) := (spec_DeriveFromString.f k 173 a0).bind fun t243 => (some t243)
theorem spec_SiteHash.mono : ∀ a0 k, LeO (spec_SiteHash.f k a0) (spec_SiteHash.f (k + 1) a0) := by
  intro a0 k
  unfold spec_SiteHash.f
  repeat' first
      | (with_reducible exact spec_DeriveFromString.mono _ _ _)
      | (with_reducible exact LeO.refl _)
      | (with_reducible exact LeO.none _)
      | (with_reducible refine LeO.ite ?_ ?_)
      | (with_reducible refine LeO.bind ?_ (fun _ => ?_))
      | exact spec_DeriveFromString.mono _ _ _
      | exact LeO.none _
      | refine LeO.ite ?_ ?_
      | refine LeO.bind ?_ (fun _ => ?_)
set_option maxHeartbeats 8000000 in
set_option maxRecDepth 100000 in
theorem spec_SiteHash.calls (k : Nat) (a0 : ByteArray) (r : Int) (w : World) (h : spec_SiteHash.f k a0 = some r) :
    Calls Try.prog 172 #[.string a0] w fun e w' => e = .returned (.int .i64 r) ∧ Below w.heap.size w w' := by
 have HB := Aside0.mk (Below.refl w.heap.size w)
 have H : ((spec_DeriveFromString.f k 173 a0).bind fun D0 => (some D0)) = some r := h
 clear h; replace H := Option.bind_eq_some_iff.mp H; obtain ⟨D0, D1, H⟩ := H; (try dsimp only at H); have A2 := Aside0.mk D1; clear D1
 obtain rfl := Option.some.inj H
 go_enter Try.func172, Try.ntmps172
 go_wp2_with (first | ((with_reducible refine gate_callee (f := 173) rfl ?_); refine goesL_ (some 4) rfl rfl Try.func173 (by kernel_rfl) rfl #[.int .i64 173, .string a0] rfl Cmp.q ?_; (with_reducible refine (spec_DeriveFromString.calls k 173 a0 D0 _ A2.out).mono ?_); rintro e w3 ⟨rfl, hb⟩; refine ⟨_, rfl, ?_⟩; replace HB := Cmp.bs HB hb; (try clear hb); (try clear hb2); (try clear hk); (try clear hi)))
 go_ret
 exact ⟨by first | rfl | (simp [errW_none, errW_some] <;> rfl) | (simp [*, errW_none, errW_some] <;> rfl), Cmp.g HB.out⟩

/-! ### spec_SitePrivate: function 168 -/
def spec_SitePrivate.f (k : Nat) (a0_0 : Int) (a0_1 : Int) (a0_2 : Int) (a0_3 : Int) (a1 : ByteArray) (a2 : Int) : Option (Int) := (spec_SiteHash.f k a1).bind fun t245 => ((spec_DeriveKey.f k a0_2 (([179, t245, a2] : List Int))).bind fun t249 => (some t249))
theorem spec_SitePrivate.mono : ∀ a0 a1 a2 a3 a4 a5 k, LeO (spec_SitePrivate.f k a0 a1 a2 a3 a4 a5) (spec_SitePrivate.f (k + 1) a0 a1 a2 a3 a4 a5) := by
  intro a0 a1 a2 a3 a4 a5 k
  unfold spec_SitePrivate.f
  repeat' first
      | (with_reducible exact spec_DeriveKey.mono _ _ _)
      | (with_reducible exact spec_SiteHash.mono _ _)
      | (with_reducible exact LeO.refl _)
      | (with_reducible exact LeO.none _)
      | (with_reducible refine LeO.ite ?_ ?_)
      | (with_reducible refine LeO.bind ?_ (fun _ => ?_))
      | exact spec_DeriveKey.mono _ _ _
      | exact spec_SiteHash.mono _ _
      | exact LeO.none _
      | refine LeO.ite ?_ ?_
      | refine LeO.bind ?_ (fun _ => ?_)
def spec_SitePrivate.T1 : Bool × List (List Nat × List Nat) := (true, [([], []), ([0], [0]), ([], []), ([2], [2]), ([], []), ([3, 4], [3, 4]), ([1, 5, 3], [1, 5]), ([6, 6, 0, 1, 2, 3, 4, 5, 6], [6])])
def spec_SitePrivate.B1 : List Nat := [0, 1, 0, 4, 0, 28, 63, 127]
theorem spec_SitePrivate.tab1 : rtab .any (opsOf Try.f168 1) = spec_SitePrivate.T1 := by kernel_rfl
theorem spec_SitePrivate.bits1 : waitsOk spec_SitePrivate.T1.2 spec_SitePrivate.B1 = true := by kernel_rfl
set_option maxHeartbeats 8000000 in
set_option maxRecDepth 100000 in
theorem spec_SitePrivate.calls (k : Nat) (a0_0 : Int) (a0_1 : Int) (a0_2 : Int) (a0_3 : Int) (a1 : ByteArray) (a2 : Int) (r : Int) (w : World) (h : spec_SitePrivate.f k a0_0 a0_1 a0_2 a0_3 a1 a2 = some r) :
    Calls Try.prog 168 #[.agg #[.int .i64 a0_0, .int .i64 a0_1, .int .i64 a0_2, .int .i64 a0_3], .string a1, .int .i64 a2] w fun e w' => e = .returned (.int .i64 r) ∧ Below w.heap.size w w' := by
 have hu84 := Try.underlying84
 have HB := Aside0.mk (Below.refl w.heap.size w)
 have H : ((spec_SiteHash.f k a1).bind fun D2 => ((spec_DeriveKey.f k a0_2 (([179, D2, a2] : List Int))).bind fun D5 => (some D5))) = some r := h
 clear h; replace H := Option.bind_eq_some_iff.mp H; obtain ⟨D2, Db, H⟩ := H; (try dsimp only at H); have A4 := Aside0.mk Db; clear Db
 obtain ⟨D7, hy246⟩ : ∃ y_ : List Int, y_ = (([179, D2, a2] : List Int)) := ⟨_, rfl⟩
 replace H : ((spec_DeriveKey.f k a0_2 D7).bind fun D5 => (some D5)) = some r := by first | (rw [hy246]; with_reducible exact H) | (have H2_ := (Option.bind_some _ _).symm.trans H; rw [hy246]; with_reducible exact H2_) | (have H2_ := (Option.bind_some _ _).symm.trans H; with_reducible exact H2_) | with_reducible exact H | (rw [hy246]; exact H) | exact H
 have D6 := Aside0.mk hy246; clear hy246; replace H := Option.bind_eq_some_iff.mp H; obtain ⟨D5, Dc, H⟩ := H; (try dsimp only at H); have A5 := Aside0.mk Dc; clear Dc
 obtain rfl := Option.some.inj H
 go_enter Try.func168, Try.ntmps168
 try go_wp2_with (first | ((with_reducible refine gate_dst (N := 3) rfl ?_); refine box_event ?hg (N := 3) ?hd (cs := #[.int .i64 a0_0, .int .i64 a0_1, .int .i64 a0_2, .int .i64 a0_3]) (t := 84) ?hr ?_; (case hd => rfl); (case hg => rfl); (case hr => first | (go_simp; done) | (go_simp; rfl)); intro D3 hg w6 hbox hb; have D0 := Aside0.mk (hbox); have De := Cmp.gw hg HB; have Dd := Cmp.gw hg HB; replace HB := Cmp.bs HB hb; clear hb hbox hg))
 replace D0 := Aside0.mk (blk_drew D0.out); replace HB := Aside0.mk (below_drew1 HB.out)
 refine start_ (n := 8) (S := fun w' => w'.cell? ⟨D3, 0, none⟩ = some (.int .i64 a0_0) ∧ w'.cell? ⟨D3, 1, none⟩ = some (.int .i64 a0_1) ∧ w'.cell? ⟨D3, 2, none⟩ = some (.int .i64 a0_2) ∧ w'.cell? ⟨D3, 3, none⟩ = some (.int .i64 a0_3)) (ds := []) (Cmp.bm 0 8) (by kernel_rfl) rfl rfl ⟨(Cmp.c0 D0 :), (Cmp.c1 D0 :), (Cmp.c2 D0 :), (Cmp.c3 D0 :)⟩ (fun hHeld => ?_); refine with_tabW spec_SitePrivate.tab1 spec_SitePrivate.bits1 (fun HT_ HW_ => ?_)
 generalize w6.drew = w7 at D0 HB hHeld ⊢
 refine Cmp.pu HT_ 0 7 (Cmp.bm 1 7) ?_; refine Cmp.pu HT_ 2 9 (Cmp.bb 8 5) ?_; refine Cmp.pu HT_ 4 11 (Cmp.bb 8 21) ?_; refine Cmp.tk HT_ HW_ hHeld 1 8 (Cmp.bb 8 23) ?_
 refine one_ (i := 3) (N := some 10) (Cmp.bm 5 3) rfl rfl (one_of HT_.out (by kernel_rfl)) (by decide) (fun K hK => ?_)
 refine goes_ Try.func172 (by kernel_rfl) rfl #[.string a1] (by rfl) rfl rfl Cmp.q ?_
 with_reducible refine (spec_SiteHash.calls k a1 D2 _ A4.out).mono ?_
 rintro e w8 ⟨rfl, hb⟩; refine ⟨_, rfl, ?_⟩
 have n0_ := Cmp.be D0 hb
 have n1_ := Aside0.mk (below_step (Cmp.g HB.out) hb)
 clear D0; clear HB; have D0 := n0_; have HB := n1_; clear n0_ n1_; (try clear hb); (try clear hb2); (try clear hk); (try clear hi)
 refine hK.out _ _ ⟨(Cmp.c0 D0 :), (Cmp.c1 D0 :), (Cmp.c2 D0 :), (Cmp.c3 D0 :)⟩ (fun hHeld => ?_)
 clear hK K
 refine norm_ (a' := ?_) ?_ ?_
 rotate_left
 ·show Act.put _ (some 10) _ = _
  simp only [Act.put, Cmp.s, Cmp.z, Cmp.c, i64_w, i32_w]; rfl
 refine one_ (i := 5) (N := some 12) (Cmp.bm 6 2) rfl rfl (one_of HT_.out (by kernel_rfl)) (by decide) (fun K hK => ?_)
 refine Kd.R_lit_step (Kd.int .i64) _ 3 ?hg (N := 12) ?hd (xs := ([179, D2, a2] : List Int)) (inner := [.int .i64 179, .int .i64 D2, .int .i64 a2]) (ok := fun _ => True) (okp := fun _ => True) ?hr ?hp (fun _ hk => hk) trivial (Below.refl _ _) (Nat.le_refl _) (by simp) ?_; (case hd => rfl); (case hg => rfl); (case hr => first | (go_simp; done) | (go_simp; rfl)); (case hp => exact (Reps.one (show Kd.M (Kd.int .i64) _ _ _ 179 [.int .i64 179] from rfl) (Reps.one (show Kd.M (Kd.int .i64) _ _ _ D2 [.int .i64 D2] from rfl) (Reps.one (show Kd.M (Kd.int .i64) _ _ _ a2 [.int .i64 a2] from rfl) (Reps.none _ _)))))
 intro v247 w9 D4 hb hg_ hnew_
 clear hg_ hnew_
 (first | rw [← D6.out] at D4 | (simp only [Int.reduceToNat] at D4; rw [← D6.out] at D4))
 have n0_ := Aside0.mk (Kd.R_lower D4 (below_size (Cmp.g HB.out)))
 have n1_ := Cmp.be D0 hb
 have n2_ := Aside0.mk (below_step (Cmp.g HB.out) hb)
 clear D0; clear HB; have D1 := n0_; have D0 := n1_; have HB := n2_; clear n0_ n1_ n2_; clear hb D4
 obtain ⟨D9, Da, D8⟩ := Kd.R_slice D1.out
 (first | subst D8 | (injection D8 with f1_ f2_ f3_; have f4_ := f1_.symm; have f5_ := f3_.symm; clear f1_ f2_ f3_; subst f4_; subst f5_))
 refine hK.out _ _ ⟨(Cmp.c0 D0 :), (Cmp.c1 D0 :), (Cmp.c2 D0 :), (Cmp.c3 D0 :)⟩ (fun hHeld => ?_)
 clear hK K
 refine norm_ (a' := ?_) ?_ ?_
 rotate_left
 ·show Act.put _ (some 12) _ = _
  simp only [Act.put, Cmp.s, Cmp.z, Cmp.c, i64_w, i32_w]; rfl
 refine one_ (i := 6) (N := some 13) (Cmp.bm 7 1) rfl rfl (one_of HT_.out (by kernel_rfl)) (by decide) (fun K hK => ?_)
 refine goes_ Try.func131 (by kernel_rfl) rfl #[.int .i64 a0_2, .slice D9 D7.length Da] (by rfl) rfl rfl Cmp.q ?_
 with_reducible refine (spec_DeriveKey.calls k a0_2 _ _ D7 D5 _ ?side1 ?side2 A5.out).mono ?_
 (case side1 => exact Cmp.rc (Kd.R_reads' D1.out).2.2)
 (case side2 => exact (Kd.R_reads' D1.out).2.1)
 rintro e w12 ⟨rfl, hb⟩; refine ⟨_, rfl, ?_⟩
 have n0_ := Aside0.mk (Kd.R_below (Cmp.rr D1.out) hb)
 have n1_ := Cmp.be D0 hb
 have n2_ := Aside0.mk (below_step (Cmp.g HB.out) hb)
 clear D1; clear D0; clear HB; have D1 := n0_; have D0 := n1_; have HB := n2_; clear n0_ n1_ n2_; (try clear hb); (try clear hb2); (try clear hk); (try clear hi)
 refine hK.out _ _ ⟨(Cmp.c0 D0 :), (Cmp.c1 D0 :), (Cmp.c2 D0 :), (Cmp.c3 D0 :)⟩ (fun hHeld => ?_)
 clear hK K
 refine norm_ (a' := ?_) ?_ ?_
 rotate_left
 ·show Act.put _ (some 13) _ = _
  simp only [Act.put, Cmp.s, Cmp.z, Cmp.c, i64_w, i32_w]; rfl
 refine Cmp.pu HT_ 7 6 (Cmp.bm 8 0) ?_
 refine done_ (done_of HT_.out (by kernel_rfl)) ?_
 try go_wp2
 go_ret
 exact ⟨by first | rfl | (simp [errW_none, errW_some] <;> rfl) | (simp [*, errW_none, errW_some] <;> rfl), Cmp.g HB.out⟩

/-! ### spec_SitePublic: function 149 -/
def spec_SitePublic.f (k : Nat) (a0_0 : Int) (a0_1 : Int) (a0_2 : Int) (a0_3 : Int) (a1 : ByteArray) (a2 : Int) : Option (Int) := (spec_SitePrivate.f k a0_0 a0_1 a0_2 a0_3 a1 a2).bind fun t251 => ((spec_PublicKey.f t251).bind fun t252 => (some t252))
theorem spec_SitePublic.mono : ∀ a0 a1 a2 a3 a4 a5 k, LeO (spec_SitePublic.f k a0 a1 a2 a3 a4 a5) (spec_SitePublic.f (k + 1) a0 a1 a2 a3 a4 a5) := by
  intro a0 a1 a2 a3 a4 a5 k
  unfold spec_SitePublic.f
  repeat' first
      | (with_reducible exact spec_SitePrivate.mono _ _ _ _ _ _ _)
      | (with_reducible exact LeO.refl _)
      | (with_reducible exact LeO.none _)
      | (with_reducible refine LeO.ite ?_ ?_)
      | (with_reducible refine LeO.bind ?_ (fun _ => ?_))
      | exact spec_SitePrivate.mono _ _ _ _ _ _ _
      | exact LeO.none _
      | refine LeO.ite ?_ ?_
      | refine LeO.bind ?_ (fun _ => ?_)
set_option maxHeartbeats 8000000 in
set_option maxRecDepth 100000 in
theorem spec_SitePublic.calls (k : Nat) (a0_0 : Int) (a0_1 : Int) (a0_2 : Int) (a0_3 : Int) (a1 : ByteArray) (a2 : Int) (r : Int) (w : World) (h : spec_SitePublic.f k a0_0 a0_1 a0_2 a0_3 a1 a2 = some r) :
    Calls Try.prog 149 #[.agg #[.int .i64 a0_0, .int .i64 a0_1, .int .i64 a0_2, .int .i64 a0_3], .string a1, .int .i64 a2] w fun e w' => e = .returned (.int .i64 r) ∧ Below w.heap.size w w' := by
 have hu84 := Try.underlying84
 have HB := Aside0.mk (Below.refl w.heap.size w)
 have H : ((spec_SitePrivate.f k a0_0 a0_1 a0_2 a0_3 a1 a2).bind fun D1 => ((spec_PublicKey.f D1).bind fun D2 => (some D2))) = some r := h
 clear h; replace H := Option.bind_eq_some_iff.mp H; obtain ⟨D1, Db, H⟩ := H; (try dsimp only at H); have A4 := Aside0.mk Db; clear Db; replace H := Option.bind_eq_some_iff.mp H; obtain ⟨D2, Dc, H⟩ := H; (try dsimp only at H); have A5 := Aside0.mk Dc; clear Dc
 obtain rfl := Option.some.inj H
 go_enter Try.func149, Try.ntmps149
 go_wp2_with (first | ((with_reducible refine gate_dst (N := 3) rfl ?_); refine box_event ?hg (N := 3) ?hd (cs := #[.int .i64 a0_0, .int .i64 a0_1, .int .i64 a0_2, .int .i64 a0_3]) (t := 84) ?hr ?_; (case hd => rfl); (case hg => rfl); (case hr => first | (go_simp; done) | (go_simp; rfl)); intro Df hg w6 hbox hb; have D0 := Aside0.mk (hbox); have De := Cmp.gw hg HB; have Dd := Cmp.gw hg HB; replace HB := Cmp.bs HB hb; clear hb hbox hg; have D3 := Cmp.c0 D0; have D4 := Cmp.c1 D0; have D5 := Cmp.c2 D0; have D6 := Cmp.c3 D0; have D7 := blk_frozen D0.out 0; have D8 := blk_frozen D0.out 1; have D9 := blk_frozen D0.out 2; have Da := blk_frozen D0.out 3) | ((with_reducible refine gate_callee (f := 168) rfl ?_); refine goesL_ (some 10) rfl rfl Try.func168 (by kernel_rfl) rfl #[.agg #[.int .i64 a0_0, .int .i64 a0_1, .int .i64 a0_2, .int .i64 a0_3], .string a1, .int .i64 a2] rfl Cmp.q ?_; (with_reducible refine (spec_SitePrivate.calls k a0_0 a0_1 a0_2 a0_3 a1 a2 D1 _ A4.out).mono ?_); rintro e w8 ⟨rfl, hb⟩; refine ⟨_, rfl, ?_⟩; replace D0 := Cmp.be D0 hb; replace HB := Cmp.bs HB hb; (try clear hb); (try clear hb2); (try clear hk); (try clear hi)) | ((with_reducible refine gate_callee (f := 53) rfl ?_); refine goesL_ (some 11) rfl rfl Try.func53 (by kernel_rfl) rfl #[.int .i64 D1] rfl Cmp.q ?_; (with_reducible refine (spec_PublicKey.calls D1 D2 _ A5.out).mono ?_); rintro e w' ⟨rfl, ⟨nd, rfl⟩⟩; refine ⟨_, rfl, ?_⟩))
 go_ret
 exact ⟨by first | rfl | (simp [errW_none, errW_some] <;> rfl) | (simp [*, errW_none, errW_some] <;> rfl), Cmp.g HB.out⟩

/-! ### spec_FindCredential: function 150 -/
def spec_FindCredential.l0 : Nat → Int → Int → Int → Int → List (S35) → Option (Int)
  | 0, _, _, _, _, _ => none
  | k + 1, x1, x5, x254000, x254001, x254002 => if x5 < (x254002.length : Int) then (if 0 ≤ x5 then (if ((rd_T35 x254002 x5).f0) = x1 then (some x5) else (spec_FindCredential.l0 k x1 (wrap64 (x5 + 1)) x254000 x254001 x254002)) else (none)) else (some (-1))
def spec_FindCredential.f (k : Nat) (a0_0 : Int) (a0_1 : Int) (l0_2 : List (S35)) (a1 : Int) : Option (Int) := spec_FindCredential.l0 k a1 0 a0_0 a0_1 l0_2
theorem spec_FindCredential.mono_l : ∀ k, (∀ y0 y1 y2 y3 y4, LeO (spec_FindCredential.l0 k y0 y1 y2 y3 y4) (spec_FindCredential.l0 (k + 1) y0 y1 y2 y3 y4))
  | 0 => fun _ _ _ _ _ r h => by simp [spec_FindCredential.l0] at h
  | k + 1 => by
    have ih0 := spec_FindCredential.mono_l k
    · intro y0 y1 y2 y3 y4
      unfold spec_FindCredential.l0
      repeat' first
      | (with_reducible exact ih0 _ _ _ _ _)
      | (with_reducible exact LeO.refl _)
      | (with_reducible exact LeO.none _)
      | (with_reducible refine LeO.ite ?_ ?_)
      | (with_reducible refine LeO.bind ?_ (fun _ => ?_))
      | exact ih0 _ _ _ _ _
      | exact LeO.none _
      | refine LeO.ite ?_ ?_
      | refine LeO.bind ?_ (fun _ => ?_)
theorem spec_FindCredential.mono : ∀ a0 a1 a2 a3 k, LeO (spec_FindCredential.f k a0 a1 a2 a3) (spec_FindCredential.f (k + 1) a0 a1 a2 a3) := by
  intro a0 a1 a2 a3 k
  have ih0 := spec_FindCredential.mono_l k
  unfold spec_FindCredential.f
  repeat' first
      | (with_reducible exact ih0 _ _ _ _ _)
      | (with_reducible exact LeO.refl _)
      | (with_reducible exact LeO.none _)
      | (with_reducible refine LeO.ite ?_ ?_)
      | (with_reducible refine LeO.bind ?_ (fun _ => ?_))
      | exact ih0 _ _ _ _ _
      | exact LeO.none _
      | refine LeO.ite ?_ ?_
      | refine LeO.bind ?_ (fun _ => ?_)
set_option maxHeartbeats 8000000 in
set_option maxRecDepth 100000 in
theorem spec_FindCredential.calls (k : Nat) (a0_0 : Int) (a0_1 : Int) (A0_2 : Option Addr) (c0_2 : Nat) (l0_2 : List (S35)) (a1 : Int) (r : Int) (w : World) (hr0_2 : Kd.C k35 w A0_2 l0_2.length l0_2) (hc0_2 : l0_2.length ≤ c0_2) (h : spec_FindCredential.f k a0_0 a0_1 l0_2 a1 = some r) :
    Calls Try.prog 150 #[.agg #[.int .i64 a0_0, .int .i64 a0_1, .slice A0_2 l0_2.length c0_2], .int .i64 a1] w fun e w' => e = .returned (.int .i64 r) ∧ Below w.heap.size w w' := by
 have hu26 := Try.underlying26; have D7 := Aside0.mk hr0_2; have HC0_2 := Aside0.mk hc0_2; clear hr0_2 hc0_2
 have HB := Aside0.mk (Below.refl w.heap.size w)
 have H : (spec_FindCredential.l0 k a1 0 a0_0 a0_1 l0_2) = some r := h
 clear h
 have H' := Aside0.mk H
 clear H
 go_enter Try.func150, Try.ntmps150
 go_wp2_with (first | ((with_reducible refine gate_dst (N := 2) rfl ?_); refine box_event ?hg (N := 2) ?hd (cs := #[.int .i64 a0_0, .int .i64 a0_1, .slice A0_2 l0_2.length c0_2]) (t := 26) ?hr ?_; (case hd => rfl); (case hg => rfl); (case hr => first | (go_simp; done) | (go_simp; rfl)); intro D2 hg w3 hbox hb; have D0 := Aside0.mk (hbox); have Ds := Cmp.gw hg HB; have Dr := Cmp.gw hg HB; replace HB := Cmp.bs HB hb; clear hb hbox hg))
 go_loopg [5] k (fun kq v5 w' => ∃ (D1 : Int), v5 = .int .i64 D1 ∧ Aside0 (spec_FindCredential.l0 kq a1 D1 a0_0 a0_1 l0_2 = some r) ∧ Aside0 (kq ≤ k) ∧ Aside0 (w'.heap[D2]? = some (.cells #[.int .i64 a0_0, .int .i64 a0_1, (.slice A0_2 l0_2.length c0_2)] 26 (0, 0))) ∧ Aside0 (Below w.heap.size w w'))
 case atStart => exact ⟨(0), (by first | rfl | simp | simp [*]), H', ⟨Nat.le_refl _⟩, Cmp.bq D0, ⟨Cmp.g HB.out⟩⟩
 case round =>
  clear H'
  (try clear c1); (try clear p2)
  obtain ⟨D1, rfl, HA, HK1, D0, HB⟩ := hrel
  cases gk with
  | zero => exact absurd HA.out (by simp [spec_FindCredential.l0])
  | succ k1 =>
   have H := HA.out; clear HA
   simp only [spec_FindCredential.l0] at H
   by_cases c4 : D1 < (l0_2.length : Int)
   ·rw [if_pos c4] at H
    have c4b0 : decide (D1 < (l0_2.length : Int)) = true := decide_eq_true c4
    clear c4
    by_cases c5 : 0 ≤ D1
    ·rw [if_pos c5] at H; have c5b0 : decide (0 ≤ D1) = true := decide_eq_true c5; clear c5
     by_cases c6 : ((rd_T35 l0_2 D1).f0) = a1
     ·rw [if_pos c6] at H; have c6b0 : (((rd_T35 l0_2 D1).f0) == a1) = true := beq_iff_eq.mpr c6; have c6b1 : (((rd_T35 l0_2 D1).f0) != a1) = false := bne_eq_false_iff_eq.mpr c6; clear c6
      obtain rfl := Option.some.inj H
      have D9 : wr.cell? ⟨D2, 0, none⟩ = some (.int .i64 a0_0) := (blk_cell D0.out 0).trans rfl
      have Da : wr.cell? ⟨D2, 1, none⟩ = some (.int .i64 a0_1) := (blk_cell D0.out 1).trans rfl
      have Db : wr.cell? ⟨D2, 2, none⟩ = some (.slice A0_2 l0_2.length c0_2) := (blk_cell D0.out 2).trans rfl
      have Di := blk_frozen D0.out 0; have Dj := blk_frozen D0.out 1; have Dk := blk_frozen D0.out 2
      have p254 : 0 ≤ (D1 : Int) := of_decide_eq_true Cmp.d
      have q254 : D1 < (l0_2.length : Int) := of_decide_eq_true Cmp.d
      obtain ⟨D8, e254, D3, D4, D5, D6⟩ := at_T35 D7.out D1 p254 q254
      cases e254
      replace D3 := Cmp.hc HB D3
      replace D4 := Cmp.hc HB D4
      replace D5 := Cmp.hc HB D5
      replace D6 := Cmp.hc HB D6
      replace p254 := eq_true p254; replace q254 := eq_true q254
      go_wp2
      go_ret
      exact ⟨by first | rfl | (simp [errW_none, errW_some] <;> rfl) | (simp [*, errW_none, errW_some] <;> rfl), Cmp.g HB.out⟩
     ·rw [if_neg c6] at H; have c6b0 : (((rd_T35 l0_2 D1).f0) == a1) = false := beq_eq_false_iff_ne.mpr c6; have c6b1 : (((rd_T35 l0_2 D1).f0) != a1) = true := bne_iff_ne.mpr c6
      have H' := Aside0.mk H
      clear H
      have Dc : wr.cell? ⟨D2, 0, none⟩ = some (.int .i64 a0_0) := (blk_cell D0.out 0).trans rfl
      have Dd : wr.cell? ⟨D2, 1, none⟩ = some (.int .i64 a0_1) := (blk_cell D0.out 1).trans rfl
      have De : wr.cell? ⟨D2, 2, none⟩ = some (.slice A0_2 l0_2.length c0_2) := (blk_cell D0.out 2).trans rfl
      have Dl := blk_frozen D0.out 0; have Dm := blk_frozen D0.out 1; have Dn := blk_frozen D0.out 2
      have p254 : 0 ≤ (D1 : Int) := of_decide_eq_true Cmp.d
      have q254 : D1 < (l0_2.length : Int) := of_decide_eq_true Cmp.d
      obtain ⟨D8, e254, D3, D4, D5, D6⟩ := at_T35 D7.out D1 p254 q254
      cases e254
      replace D3 := Cmp.hc HB D3
      replace D4 := Cmp.hc HB D4
      replace D5 := Cmp.hc HB D5
      replace D6 := Cmp.hc HB D6
      replace p254 := eq_true p254; replace q254 := eq_true q254
      go_wp2
      go_roundg k1
      case measure => have := HK1.out; omega
      case rel => exact ⟨(wrap64 (D1 + 1)), (by first | rfl | simp | simp [*]), H', ⟨by have := HK1.out; omega⟩, Cmp.bq D0, ⟨Cmp.g HB.out⟩⟩
    ·rw [if_neg c5] at H; exact absurd H (by simp)
   ·rw [if_neg c4] at H
    have c4b0 : decide (D1 < (l0_2.length : Int)) = false := decide_eq_false c4
    clear c4
    obtain rfl := Option.some.inj H
    have Df : wr.cell? ⟨D2, 0, none⟩ = some (.int .i64 a0_0) := (blk_cell D0.out 0).trans rfl
    have Dg : wr.cell? ⟨D2, 1, none⟩ = some (.int .i64 a0_1) := (blk_cell D0.out 1).trans rfl
    have Dh : wr.cell? ⟨D2, 2, none⟩ = some (.slice A0_2 l0_2.length c0_2) := (blk_cell D0.out 2).trans rfl
    have Do := blk_frozen D0.out 0; have Dp := blk_frozen D0.out 1; have Dq := blk_frozen D0.out 2
    go_wp2
    go_ret
    exact ⟨by first | rfl | (simp [errW_none, errW_some] <;> rfl) | (simp [*, errW_none, errW_some] <;> rfl), Cmp.g HB.out⟩

end Go.Proofs.Ytgcipecdaimjfaa.PFnCredentials
