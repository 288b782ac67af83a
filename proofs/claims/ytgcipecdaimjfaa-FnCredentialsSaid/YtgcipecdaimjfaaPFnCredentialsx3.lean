/- Printed functions of the program (by a changed copy of the printer). No condition. -/
import Derived.Test.YtgcipecdaimjfaaCmp
import Derived.Test.YtgcipecdaimjfaaPFnCredentialsx0
import Derived.Test.YtgcipecdaimjfaaPFnCredentialsx2
namespace Go.Proofs.Ytgcipecdaimjfaa.PFnCredentials
open Go.Proofs.Ytgcipecdaimjfaa
open Go.RowKit Go.Proofs.YtgcipecdaimjfaaW.PrintWords Go.Proofs.YtgcipecdaimjfaaW.PrintLast Go.Proofs.YtgcipecdaimjfaaW.PrintMore
attribute [local go_sem] max2_int min2_int max_two min_two max_three min_three max_four min_four   -- for this text's walks alone
set_option linter.unusedVariables false
set_option linter.unusedSimpArgs false

/-! ### spec_IsValidAccount: function 58 -/
mutual
def spec_IsValidAccount.l0 : Nat → Int → Int → Int → List (S35) → Option (Bool)
  | 0, _, _, _, _ => none
  | k + 1, x3, x136000, x136001, x136002 => if x3 < (x136002.length : Int) then (if 0 ≤ x3 then ((spec_l1In.f ((rd_T35 x136002 x3).f0) 0 1000000).bind fun t140 => (if t140 = true then (if x3 > 0 then (if 0 ≤ (wrap64 (x3 - 1)) then (if (wrap64 (x3 - 1)) < (x136002.length : Int) then (if ((rd_T35 x136002 (wrap64 (x3 - 1))).f0) ≥ ((rd_T35 x136002 x3).f0) then (spec_IsValidAccount.j1 k x3 true x136000 x136001 x136002 ((rd_T35 x136002 x3).f0) ((rd_T35 x136002 x3).f1) ((rd_T35 x136002 x3).f2) ((rd_T35 x136002 x3).f3)) else ((spec_PrivateKey.f k ((rd_T35 x136002 x3).f1)).bind fun t142 => (if t142 = 0 then (spec_IsValidAccount.j1 k x3 true x136000 x136001 x136002 ((rd_T35 x136002 x3).f0) ((rd_T35 x136002 x3).f1) ((rd_T35 x136002 x3).f2) ((rd_T35 x136002 x3).f3)) else ((spec_l1In.f ((rd_T35 x136002 x3).f2) 0 1000000).bind fun t143 => (spec_IsValidAccount.j1 k x3 (!t143) x136000 x136001 x136002 ((rd_T35 x136002 x3).f0) ((rd_T35 x136002 x3).f1) ((rd_T35 x136002 x3).f2) ((rd_T35 x136002 x3).f3)))))) else (none)) else (none)) else ((spec_PrivateKey.f k ((rd_T35 x136002 x3).f1)).bind fun t144 => (if t144 = 0 then (spec_IsValidAccount.j1 k x3 true x136000 x136001 x136002 ((rd_T35 x136002 x3).f0) ((rd_T35 x136002 x3).f1) ((rd_T35 x136002 x3).f2) ((rd_T35 x136002 x3).f3)) else ((spec_l1In.f ((rd_T35 x136002 x3).f2) 0 1000000).bind fun t145 => (spec_IsValidAccount.j1 k x3 (!t145) x136000 x136001 x136002 ((rd_T35 x136002 x3).f0) ((rd_T35 x136002 x3).f1) ((rd_T35 x136002 x3).f2) ((rd_T35 x136002 x3).f3)))))) else (spec_IsValidAccount.j1 k x3 true x136000 x136001 x136002 ((rd_T35 x136002 x3).f0) ((rd_T35 x136002 x3).f1) ((rd_T35 x136002 x3).f2) ((rd_T35 x136002 x3).f3)))) else (none)) else ((spec_l1In.f x136000 0 1000000).bind fun t136 => (if t136 = true then ((spec_l1In.f x136001 1 3).bind fun t137 => (if t137 = true then (some (decide ((x136002.length : Int) ≤ 8))) else (some false))) else (some false)))
def spec_IsValidAccount.j1 : Nat → Int → Bool → Int → Int → List (S35) → Int → Int → Int → Bool → Option (Bool)
  | 0, _, _, _, _, _, _, _, _, _ => none
  | k + 1, x3, x49, x136000, x136001, x136002, x140000, x140001, x140002, x140003 => if x49 = true then (some false) else (spec_IsValidAccount.l1 k x3 0 x136000 x136001 x136002 x140000 x140001 x140002 x140003)
def spec_IsValidAccount.l1 : Nat → Int → Int → Int → Int → List (S35) → Int → Int → Int → Bool → Option (Bool)
  | 0, _, _, _, _, _, _, _, _, _ => none
  | k + 1, x3, x5, x136000, x136001, x136002, x140000, x140001, x140002, x140003 => if x5 < x3 then (if 0 ≤ x5 then (if x5 < (x136002.length : Int) then (if ((rd_T35 x136002 x5).f1) = x140001 then (some false) else (spec_IsValidAccount.l1 k x3 (wrap64 (x5 + 1)) x136000 x136001 x136002 x140000 x140001 x140002 x140003)) else (none)) else (none)) else (spec_IsValidAccount.l0 k (wrap64 (x3 + 1)) x136000 x136001 x136002)
end
def spec_IsValidAccount.f (k : Nat) (a0_0 : Int) (a0_1 : Int) (l0_2 : List (S35)) : Option (Bool) := spec_IsValidAccount.l0 k 0 a0_0 a0_1 l0_2
theorem spec_IsValidAccount.mono_l : ∀ k, (∀ y0 y1 y2 y3, LeO (spec_IsValidAccount.l0 k y0 y1 y2 y3) (spec_IsValidAccount.l0 (k + 1) y0 y1 y2 y3)) ∧ (∀ y0 y1 y2 y3 y4 y5 y6 y7 y8, LeO (spec_IsValidAccount.j1 k y0 y1 y2 y3 y4 y5 y6 y7 y8) (spec_IsValidAccount.j1 (k + 1) y0 y1 y2 y3 y4 y5 y6 y7 y8)) ∧ (∀ y0 y1 y2 y3 y4 y5 y6 y7 y8, LeO (spec_IsValidAccount.l1 k y0 y1 y2 y3 y4 y5 y6 y7 y8) (spec_IsValidAccount.l1 (k + 1) y0 y1 y2 y3 y4 y5 y6 y7 y8))
  | 0 => ⟨fun _ _ _ _ r h => by simp [spec_IsValidAccount.l0] at h, fun _ _ _ _ _ _ _ _ _ r h => by simp [spec_IsValidAccount.j1] at h, fun _ _ _ _ _ _ _ _ _ r h => by simp [spec_IsValidAccount.l1] at h⟩
  | k + 1 => by
    obtain ⟨ih0, ih1, ih2⟩ := spec_IsValidAccount.mono_l k
    refine ⟨?_, ?_, ?_⟩
    · intro y0 y1 y2 y3
      unfold spec_IsValidAccount.l0
      repeat' first
      | (with_reducible exact ih0 _ _ _ _)
      | (with_reducible exact ih1 _ _ _ _ _ _ _ _ _)
      | (with_reducible exact ih2 _ _ _ _ _ _ _ _ _)
      | (with_reducible exact spec_PrivateKey.mono _ _)
      | (with_reducible exact LeO.refl _)
      | (with_reducible exact LeO.none _)
      | (with_reducible refine LeO.ite ?_ ?_)
      | (with_reducible refine LeO.bind ?_ (fun _ => ?_))
      | exact ih0 _ _ _ _
      | exact ih1 _ _ _ _ _ _ _ _ _
      | exact ih2 _ _ _ _ _ _ _ _ _
      | exact spec_PrivateKey.mono _ _
      | exact LeO.none _
      | refine LeO.ite ?_ ?_
      | refine LeO.bind ?_ (fun _ => ?_)
    · intro y0 y1 y2 y3 y4 y5 y6 y7 y8
      unfold spec_IsValidAccount.j1
      repeat' first
      | (with_reducible exact ih0 _ _ _ _)
      | (with_reducible exact ih1 _ _ _ _ _ _ _ _ _)
      | (with_reducible exact ih2 _ _ _ _ _ _ _ _ _)
      | (with_reducible exact spec_PrivateKey.mono _ _)
      | (with_reducible exact LeO.refl _)
      | (with_reducible exact LeO.none _)
      | (with_reducible refine LeO.ite ?_ ?_)
      | (with_reducible refine LeO.bind ?_ (fun _ => ?_))
      | exact ih0 _ _ _ _
      | exact ih1 _ _ _ _ _ _ _ _ _
      | exact ih2 _ _ _ _ _ _ _ _ _
      | exact spec_PrivateKey.mono _ _
      | exact LeO.none _
      | refine LeO.ite ?_ ?_
      | refine LeO.bind ?_ (fun _ => ?_)
    · intro y0 y1 y2 y3 y4 y5 y6 y7 y8
      unfold spec_IsValidAccount.l1
      repeat' first
      | (with_reducible exact ih0 _ _ _ _)
      | (with_reducible exact ih1 _ _ _ _ _ _ _ _ _)
      | (with_reducible exact ih2 _ _ _ _ _ _ _ _ _)
      | (with_reducible exact spec_PrivateKey.mono _ _)
      | (with_reducible exact LeO.refl _)
      | (with_reducible exact LeO.none _)
      | (with_reducible refine LeO.ite ?_ ?_)
      | (with_reducible refine LeO.bind ?_ (fun _ => ?_))
      | exact ih0 _ _ _ _
      | exact ih1 _ _ _ _ _ _ _ _ _
      | exact ih2 _ _ _ _ _ _ _ _ _
      | exact spec_PrivateKey.mono _ _
      | exact LeO.none _
      | refine LeO.ite ?_ ?_
      | refine LeO.bind ?_ (fun _ => ?_)
theorem spec_IsValidAccount.mono : ∀ a0 a1 a2 k, LeO (spec_IsValidAccount.f k a0 a1 a2) (spec_IsValidAccount.f (k + 1) a0 a1 a2) := by
  intro a0 a1 a2 k
  obtain ⟨ih0, ih1, ih2⟩ := spec_IsValidAccount.mono_l k
  unfold spec_IsValidAccount.f
  repeat' first
      | (with_reducible exact ih0 _ _ _ _)
      | (with_reducible exact ih1 _ _ _ _ _ _ _ _ _)
      | (with_reducible exact ih2 _ _ _ _ _ _ _ _ _)
      | (with_reducible exact spec_PrivateKey.mono _ _)
      | (with_reducible exact LeO.refl _)
      | (with_reducible exact LeO.none _)
      | (with_reducible refine LeO.ite ?_ ?_)
      | (with_reducible refine LeO.bind ?_ (fun _ => ?_))
      | exact ih0 _ _ _ _
      | exact ih1 _ _ _ _ _ _ _ _ _
      | exact ih2 _ _ _ _ _ _ _ _ _
      | exact spec_PrivateKey.mono _ _
      | exact LeO.none _
      | refine LeO.ite ?_ ?_
      | refine LeO.bind ?_ (fun _ => ?_)
def spec_IsValidAccount.T5 : Bool × List (List Nat × List Nat) := (true, [([], []), ([0], [0]), ([1], [1]), ([2], [2]), ([3, 2], [3]), ([4], [4]), ([5, 4], [4, 5]), ([6, 4, 4], [4, 6]), ([7], [7]), ([8, 7], [7, 8]), ([7], [7]), ([10, 7], [7, 10]), ([9, 11, 7], [7, 9, 11]), ([12, 7], [7, 12]), ([13, 7], [7, 13]), ([7], [7]), ([15, 7], [7, 15]), ([14, 16, 7], [7, 14, 16]), ([7, 17, 4], [4, 7, 17]), ([4, 18], [4, 18]), ([19, 7], [19]), ([20], [20]), ([21, 20], [20, 21]), ([22, 20, 20], [20, 22]), ([23, 20], [20, 23]), ([20, 24], [20, 24]), ([25, 23], [25]), ([26], [26]), ([27, 26], [26, 27]), ([28, 26, 26], [26, 28]), ([29, 26], [26, 29]), ([26, 30], [26, 30])])
def spec_IsValidAccount.B5 : List Nat := [0, 1, 3, 7, 15, 31, 63, 127, 255, 511, 255, 1279, 4095, 8191, 16383, 255, 33023, 131071, 262143, 524287, 1048575, 2097151, 4194303, 8388607, 16777215, 33554431, 67108863, 134217727, 268435455, 536870911, 1073741823, 2147483647]
theorem spec_IsValidAccount.tab5 : rtab .any (opsOf Try.f58 5) = spec_IsValidAccount.T5 := by kernel_rfl
theorem spec_IsValidAccount.bits5 : waitsOk spec_IsValidAccount.T5.2 spec_IsValidAccount.B5 = true := by kernel_rfl
def spec_IsValidAccount.T10 : Bool × List (List Nat × List Nat) := (true, [([], []), ([0], [0]), ([], []), ([1, 2], [1, 2]), ([3], [3]), ([4], [4]), ([], []), ([6], [6]), ([5, 7], [5, 7])])
def spec_IsValidAccount.B10 : List Nat := [0, 1, 0, 7, 15, 31, 0, 64, 255]
theorem spec_IsValidAccount.tab10 : rtab .any (opsOf Try.f58 10) = spec_IsValidAccount.T10 := by kernel_rfl
theorem spec_IsValidAccount.bits10 : waitsOk spec_IsValidAccount.T10.2 spec_IsValidAccount.B10 = true := by kernel_rfl
set_option maxHeartbeats 8000000 in
set_option maxRecDepth 100000 in
theorem spec_IsValidAccount.calls (k : Nat) (a0_0 : Int) (a0_1 : Int) (A0_2 : Option Addr) (c0_2 : Nat) (l0_2 : List (S35)) (r : Bool) (w : World) (hr0_2 : Kd.C k35 w A0_2 l0_2.length l0_2) (hc0_2 : l0_2.length ≤ c0_2) (h : spec_IsValidAccount.f k a0_0 a0_1 l0_2 = some r) :
    Calls Try.prog 58 #[.agg #[.int .i64 a0_0, .int .i64 a0_1, .slice A0_2 l0_2.length c0_2]] w fun e w' => e = .returned (.bool r) ∧ Below w.heap.size w w' := by
 have hu26 := Try.underlying26; have hu35 := Try.underlying35; have Dk := Aside0.mk hr0_2; have HC0_2 := Aside0.mk hc0_2; clear hr0_2 hc0_2
 have HB := Aside0.mk (Below.refl w.heap.size w)
 have H : (spec_IsValidAccount.l0 k 0 a0_0 a0_1 l0_2) = some r := h
 clear h
 have H' := Aside0.mk H
 clear H
 go_enter Try.func58, Try.ntmps58
 go_wp2_with (first | ((with_reducible refine gate_dst (N := 1) rfl ?_); (try (refine gate_guard (by rfl) ?_; dsimp only)); refine box_event ?hg (N := 1) ?hd (cs := #[.int .i64 a0_0, .int .i64 a0_1, .slice A0_2 l0_2.length c0_2]) (t := 26) ?hr ?_; (case hd => rfl); (case hg => rfl); (case hr => first | (go_simp; done) | (go_simp; rfl)); intro D5 hg w2 hbox hb; have D3 := Aside0.mk (hbox); have Ff := Cmp.gw hg HB; have Fd := Cmp.gw hg HB; replace HB := Cmp.bs HB hb; clear hb hbox hg))
 go_loopg [3] k (fun kq v3 w' => ∃ (D0 : Int), v3 = .int .i64 D0 ∧ Aside0 (spec_IsValidAccount.l0 kq D0 a0_0 a0_1 l0_2 = some r) ∧ Aside0 (kq ≤ k) ∧ Aside0 (w'.heap[D5]? = some (.cells #[.int .i64 a0_0, .int .i64 a0_1, (.slice A0_2 l0_2.length c0_2)] 26 (0, 0))) ∧ Aside0 (Below w.heap.size w w'))
 case atStart => exact ⟨(0), (by first | rfl | simp | simp [*]), H', ⟨Nat.le_refl _⟩, Cmp.bq D3, ⟨Cmp.g HB.out⟩⟩
 case round =>
  clear H'
  (try clear p2)
  obtain ⟨D0, rfl, HA, HK1, D3, HB⟩ := hrel
  cases gk with
  | zero => exact absurd HA.out (by simp [spec_IsValidAccount.l0])
  | succ k1 =>
   have H := HA.out; clear HA
   simp only [spec_IsValidAccount.l0] at H
   by_cases c3 : D0 < (l0_2.length : Int)
   ·rw [if_pos c3] at H
    have c3b0 : decide (D0 < (l0_2.length : Int)) = true := decide_eq_true c3
    clear c3
    by_cases c4 : 0 ≤ D0
    ·rw [if_pos c4] at H; have c4b0 : decide (0 ≤ D0) = true := decide_eq_true c4; clear c4; have HC5 := Aside0.mk H; clear H
     have Et : wr.cell? ⟨D5, 0, none⟩ = some (.int .i64 a0_0) := (blk_cell D3.out 0).trans rfl
     have Eu : wr.cell? ⟨D5, 1, none⟩ = some (.int .i64 a0_1) := (blk_cell D3.out 1).trans rfl
     have Ev : wr.cell? ⟨D5, 2, none⟩ = some (.slice A0_2 l0_2.length c0_2) := (blk_cell D3.out 2).trans rfl
     have F0 := blk_frozen D3.out 0; have F1 := blk_frozen D3.out 1; have F2 := blk_frozen D3.out 2
     have p138 : 0 ≤ (D0 : Int) := of_decide_eq_true Cmp.d
     have q138 : D0 < (l0_2.length : Int) := of_decide_eq_true Cmp.d
     obtain ⟨D4, e138, Ds, Dt, Du, Dv⟩ := at_T35 Dk.out D0 p138 q138
     cases e138
     replace Ds := Cmp.hc HB Ds
     replace Dt := Cmp.hc HB Dt
     replace Du := Cmp.hc HB Du
     replace Dv := Cmp.hc HB Dv
     replace p138 := eq_true p138; replace q138 := eq_true q138
     go_upto_region 5 with (first | ((with_reducible refine gate_dst (N := 4) rfl ?_); (try (refine gate_guard (by rfl) ?_; dsimp only)); refine box_event ?hg (N := 4) ?hd (cs := #[.int .i64 0, .int .i64 0, .int .i64 0, .bool false]) (t := 35) ?hr ?_; (case hd => rfl); (case hg => rfl); (case hr => first | (go_simp; done) | (go_simp; rfl)); intro D2 hg w7 hbox hb; have D1 := Aside0.mk (hbox); have Fg := Cmp.gw hg HB; have Fe := Cmp.gw hg HB; have Dx := Cmp.nl hg D3; have Dy := Cmp.ng hg D3; replace D3 := Cmp.be D3 hb; replace HB := Cmp.bs HB hb; clear hb hbox hg; have Fj := Dy.out; have Fk := Dx.out; have Ew := Cmp.c0 D1; have Ex := Cmp.c1 D1; have Ey := Cmp.c2 D1; have Ez := Cmp.c3 D1; have F3 := blk_frozen D1.out 0; have F4 := blk_frozen D1.out 1; have F5 := blk_frozen D1.out 2; have F6 := blk_frozen D1.out 3))
     (try simp only [Act.put, List.setIfInBounds_toArray, List.set_cons_zero, List.set_cons_succ])
     go_cut [49] (fun v49 wc => ∃ (kq : Nat) (Dw : Bool), v49 = .bool Dw ∧ Aside0 (spec_IsValidAccount.j1 kq D0 Dw a0_0 a0_1 l0_2 ((rd_T35 l0_2 D0).f0) ((rd_T35 l0_2 D0).f1) ((rd_T35 l0_2 D0).f2) ((rd_T35 l0_2 D0).f3) = some r) ∧ Aside0 (kq ≤ k1) ∧ Aside0 (wc.heap[D5]? = some (.cells #[.int .i64 a0_0, .int .i64 a0_1, (.slice (some D4) l0_2.length c0_2)] 26 (0, 0))) ∧ Aside0 (wc.heap[D2]? = some (.cells #[.int .i64 ((rd_T35 l0_2 D0).f0), .int .i64 ((rd_T35 l0_2 D0).f1), .int .i64 ((rd_T35 l0_2 D0).f2), .bool ((rd_T35 l0_2 D0).f3)] 35 (0, 0))) ∧ Aside0 (Below w.heap.size w wc))
     case first =>
      have H := HC5.out; clear HC5; replace H := Option.bind_eq_some_iff.mp H; obtain ⟨F9, E2, H⟩ := H; (try dsimp only at H); have E1 := Aside0.mk E2; clear E2
      by_cases c11 : F9 = true
      ·subst c11; rw [if_pos rfl] at H
       by_cases c12 : D0 > 0
       ·rw [if_pos c12] at H; have c12b0 : decide (0 < D0) = true := decide_eq_true c12; clear c12
        (first | rw [c12b0] | (simp only [i64_w, i32_w]; rw [c12b0]) | skip)
        obtain ⟨D6, hji13⟩ : ∃ j_ : Int, (wrap64 (D0 - 1)) = j_ := ⟨_, rfl⟩
        replace H : (if 0 ≤ (D6) then (if (D6) < (l0_2.length : Int) then (if ((rd_T35 l0_2 (D6)).f0) ≥ ((rd_T35 l0_2 D0).f0) then (spec_IsValidAccount.j1 k1 D0 true a0_0 a0_1 l0_2 ((rd_T35 l0_2 D0).f0) ((rd_T35 l0_2 D0).f1) ((rd_T35 l0_2 D0).f2) ((rd_T35 l0_2 D0).f3)) else ((spec_PrivateKey.f k1 ((rd_T35 l0_2 D0).f1)).bind fun Dp => (if Dp = 0 then (spec_IsValidAccount.j1 k1 D0 true a0_0 a0_1 l0_2 ((rd_T35 l0_2 D0).f0) ((rd_T35 l0_2 D0).f1) ((rd_T35 l0_2 D0).f2) ((rd_T35 l0_2 D0).f3)) else ((spec_l1In.f ((rd_T35 l0_2 D0).f2) 0 1000000).bind fun E0 => (spec_IsValidAccount.j1 k1 D0 (!E0) a0_0 a0_1 l0_2 ((rd_T35 l0_2 D0).f0) ((rd_T35 l0_2 D0).f1) ((rd_T35 l0_2 D0).f2) ((rd_T35 l0_2 D0).f3)))))) else (none)) else (none)) = some r := by first | (rw [hji13] at H; exact H) | (simp only [hji13] at H ⊢; exact H)
        (try rw [hji13] at E1)
        have hji13w : (IntKind.i64.wrap (D0 - 1)) = D6 := (i64_w _).trans hji13
        by_cases c14 : 0 ≤ (D6)
        ·rw [if_pos c14] at H; have c14b0 : decide (0 ≤ (D6)) = true := decide_eq_true c14; clear c14
         by_cases c15 : (D6) < (l0_2.length : Int)
         ·rw [if_pos c15] at H
          have c15b0 : decide ((D6) < (l0_2.length : Int)) = true := decide_eq_true c15
          clear c15
          by_cases c16 : ((rd_T35 l0_2 (D6)).f0) ≥ ((rd_T35 l0_2 D0).f0)
          ·rw [if_pos c16] at H; have c16b0 : decide (((rd_T35 l0_2 D0).f0) ≤ ((rd_T35 l0_2 (D6)).f0)) = true := decide_eq_true c16; clear c16
           have H' := Aside0.mk H
           clear H
           try go_wp2
           have n0_ : Aside0 (((((w7.setCell ⟨D2, 0, none⟩ (.int .i64 ((rd_T35 l0_2 D0).f0))).setCell ⟨D2, 1, none⟩ (.int .i64 ((rd_T35 l0_2 D0).f1))).setCell ⟨D2, 2, none⟩ (.int .i64 ((rd_T35 l0_2 D0).f2))).setCell ⟨D2, 3, none⟩ (.bool ((rd_T35 l0_2 D0).f3))).heap[D5]? = some (.cells #[.int .i64 a0_0, .int .i64 a0_1, .slice (some D4) l0_2.length c0_2] 26 (0, 0))) := ⟨Cmp.bw D3.out⟩
           have n1_ : Aside0 (((((w7.setCell ⟨D2, 0, none⟩ (.int .i64 ((rd_T35 l0_2 D0).f0))).setCell ⟨D2, 1, none⟩ (.int .i64 ((rd_T35 l0_2 D0).f1))).setCell ⟨D2, 2, none⟩ (.int .i64 ((rd_T35 l0_2 D0).f2))).setCell ⟨D2, 3, none⟩ (.bool ((rd_T35 l0_2 D0).f3))).heap[D2]? = some (.cells #[.int .i64 ((rd_T35 l0_2 D0).f0), .int .i64 ((rd_T35 l0_2 D0).f1), .int .i64 ((rd_T35 l0_2 D0).f2), .bool ((rd_T35 l0_2 D0).f3)] 35 (0, 0))) := ⟨Cmp.bw D1.out⟩
           have n2_ : Aside0 (Below w.heap.size w ((((w7.setCell ⟨D2, 0, none⟩ (.int .i64 ((rd_T35 l0_2 D0).f0))).setCell ⟨D2, 1, none⟩ (.int .i64 ((rd_T35 l0_2 D0).f1))).setCell ⟨D2, 2, none⟩ (.int .i64 ((rd_T35 l0_2 D0).f2))).setCell ⟨D2, 3, none⟩ (.bool ((rd_T35 l0_2 D0).f3)))) := ⟨Cmp.g HB.out⟩
           (try clear D3); (try clear D1); (try clear HB)
           generalize ((((w7.setCell ⟨D2, 0, none⟩ (.int .i64 ((rd_T35 l0_2 D0).f0))).setCell ⟨D2, 1, none⟩ (.int .i64 ((rd_T35 l0_2 D0).f1))).setCell ⟨D2, 2, none⟩ (.int .i64 ((rd_T35 l0_2 D0).f2))).setCell ⟨D2, 3, none⟩ (.bool ((rd_T35 l0_2 D0).f3))) = w17 at n0_ n1_ n2_ ⊢
           have D3 := n0_; have D1 := n1_; have HB := n2_; clear n0_ n1_ n2_; replace D3 := Aside0.mk (blk_drew D3.out); replace D1 := Aside0.mk (blk_drew D1.out); replace HB := Aside0.mk (below_drew1 HB.out)
           have p141 : 0 ≤ ((D6) : Int) := of_decide_eq_true Cmp.d
           have q141 : (D6) < (l0_2.length : Int) := of_decide_eq_true Cmp.d
           obtain ⟨Dq, e141, D8, D9, Da, Db⟩ := at_T35 Dk.out (D6) p141 q141
           have Df := Db; have De := Da; have Dd := D9; have Dc := D8
           obtain rfl : D4 = Dq := (by injection e141)
           replace D8 := Cmp.hc HB D8
           replace D9 := Cmp.hc HB D9
           replace Da := Cmp.hc HB Da
           replace Db := Cmp.hc HB Db
           replace p141 := eq_true p141; replace q141 := eq_true q141
           refine start_ (n := 32) (S := fun w' => w'.cell? ⟨D2, 0, none⟩ = some (.int .i64 ((rd_T35 l0_2 D0).f0)) ∧ w'.cell? ⟨D2, 1, none⟩ = some (.int .i64 ((rd_T35 l0_2 D0).f1)) ∧ w'.cell? ⟨D2, 2, none⟩ = some (.int .i64 ((rd_T35 l0_2 D0).f2)) ∧ w'.cell? ⟨D2, 3, none⟩ = some (.bool ((rd_T35 l0_2 D0).f3)) ∧ w'.cell? ⟨D5, 0, none⟩ = some (.int .i64 a0_0) ∧ w'.cell? ⟨D5, 1, none⟩ = some (.int .i64 a0_1) ∧ w'.cell? ⟨D5, 2, none⟩ = some (.slice (some D4) l0_2.length c0_2) ∧ w'.cell? (D4.add (((D6)).toNat * 4)) = some (.int .i64 ((rd_T35 l0_2 (D6)).f0)) ∧ w'.cell? ⟨(D4.add (((D6)).toNat * 4)).block, (D4.add (((D6)).toNat * 4)).off + 1, none⟩ = some (.int .i64 ((rd_T35 l0_2 (D6)).f1)) ∧ w'.cell? ⟨(D4.add (((D6)).toNat * 4)).block, (D4.add (((D6)).toNat * 4)).off + 2, none⟩ = some (.int .i64 ((rd_T35 l0_2 (D6)).f2)) ∧ w'.cell? ⟨(D4.add (((D6)).toNat * 4)).block, (D4.add (((D6)).toNat * 4)).off + 3, none⟩ = some (.bool ((rd_T35 l0_2 (D6)).f3))) (ds := []) (Cmp.bm 0 32) (by kernel_rfl) rfl rfl ⟨(Cmp.c0 D1 :), (Cmp.c1 D1 :), (Cmp.c2 D1 :), (Cmp.c3 D1 :), (Cmp.c0 D3 :), (Cmp.c1 D3 :), (Cmp.c2 D3 :), (Cmp.hc HB Dc :), (Cmp.hc HB Dd :), (Cmp.hc HB De :), (Cmp.hc HB Df :)⟩ (fun hHeld => ?_); refine with_tabW spec_IsValidAccount.tab5 spec_IsValidAccount.bits5 (fun HT_ HW_ => ?_)
           generalize w17.drew = w18 at D3 D1 HB D8 D9 Da Db hHeld ⊢
           refine Cmp.pu HT_ 0 18 (Cmp.bm 1 31) ?_; refine Cmp.tk HT_ HW_ hHeld 1 19 (Cmp.bm 2 30) ?_
           refine one_ (i := 2) (N := some 20) (Cmp.bm 3 29) rfl rfl (one_of HT_.out (by kernel_rfl)) (by decide) (fun K hK => ?_)
           refine goes_ Try.func62 (by kernel_rfl) rfl #[.int .i64 ((rd_T35 l0_2 D0).f0), .int .i64 0, .int .i64 1000000] (by rfl) rfl rfl Cmp.q ?_
           with_reducible refine (spec_l1In.calls ((rd_T35 l0_2 D0).f0) 0 1000000 true _ E1.out).mono ?_
           rintro e w' ⟨rfl, ⟨nd, rfl⟩⟩; refine ⟨_, rfl, ?_⟩
           refine hK.out _ _ ⟨(Cmp.c0 D1 :), (Cmp.c1 D1 :), (Cmp.c2 D1 :), (Cmp.c3 D1 :), (Cmp.c0 D3 :), (Cmp.c1 D3 :), (Cmp.c2 D3 :), (Cmp.hc HB Dc :), (Cmp.hc HB Dd :), (Cmp.hc HB De :), (Cmp.hc HB Df :)⟩ (fun hHeld => ?_)
           clear hK K
           refine norm_ (a' := ?_) ?_ ?_
           rotate_left
           ·show Act.put _ (some 20) _ = _
            simp only [Act.put, Cmp.s, Cmp.z, Cmp.c, i64_w, i32_w]; rfl
           refine Cmp.pu HT_ 3 21 (Cmp.bm 4 28) ?_; refine Cmp.pu HT_ 4 22 (Cmp.bm 5 27) ?_; refine Cmp.pu HT_ 5 23 (Cmp.bm 6 26) ?_; refine Cmp.pu HT_ 6 24 (Cmp.bm 7 25) ?_; refine Cmp.pu HT_ 7 25 (Cmp.bm 8 24) ?_; refine Cmp.pu HT_ 8 26 (Cmp.bm 9 23) ?_; refine Cmp.pu HT_ 10 28 (Cmp.bb 32 1535) ?_; refine Cmp.pu HT_ 11 29 (Cmp.bb 32 3583) ?_; refine Cmp.pu HT_ 15 33 (Cmp.bb 32 36351) ?_; refine Cmp.tk HT_ HW_ hHeld 9 27 (Cmp.bb 32 36863) ?_; refine Cmp.pu HT_ 12 30 (Cmp.bb 32 40959) ?_; refine Cmp.pu HT_ 13 31 (Cmp.bb 32 49151) ?_; refine Cmp.tk HT_ HW_ hHeld 14 32 (Cmp.bm 16 16) ?_; refine Cmp.tk HT_ HW_ hHeld 16 34 (Cmp.bm 17 15) ?_; refine Cmp.pu HT_ 17 35 (Cmp.bm 18 14) ?_; refine Cmp.pu HT_ 18 36 (Cmp.bm 19 13) ?_; refine Cmp.pu HT_ 19 37 (Cmp.bm 20 12) ?_; refine Cmp.pu HT_ 20 38 (Cmp.bm 21 11) ?_; refine Cmp.pv HT_ 21 39 (Cmp.bm 22 10) ?_; refine Cmp.pv HT_ 22 40 (Cmp.bm 23 9) ?_; refine Cmp.pv HT_ 23 41 (Cmp.bm 24 8) ?_; refine Cmp.pv HT_ 24 42 (Cmp.bm 25 7) ?_; refine Cmp.pu HT_ 25 43 (Cmp.bm 26 6) ?_; refine Cmp.pu HT_ 26 44 (Cmp.bm 27 5) ?_; refine Cmp.pv HT_ 27 45 (Cmp.bm 28 4) ?_; refine Cmp.pv HT_ 28 46 (Cmp.bm 29 3) ?_; refine Cmp.pv HT_ 29 47 (Cmp.bm 30 2) ?_; refine Cmp.pv HT_ 30 48 (Cmp.bm 31 1) ?_; refine Cmp.pu HT_ 31 49 (Cmp.bm 32 0) ?_
           refine done_ (done_of HT_.out (by kernel_rfl)) ?_
           try go_wp2
           go_meet
           case rel => exact ⟨_, (true), (by first | rfl | simp | simp [*]), H', ⟨by have := HK1.out; first | omega | exact Nat.le_refl _⟩, Cmp.bq D3, Cmp.bq D1, ⟨Cmp.g HB.out⟩⟩
          ·rw [if_neg c16] at H; have c16b0 : decide (((rd_T35 l0_2 D0).f0) ≤ ((rd_T35 l0_2 (D6)).f0)) = false := decide_eq_false c16; clear c16; replace H := Option.bind_eq_some_iff.mp H; obtain ⟨Dp, E3, H⟩ := H; (try dsimp only at H); have Fa := Aside0.mk E3; clear E3
           by_cases c20 : Dp = 0
           ·rw [if_pos c20] at H; have c20b0 : (Dp == 0) = true := beq_iff_eq.mpr c20; have c20b1 : (Dp != 0) = false := bne_eq_false_iff_eq.mpr c20; clear c20
            have H' := Aside0.mk H
            clear H
            try go_wp2
            have n0_ : Aside0 (((((w7.setCell ⟨D2, 0, none⟩ (.int .i64 ((rd_T35 l0_2 D0).f0))).setCell ⟨D2, 1, none⟩ (.int .i64 ((rd_T35 l0_2 D0).f1))).setCell ⟨D2, 2, none⟩ (.int .i64 ((rd_T35 l0_2 D0).f2))).setCell ⟨D2, 3, none⟩ (.bool ((rd_T35 l0_2 D0).f3))).heap[D5]? = some (.cells #[.int .i64 a0_0, .int .i64 a0_1, .slice (some D4) l0_2.length c0_2] 26 (0, 0))) := ⟨Cmp.bw D3.out⟩
            have n1_ : Aside0 (((((w7.setCell ⟨D2, 0, none⟩ (.int .i64 ((rd_T35 l0_2 D0).f0))).setCell ⟨D2, 1, none⟩ (.int .i64 ((rd_T35 l0_2 D0).f1))).setCell ⟨D2, 2, none⟩ (.int .i64 ((rd_T35 l0_2 D0).f2))).setCell ⟨D2, 3, none⟩ (.bool ((rd_T35 l0_2 D0).f3))).heap[D2]? = some (.cells #[.int .i64 ((rd_T35 l0_2 D0).f0), .int .i64 ((rd_T35 l0_2 D0).f1), .int .i64 ((rd_T35 l0_2 D0).f2), .bool ((rd_T35 l0_2 D0).f3)] 35 (0, 0))) := ⟨Cmp.bw D1.out⟩
            have n2_ : Aside0 (Below w.heap.size w ((((w7.setCell ⟨D2, 0, none⟩ (.int .i64 ((rd_T35 l0_2 D0).f0))).setCell ⟨D2, 1, none⟩ (.int .i64 ((rd_T35 l0_2 D0).f1))).setCell ⟨D2, 2, none⟩ (.int .i64 ((rd_T35 l0_2 D0).f2))).setCell ⟨D2, 3, none⟩ (.bool ((rd_T35 l0_2 D0).f3)))) := ⟨Cmp.g HB.out⟩
            (try clear D3); (try clear D1); (try clear HB)
            generalize ((((w7.setCell ⟨D2, 0, none⟩ (.int .i64 ((rd_T35 l0_2 D0).f0))).setCell ⟨D2, 1, none⟩ (.int .i64 ((rd_T35 l0_2 D0).f1))).setCell ⟨D2, 2, none⟩ (.int .i64 ((rd_T35 l0_2 D0).f2))).setCell ⟨D2, 3, none⟩ (.bool ((rd_T35 l0_2 D0).f3))) = w21 at n0_ n1_ n2_ ⊢
            have D3 := n0_; have D1 := n1_; have HB := n2_; clear n0_ n1_ n2_; replace D3 := Aside0.mk (blk_drew D3.out); replace D1 := Aside0.mk (blk_drew D1.out); replace HB := Aside0.mk (below_drew1 HB.out)
            have p141 : 0 ≤ ((D6) : Int) := of_decide_eq_true Cmp.d
            have q141 : (D6) < (l0_2.length : Int) := of_decide_eq_true Cmp.d
            obtain ⟨Dq, e141, D8, D9, Da, Db⟩ := at_T35 Dk.out (D6) p141 q141
            have Df := Db; have De := Da; have Dd := D9; have Dc := D8
            obtain rfl : D4 = Dq := (by injection e141)
            replace D8 := Cmp.hc HB D8
            replace D9 := Cmp.hc HB D9
            replace Da := Cmp.hc HB Da
            replace Db := Cmp.hc HB Db
            replace p141 := eq_true p141; replace q141 := eq_true q141
            refine start_ (n := 32) (S := fun w' => w'.cell? ⟨D2, 0, none⟩ = some (.int .i64 ((rd_T35 l0_2 D0).f0)) ∧ w'.cell? ⟨D2, 1, none⟩ = some (.int .i64 ((rd_T35 l0_2 D0).f1)) ∧ w'.cell? ⟨D2, 2, none⟩ = some (.int .i64 ((rd_T35 l0_2 D0).f2)) ∧ w'.cell? ⟨D2, 3, none⟩ = some (.bool ((rd_T35 l0_2 D0).f3)) ∧ w'.cell? ⟨D5, 0, none⟩ = some (.int .i64 a0_0) ∧ w'.cell? ⟨D5, 1, none⟩ = some (.int .i64 a0_1) ∧ w'.cell? ⟨D5, 2, none⟩ = some (.slice (some D4) l0_2.length c0_2) ∧ w'.cell? (D4.add (((D6)).toNat * 4)) = some (.int .i64 ((rd_T35 l0_2 (D6)).f0)) ∧ w'.cell? ⟨(D4.add (((D6)).toNat * 4)).block, (D4.add (((D6)).toNat * 4)).off + 1, none⟩ = some (.int .i64 ((rd_T35 l0_2 (D6)).f1)) ∧ w'.cell? ⟨(D4.add (((D6)).toNat * 4)).block, (D4.add (((D6)).toNat * 4)).off + 2, none⟩ = some (.int .i64 ((rd_T35 l0_2 (D6)).f2)) ∧ w'.cell? ⟨(D4.add (((D6)).toNat * 4)).block, (D4.add (((D6)).toNat * 4)).off + 3, none⟩ = some (.bool ((rd_T35 l0_2 (D6)).f3))) (ds := []) (Cmp.bm 0 32) (by kernel_rfl) rfl rfl ⟨(Cmp.c0 D1 :), (Cmp.c1 D1 :), (Cmp.c2 D1 :), (Cmp.c3 D1 :), (Cmp.c0 D3 :), (Cmp.c1 D3 :), (Cmp.c2 D3 :), (Cmp.hc HB Dc :), (Cmp.hc HB Dd :), (Cmp.hc HB De :), (Cmp.hc HB Df :)⟩ (fun hHeld => ?_); refine with_tabW spec_IsValidAccount.tab5 spec_IsValidAccount.bits5 (fun HT_ HW_ => ?_)
            generalize w21.drew = w22 at D3 D1 HB D8 D9 Da Db hHeld ⊢
            refine Cmp.pu HT_ 0 18 (Cmp.bm 1 31) ?_; refine Cmp.tk HT_ HW_ hHeld 1 19 (Cmp.bm 2 30) ?_
            refine one_ (i := 2) (N := some 20) (Cmp.bm 3 29) rfl rfl (one_of HT_.out (by kernel_rfl)) (by decide) (fun K hK => ?_)
            refine goes_ Try.func62 (by kernel_rfl) rfl #[.int .i64 ((rd_T35 l0_2 D0).f0), .int .i64 0, .int .i64 1000000] (by rfl) rfl rfl Cmp.q ?_
            with_reducible refine (spec_l1In.calls ((rd_T35 l0_2 D0).f0) 0 1000000 true _ E1.out).mono ?_
            rintro e w' ⟨rfl, ⟨nd, rfl⟩⟩; refine ⟨_, rfl, ?_⟩
            refine hK.out _ _ ⟨(Cmp.c0 D1 :), (Cmp.c1 D1 :), (Cmp.c2 D1 :), (Cmp.c3 D1 :), (Cmp.c0 D3 :), (Cmp.c1 D3 :), (Cmp.c2 D3 :), (Cmp.hc HB Dc :), (Cmp.hc HB Dd :), (Cmp.hc HB De :), (Cmp.hc HB Df :)⟩ (fun hHeld => ?_)
            clear hK K
            refine norm_ (a' := ?_) ?_ ?_
            rotate_left
            ·show Act.put _ (some 20) _ = _
             simp only [Act.put, Cmp.s, Cmp.z, Cmp.c, i64_w, i32_w]; rfl
            refine Cmp.pu HT_ 3 21 (Cmp.bm 4 28) ?_; refine Cmp.pu HT_ 4 22 (Cmp.bm 5 27) ?_; refine Cmp.pu HT_ 5 23 (Cmp.bm 6 26) ?_; refine Cmp.pu HT_ 6 24 (Cmp.bm 7 25) ?_; refine Cmp.pu HT_ 7 25 (Cmp.bm 8 24) ?_; refine Cmp.pu HT_ 8 26 (Cmp.bm 9 23) ?_; refine Cmp.pu HT_ 10 28 (Cmp.bb 32 1535) ?_; refine Cmp.pu HT_ 11 29 (Cmp.bb 32 3583) ?_; refine Cmp.pu HT_ 15 33 (Cmp.bb 32 36351) ?_; refine Cmp.tk HT_ HW_ hHeld 9 27 (Cmp.bb 32 36863) ?_; refine Cmp.pu HT_ 12 30 (Cmp.bb 32 40959) ?_; refine Cmp.pu HT_ 13 31 (Cmp.bb 32 49151) ?_; refine Cmp.tk HT_ HW_ hHeld 14 32 (Cmp.bm 16 16) ?_; refine Cmp.tk HT_ HW_ hHeld 16 34 (Cmp.bm 17 15) ?_; refine Cmp.pu HT_ 17 35 (Cmp.bm 18 14) ?_; refine Cmp.pu HT_ 18 36 (Cmp.bm 19 13) ?_; refine Cmp.pu HT_ 19 37 (Cmp.bm 20 12) ?_; refine Cmp.pu HT_ 20 38 (Cmp.bm 21 11) ?_; refine Cmp.pu HT_ 21 39 (Cmp.bm 22 10) ?_; refine Cmp.tk HT_ HW_ hHeld 22 40 (Cmp.bm 23 9) ?_
            refine one_ (i := 23) (N := some 41) (Cmp.bm 24 8) rfl rfl (one_of HT_.out (by kernel_rfl)) (by decide) (fun K hK => ?_)
            refine goes_ Try.func115 (by kernel_rfl) rfl #[.int .i64 ((rd_T35 l0_2 D0).f1)] (by rfl) rfl rfl Cmp.q ?_
            with_reducible refine (spec_PrivateKey.calls k1 ((rd_T35 l0_2 D0).f1) Dp _ Fa.out).mono ?_
            rintro e w' ⟨rfl, ⟨nd, rfl⟩⟩; refine ⟨_, rfl, ?_⟩
            refine hK.out _ _ ⟨(Cmp.c0 D1 :), (Cmp.c1 D1 :), (Cmp.c2 D1 :), (Cmp.c3 D1 :), (Cmp.c0 D3 :), (Cmp.c1 D3 :), (Cmp.c2 D3 :), (Cmp.hc HB Dc :), (Cmp.hc HB Dd :), (Cmp.hc HB De :), (Cmp.hc HB Df :)⟩ (fun hHeld => ?_)
            clear hK K
            refine norm_ (a' := ?_) ?_ ?_
            rotate_left
            ·show Act.put _ (some 41) _ = _
             simp only [Act.put, Cmp.s, Cmp.z, Cmp.c, i64_w, i32_w]; rfl
            refine Cmp.pu HT_ 24 42 (Cmp.bm 25 7) ?_; refine Cmp.pu HT_ 25 43 (Cmp.bm 26 6) ?_; refine Cmp.pu HT_ 26 44 (Cmp.bm 27 5) ?_; refine Cmp.pv HT_ 27 45 (Cmp.bm 28 4) ?_; refine Cmp.pv HT_ 28 46 (Cmp.bm 29 3) ?_; refine Cmp.pv HT_ 29 47 (Cmp.bm 30 2) ?_; refine Cmp.pv HT_ 30 48 (Cmp.bm 31 1) ?_; refine Cmp.pu HT_ 31 49 (Cmp.bm 32 0) ?_
            refine done_ (done_of HT_.out (by kernel_rfl)) ?_
            try go_wp2
            go_meet
            case rel => exact ⟨_, (true), (by first | rfl | simp | simp [*]), H', ⟨by have := HK1.out; first | omega | exact Nat.le_refl _⟩, Cmp.bq D3, Cmp.bq D1, ⟨Cmp.g HB.out⟩⟩
           ·rw [if_neg c20] at H; have c20b0 : (Dp == 0) = false := beq_eq_false_iff_ne.mpr c20; have c20b1 : (Dp != 0) = true := bne_iff_ne.mpr c20; replace H := Option.bind_eq_some_iff.mp H; obtain ⟨E0, E4, H⟩ := H; (try dsimp only at H); have Fh := Aside0.mk E4; clear E4
            have H' := Aside0.mk H
            clear H
            try go_wp2
            have n0_ : Aside0 (((((w7.setCell ⟨D2, 0, none⟩ (.int .i64 ((rd_T35 l0_2 D0).f0))).setCell ⟨D2, 1, none⟩ (.int .i64 ((rd_T35 l0_2 D0).f1))).setCell ⟨D2, 2, none⟩ (.int .i64 ((rd_T35 l0_2 D0).f2))).setCell ⟨D2, 3, none⟩ (.bool ((rd_T35 l0_2 D0).f3))).heap[D5]? = some (.cells #[.int .i64 a0_0, .int .i64 a0_1, .slice (some D4) l0_2.length c0_2] 26 (0, 0))) := ⟨Cmp.bw D3.out⟩
            have n1_ : Aside0 (((((w7.setCell ⟨D2, 0, none⟩ (.int .i64 ((rd_T35 l0_2 D0).f0))).setCell ⟨D2, 1, none⟩ (.int .i64 ((rd_T35 l0_2 D0).f1))).setCell ⟨D2, 2, none⟩ (.int .i64 ((rd_T35 l0_2 D0).f2))).setCell ⟨D2, 3, none⟩ (.bool ((rd_T35 l0_2 D0).f3))).heap[D2]? = some (.cells #[.int .i64 ((rd_T35 l0_2 D0).f0), .int .i64 ((rd_T35 l0_2 D0).f1), .int .i64 ((rd_T35 l0_2 D0).f2), .bool ((rd_T35 l0_2 D0).f3)] 35 (0, 0))) := ⟨Cmp.bw D1.out⟩
            have n2_ : Aside0 (Below w.heap.size w ((((w7.setCell ⟨D2, 0, none⟩ (.int .i64 ((rd_T35 l0_2 D0).f0))).setCell ⟨D2, 1, none⟩ (.int .i64 ((rd_T35 l0_2 D0).f1))).setCell ⟨D2, 2, none⟩ (.int .i64 ((rd_T35 l0_2 D0).f2))).setCell ⟨D2, 3, none⟩ (.bool ((rd_T35 l0_2 D0).f3)))) := ⟨Cmp.g HB.out⟩
            (try clear D3); (try clear D1); (try clear HB)
            generalize ((((w7.setCell ⟨D2, 0, none⟩ (.int .i64 ((rd_T35 l0_2 D0).f0))).setCell ⟨D2, 1, none⟩ (.int .i64 ((rd_T35 l0_2 D0).f1))).setCell ⟨D2, 2, none⟩ (.int .i64 ((rd_T35 l0_2 D0).f2))).setCell ⟨D2, 3, none⟩ (.bool ((rd_T35 l0_2 D0).f3))) = w24 at n0_ n1_ n2_ ⊢
            have D3 := n0_; have D1 := n1_; have HB := n2_; clear n0_ n1_ n2_; replace D3 := Aside0.mk (blk_drew D3.out); replace D1 := Aside0.mk (blk_drew D1.out); replace HB := Aside0.mk (below_drew1 HB.out)
            have p141 : 0 ≤ ((D6) : Int) := of_decide_eq_true Cmp.d
            have q141 : (D6) < (l0_2.length : Int) := of_decide_eq_true Cmp.d
            obtain ⟨Dq, e141, D8, D9, Da, Db⟩ := at_T35 Dk.out (D6) p141 q141
            have Df := Db; have De := Da; have Dd := D9; have Dc := D8
            obtain rfl : D4 = Dq := (by injection e141)
            replace D8 := Cmp.hc HB D8
            replace D9 := Cmp.hc HB D9
            replace Da := Cmp.hc HB Da
            replace Db := Cmp.hc HB Db
            replace p141 := eq_true p141; replace q141 := eq_true q141
            refine start_ (n := 32) (S := fun w' => w'.cell? ⟨D2, 0, none⟩ = some (.int .i64 ((rd_T35 l0_2 D0).f0)) ∧ w'.cell? ⟨D2, 1, none⟩ = some (.int .i64 ((rd_T35 l0_2 D0).f1)) ∧ w'.cell? ⟨D2, 2, none⟩ = some (.int .i64 ((rd_T35 l0_2 D0).f2)) ∧ w'.cell? ⟨D2, 3, none⟩ = some (.bool ((rd_T35 l0_2 D0).f3)) ∧ w'.cell? ⟨D5, 0, none⟩ = some (.int .i64 a0_0) ∧ w'.cell? ⟨D5, 1, none⟩ = some (.int .i64 a0_1) ∧ w'.cell? ⟨D5, 2, none⟩ = some (.slice (some D4) l0_2.length c0_2) ∧ w'.cell? (D4.add (((D6)).toNat * 4)) = some (.int .i64 ((rd_T35 l0_2 (D6)).f0)) ∧ w'.cell? ⟨(D4.add (((D6)).toNat * 4)).block, (D4.add (((D6)).toNat * 4)).off + 1, none⟩ = some (.int .i64 ((rd_T35 l0_2 (D6)).f1)) ∧ w'.cell? ⟨(D4.add (((D6)).toNat * 4)).block, (D4.add (((D6)).toNat * 4)).off + 2, none⟩ = some (.int .i64 ((rd_T35 l0_2 (D6)).f2)) ∧ w'.cell? ⟨(D4.add (((D6)).toNat * 4)).block, (D4.add (((D6)).toNat * 4)).off + 3, none⟩ = some (.bool ((rd_T35 l0_2 (D6)).f3))) (ds := []) (Cmp.bm 0 32) (by kernel_rfl) rfl rfl ⟨(Cmp.c0 D1 :), (Cmp.c1 D1 :), (Cmp.c2 D1 :), (Cmp.c3 D1 :), (Cmp.c0 D3 :), (Cmp.c1 D3 :), (Cmp.c2 D3 :), (Cmp.hc HB Dc :), (Cmp.hc HB Dd :), (Cmp.hc HB De :), (Cmp.hc HB Df :)⟩ (fun hHeld => ?_); refine with_tabW spec_IsValidAccount.tab5 spec_IsValidAccount.bits5 (fun HT_ HW_ => ?_)
            generalize w24.drew = w25 at D3 D1 HB D8 D9 Da Db hHeld ⊢
            refine Cmp.pu HT_ 0 18 (Cmp.bm 1 31) ?_; refine Cmp.tk HT_ HW_ hHeld 1 19 (Cmp.bm 2 30) ?_
            refine one_ (i := 2) (N := some 20) (Cmp.bm 3 29) rfl rfl (one_of HT_.out (by kernel_rfl)) (by decide) (fun K hK => ?_)
            refine goes_ Try.func62 (by kernel_rfl) rfl #[.int .i64 ((rd_T35 l0_2 D0).f0), .int .i64 0, .int .i64 1000000] (by rfl) rfl rfl Cmp.q ?_
            with_reducible refine (spec_l1In.calls ((rd_T35 l0_2 D0).f0) 0 1000000 true _ E1.out).mono ?_
            rintro e w' ⟨rfl, ⟨nd, rfl⟩⟩; refine ⟨_, rfl, ?_⟩
            refine hK.out _ _ ⟨(Cmp.c0 D1 :), (Cmp.c1 D1 :), (Cmp.c2 D1 :), (Cmp.c3 D1 :), (Cmp.c0 D3 :), (Cmp.c1 D3 :), (Cmp.c2 D3 :), (Cmp.hc HB Dc :), (Cmp.hc HB Dd :), (Cmp.hc HB De :), (Cmp.hc HB Df :)⟩ (fun hHeld => ?_)
            clear hK K
            refine norm_ (a' := ?_) ?_ ?_
            rotate_left
            ·show Act.put _ (some 20) _ = _
             simp only [Act.put, Cmp.s, Cmp.z, Cmp.c, i64_w, i32_w]; rfl
            refine Cmp.pu HT_ 3 21 (Cmp.bm 4 28) ?_; refine Cmp.pu HT_ 4 22 (Cmp.bm 5 27) ?_; refine Cmp.pu HT_ 5 23 (Cmp.bm 6 26) ?_; refine Cmp.pu HT_ 6 24 (Cmp.bm 7 25) ?_; refine Cmp.pu HT_ 7 25 (Cmp.bm 8 24) ?_; refine Cmp.pu HT_ 8 26 (Cmp.bm 9 23) ?_; refine Cmp.pu HT_ 10 28 (Cmp.bb 32 1535) ?_; refine Cmp.pu HT_ 11 29 (Cmp.bb 32 3583) ?_; refine Cmp.pu HT_ 15 33 (Cmp.bb 32 36351) ?_; refine Cmp.tk HT_ HW_ hHeld 9 27 (Cmp.bb 32 36863) ?_; refine Cmp.pu HT_ 12 30 (Cmp.bb 32 40959) ?_; refine Cmp.pu HT_ 13 31 (Cmp.bb 32 49151) ?_; refine Cmp.tk HT_ HW_ hHeld 14 32 (Cmp.bm 16 16) ?_; refine Cmp.tk HT_ HW_ hHeld 16 34 (Cmp.bm 17 15) ?_; refine Cmp.pu HT_ 17 35 (Cmp.bm 18 14) ?_; refine Cmp.pu HT_ 18 36 (Cmp.bm 19 13) ?_; refine Cmp.pu HT_ 19 37 (Cmp.bm 20 12) ?_; refine Cmp.pu HT_ 20 38 (Cmp.bm 21 11) ?_; refine Cmp.pu HT_ 21 39 (Cmp.bm 22 10) ?_; refine Cmp.tk HT_ HW_ hHeld 22 40 (Cmp.bm 23 9) ?_
            refine one_ (i := 23) (N := some 41) (Cmp.bm 24 8) rfl rfl (one_of HT_.out (by kernel_rfl)) (by decide) (fun K hK => ?_)
            refine goes_ Try.func115 (by kernel_rfl) rfl #[.int .i64 ((rd_T35 l0_2 D0).f1)] (by rfl) rfl rfl Cmp.q ?_
            with_reducible refine (spec_PrivateKey.calls k1 ((rd_T35 l0_2 D0).f1) Dp _ Fa.out).mono ?_
            rintro e w' ⟨rfl, ⟨nd, rfl⟩⟩; refine ⟨_, rfl, ?_⟩
            refine hK.out _ _ ⟨(Cmp.c0 D1 :), (Cmp.c1 D1 :), (Cmp.c2 D1 :), (Cmp.c3 D1 :), (Cmp.c0 D3 :), (Cmp.c1 D3 :), (Cmp.c2 D3 :), (Cmp.hc HB Dc :), (Cmp.hc HB Dd :), (Cmp.hc HB De :), (Cmp.hc HB Df :)⟩ (fun hHeld => ?_)
            clear hK K
            refine norm_ (a' := ?_) ?_ ?_
            rotate_left
            ·show Act.put _ (some 41) _ = _
             simp only [Act.put, Cmp.s, Cmp.z, Cmp.c, i64_w, i32_w]; rfl
            refine Cmp.pu HT_ 24 42 (Cmp.bm 25 7) ?_; refine Cmp.pu HT_ 25 43 (Cmp.bm 26 6) ?_; refine Cmp.pu HT_ 26 44 (Cmp.bm 27 5) ?_; refine Cmp.pu HT_ 27 45 (Cmp.bm 28 4) ?_; refine Cmp.tk HT_ HW_ hHeld 28 46 (Cmp.bm 29 3) ?_
            refine one_ (i := 29) (N := some 47) (Cmp.bm 30 2) rfl rfl (one_of HT_.out (by kernel_rfl)) (by decide) (fun K hK => ?_)
            refine goes_ Try.func62 (by kernel_rfl) rfl #[.int .i64 ((rd_T35 l0_2 D0).f2), .int .i64 0, .int .i64 1000000] (by rfl) rfl rfl Cmp.q ?_
            with_reducible refine (spec_l1In.calls ((rd_T35 l0_2 D0).f2) 0 1000000 E0 _ Fh.out).mono ?_
            rintro e w' ⟨rfl, ⟨nd, rfl⟩⟩; refine ⟨_, rfl, ?_⟩
            refine hK.out _ _ ⟨(Cmp.c0 D1 :), (Cmp.c1 D1 :), (Cmp.c2 D1 :), (Cmp.c3 D1 :), (Cmp.c0 D3 :), (Cmp.c1 D3 :), (Cmp.c2 D3 :), (Cmp.hc HB Dc :), (Cmp.hc HB Dd :), (Cmp.hc HB De :), (Cmp.hc HB Df :)⟩ (fun hHeld => ?_)
            clear hK K
            refine norm_ (a' := ?_) ?_ ?_
            rotate_left
            ·show Act.put _ (some 47) _ = _
             simp only [Act.put, Cmp.s, Cmp.z, Cmp.c, i64_w, i32_w]; rfl
            refine Cmp.pu HT_ 30 48 (Cmp.bm 31 1) ?_; refine Cmp.pu HT_ 31 49 (Cmp.bm 32 0) ?_
            refine done_ (done_of HT_.out (by kernel_rfl)) ?_
            try go_wp2
            go_meet
            case rel => exact ⟨_, (!E0), (by first | rfl | simp | simp [*]), H', ⟨by have := HK1.out; first | omega | exact Nat.le_refl _⟩, Cmp.bq D3, Cmp.bq D1, ⟨Cmp.g HB.out⟩⟩
         ·rw [if_neg c15] at H; exact absurd H (by simp)
        ·rw [if_neg c14] at H; exact absurd H (by simp)
       ·rw [if_neg c12] at H; have c12b0 : decide (0 < D0) = false := decide_eq_false c12; clear c12
        (first | rw [c12b0] | (simp only [i64_w, i32_w]; rw [c12b0]) | skip)
        replace H := Option.bind_eq_some_iff.mp H; obtain ⟨Dr, E5, H⟩ := H; (try dsimp only at H); have Fb := Aside0.mk E5; clear E5
        by_cases c27 : Dr = 0
        ·rw [if_pos c27] at H; have c27b0 : (Dr == 0) = true := beq_iff_eq.mpr c27; have c27b1 : (Dr != 0) = false := bne_eq_false_iff_eq.mpr c27; clear c27
         have H' := Aside0.mk H
         clear H
         try go_wp2
         have n0_ : Aside0 (((((w7.setCell ⟨D2, 0, none⟩ (.int .i64 ((rd_T35 l0_2 D0).f0))).setCell ⟨D2, 1, none⟩ (.int .i64 ((rd_T35 l0_2 D0).f1))).setCell ⟨D2, 2, none⟩ (.int .i64 ((rd_T35 l0_2 D0).f2))).setCell ⟨D2, 3, none⟩ (.bool ((rd_T35 l0_2 D0).f3))).heap[D5]? = some (.cells #[.int .i64 a0_0, .int .i64 a0_1, .slice (some D4) l0_2.length c0_2] 26 (0, 0))) := ⟨Cmp.bw D3.out⟩
         have n1_ : Aside0 (((((w7.setCell ⟨D2, 0, none⟩ (.int .i64 ((rd_T35 l0_2 D0).f0))).setCell ⟨D2, 1, none⟩ (.int .i64 ((rd_T35 l0_2 D0).f1))).setCell ⟨D2, 2, none⟩ (.int .i64 ((rd_T35 l0_2 D0).f2))).setCell ⟨D2, 3, none⟩ (.bool ((rd_T35 l0_2 D0).f3))).heap[D2]? = some (.cells #[.int .i64 ((rd_T35 l0_2 D0).f0), .int .i64 ((rd_T35 l0_2 D0).f1), .int .i64 ((rd_T35 l0_2 D0).f2), .bool ((rd_T35 l0_2 D0).f3)] 35 (0, 0))) := ⟨Cmp.bw D1.out⟩
         have n2_ : Aside0 (Below w.heap.size w ((((w7.setCell ⟨D2, 0, none⟩ (.int .i64 ((rd_T35 l0_2 D0).f0))).setCell ⟨D2, 1, none⟩ (.int .i64 ((rd_T35 l0_2 D0).f1))).setCell ⟨D2, 2, none⟩ (.int .i64 ((rd_T35 l0_2 D0).f2))).setCell ⟨D2, 3, none⟩ (.bool ((rd_T35 l0_2 D0).f3)))) := ⟨Cmp.g HB.out⟩
         (try clear D3); (try clear D1); (try clear HB)
         generalize ((((w7.setCell ⟨D2, 0, none⟩ (.int .i64 ((rd_T35 l0_2 D0).f0))).setCell ⟨D2, 1, none⟩ (.int .i64 ((rd_T35 l0_2 D0).f1))).setCell ⟨D2, 2, none⟩ (.int .i64 ((rd_T35 l0_2 D0).f2))).setCell ⟨D2, 3, none⟩ (.bool ((rd_T35 l0_2 D0).f3))) = w28 at n0_ n1_ n2_ ⊢
         have D3 := n0_; have D1 := n1_; have HB := n2_; clear n0_ n1_ n2_; replace D3 := Aside0.mk (blk_drew D3.out); replace D1 := Aside0.mk (blk_drew D1.out); replace HB := Aside0.mk (below_drew1 HB.out)
         refine start_ (n := 32) (S := fun w' => w'.cell? ⟨D2, 0, none⟩ = some (.int .i64 ((rd_T35 l0_2 D0).f0)) ∧ w'.cell? ⟨D2, 1, none⟩ = some (.int .i64 ((rd_T35 l0_2 D0).f1)) ∧ w'.cell? ⟨D2, 2, none⟩ = some (.int .i64 ((rd_T35 l0_2 D0).f2)) ∧ w'.cell? ⟨D2, 3, none⟩ = some (.bool ((rd_T35 l0_2 D0).f3))) (ds := []) (Cmp.bm 0 32) (by kernel_rfl) rfl rfl ⟨(Cmp.c0 D1 :), (Cmp.c1 D1 :), (Cmp.c2 D1 :), (Cmp.c3 D1 :)⟩ (fun hHeld => ?_); refine with_tabW spec_IsValidAccount.tab5 spec_IsValidAccount.bits5 (fun HT_ HW_ => ?_)
         generalize w28.drew = w29 at D3 D1 HB hHeld ⊢
         refine Cmp.pu HT_ 0 18 (Cmp.bm 1 31) ?_; refine Cmp.tk HT_ HW_ hHeld 1 19 (Cmp.bm 2 30) ?_
         refine one_ (i := 2) (N := some 20) (Cmp.bm 3 29) rfl rfl (one_of HT_.out (by kernel_rfl)) (by decide) (fun K hK => ?_)
         refine goes_ Try.func62 (by kernel_rfl) rfl #[.int .i64 ((rd_T35 l0_2 D0).f0), .int .i64 0, .int .i64 1000000] (by rfl) rfl rfl Cmp.q ?_
         with_reducible refine (spec_l1In.calls ((rd_T35 l0_2 D0).f0) 0 1000000 true _ E1.out).mono ?_
         rintro e w' ⟨rfl, ⟨nd, rfl⟩⟩; refine ⟨_, rfl, ?_⟩
         refine hK.out _ _ ⟨(Cmp.c0 D1 :), (Cmp.c1 D1 :), (Cmp.c2 D1 :), (Cmp.c3 D1 :)⟩ (fun hHeld => ?_)
         clear hK K
         refine norm_ (a' := ?_) ?_ ?_
         rotate_left
         ·show Act.put _ (some 20) _ = _
          simp only [Act.put, Cmp.s, Cmp.z, Cmp.c, i64_w, i32_w]; rfl
         refine Cmp.pu HT_ 3 21 (Cmp.bm 4 28) ?_; refine Cmp.pu HT_ 4 22 (Cmp.bm 5 27) ?_; refine Cmp.pu HT_ 5 23 (Cmp.bm 6 26) ?_; refine Cmp.pu HT_ 6 24 (Cmp.bm 7 25) ?_; refine Cmp.pu HT_ 7 25 (Cmp.bm 8 24) ?_; refine Cmp.pv HT_ 8 26 (Cmp.bm 9 23) ?_; refine Cmp.pv HT_ 9 27 (Cmp.bm 10 22) ?_; refine Cmp.pv HT_ 10 28 (Cmp.bm 11 21) ?_; refine Cmp.pv HT_ 11 29 (Cmp.bm 12 20) ?_; refine Cmp.pv HT_ 12 30 (Cmp.bm 13 19) ?_; refine Cmp.pv HT_ 13 31 (Cmp.bm 14 18) ?_; refine Cmp.pv HT_ 14 32 (Cmp.bm 15 17) ?_; refine Cmp.pv HT_ 15 33 (Cmp.bm 16 16) ?_; refine Cmp.pv HT_ 16 34 (Cmp.bm 17 15) ?_; refine Cmp.pv HT_ 17 35 (Cmp.bm 18 14) ?_; refine Cmp.pu HT_ 18 36 (Cmp.bm 19 13) ?_; refine Cmp.pu HT_ 19 37 (Cmp.bm 20 12) ?_; refine Cmp.pu HT_ 20 38 (Cmp.bm 21 11) ?_; refine Cmp.pu HT_ 21 39 (Cmp.bm 22 10) ?_; refine Cmp.tk HT_ HW_ hHeld 22 40 (Cmp.bm 23 9) ?_
         refine one_ (i := 23) (N := some 41) (Cmp.bm 24 8) rfl rfl (one_of HT_.out (by kernel_rfl)) (by decide) (fun K hK => ?_)
         refine goes_ Try.func115 (by kernel_rfl) rfl #[.int .i64 ((rd_T35 l0_2 D0).f1)] (by rfl) rfl rfl Cmp.q ?_
         with_reducible refine (spec_PrivateKey.calls k1 ((rd_T35 l0_2 D0).f1) Dr _ Fb.out).mono ?_
         rintro e w' ⟨rfl, ⟨nd, rfl⟩⟩; refine ⟨_, rfl, ?_⟩
         refine hK.out _ _ ⟨(Cmp.c0 D1 :), (Cmp.c1 D1 :), (Cmp.c2 D1 :), (Cmp.c3 D1 :)⟩ (fun hHeld => ?_)
         clear hK K
         refine norm_ (a' := ?_) ?_ ?_
         rotate_left
         ·show Act.put _ (some 41) _ = _
          simp only [Act.put, Cmp.s, Cmp.z, Cmp.c, i64_w, i32_w]; rfl
         refine Cmp.pu HT_ 24 42 (Cmp.bm 25 7) ?_; refine Cmp.pu HT_ 25 43 (Cmp.bm 26 6) ?_; refine Cmp.pu HT_ 26 44 (Cmp.bm 27 5) ?_; refine Cmp.pv HT_ 27 45 (Cmp.bm 28 4) ?_; refine Cmp.pv HT_ 28 46 (Cmp.bm 29 3) ?_; refine Cmp.pv HT_ 29 47 (Cmp.bm 30 2) ?_; refine Cmp.pv HT_ 30 48 (Cmp.bm 31 1) ?_; refine Cmp.pu HT_ 31 49 (Cmp.bm 32 0) ?_
         refine done_ (done_of HT_.out (by kernel_rfl)) ?_
         try go_wp2
         go_meet
         case rel => exact ⟨_, (true), (by first | rfl | simp | simp [*]), H', ⟨by have := HK1.out; first | omega | exact Nat.le_refl _⟩, Cmp.bq D3, Cmp.bq D1, ⟨Cmp.g HB.out⟩⟩
        ·rw [if_neg c27] at H; have c27b0 : (Dr == 0) = false := beq_eq_false_iff_ne.mpr c27; have c27b1 : (Dr != 0) = true := bne_iff_ne.mpr c27; replace H := Option.bind_eq_some_iff.mp H; obtain ⟨E9, E6, H⟩ := H; (try dsimp only at H); have Fi := Aside0.mk E6; clear E6
         have H' := Aside0.mk H
         clear H
         try go_wp2
         have n0_ : Aside0 (((((w7.setCell ⟨D2, 0, none⟩ (.int .i64 ((rd_T35 l0_2 D0).f0))).setCell ⟨D2, 1, none⟩ (.int .i64 ((rd_T35 l0_2 D0).f1))).setCell ⟨D2, 2, none⟩ (.int .i64 ((rd_T35 l0_2 D0).f2))).setCell ⟨D2, 3, none⟩ (.bool ((rd_T35 l0_2 D0).f3))).heap[D5]? = some (.cells #[.int .i64 a0_0, .int .i64 a0_1, .slice (some D4) l0_2.length c0_2] 26 (0, 0))) := ⟨Cmp.bw D3.out⟩
         have n1_ : Aside0 (((((w7.setCell ⟨D2, 0, none⟩ (.int .i64 ((rd_T35 l0_2 D0).f0))).setCell ⟨D2, 1, none⟩ (.int .i64 ((rd_T35 l0_2 D0).f1))).setCell ⟨D2, 2, none⟩ (.int .i64 ((rd_T35 l0_2 D0).f2))).setCell ⟨D2, 3, none⟩ (.bool ((rd_T35 l0_2 D0).f3))).heap[D2]? = some (.cells #[.int .i64 ((rd_T35 l0_2 D0).f0), .int .i64 ((rd_T35 l0_2 D0).f1), .int .i64 ((rd_T35 l0_2 D0).f2), .bool ((rd_T35 l0_2 D0).f3)] 35 (0, 0))) := ⟨Cmp.bw D1.out⟩
         have n2_ : Aside0 (Below w.heap.size w ((((w7.setCell ⟨D2, 0, none⟩ (.int .i64 ((rd_T35 l0_2 D0).f0))).setCell ⟨D2, 1, none⟩ (.int .i64 ((rd_T35 l0_2 D0).f1))).setCell ⟨D2, 2, none⟩ (.int .i64 ((rd_T35 l0_2 D0).f2))).setCell ⟨D2, 3, none⟩ (.bool ((rd_T35 l0_2 D0).f3)))) := ⟨Cmp.g HB.out⟩
         (try clear D3); (try clear D1); (try clear HB)
         generalize ((((w7.setCell ⟨D2, 0, none⟩ (.int .i64 ((rd_T35 l0_2 D0).f0))).setCell ⟨D2, 1, none⟩ (.int .i64 ((rd_T35 l0_2 D0).f1))).setCell ⟨D2, 2, none⟩ (.int .i64 ((rd_T35 l0_2 D0).f2))).setCell ⟨D2, 3, none⟩ (.bool ((rd_T35 l0_2 D0).f3))) = w31 at n0_ n1_ n2_ ⊢
         have D3 := n0_; have D1 := n1_; have HB := n2_; clear n0_ n1_ n2_; replace D3 := Aside0.mk (blk_drew D3.out); replace D1 := Aside0.mk (blk_drew D1.out); replace HB := Aside0.mk (below_drew1 HB.out)
         refine start_ (n := 32) (S := fun w' => w'.cell? ⟨D2, 0, none⟩ = some (.int .i64 ((rd_T35 l0_2 D0).f0)) ∧ w'.cell? ⟨D2, 1, none⟩ = some (.int .i64 ((rd_T35 l0_2 D0).f1)) ∧ w'.cell? ⟨D2, 2, none⟩ = some (.int .i64 ((rd_T35 l0_2 D0).f2)) ∧ w'.cell? ⟨D2, 3, none⟩ = some (.bool ((rd_T35 l0_2 D0).f3))) (ds := []) (Cmp.bm 0 32) (by kernel_rfl) rfl rfl ⟨(Cmp.c0 D1 :), (Cmp.c1 D1 :), (Cmp.c2 D1 :), (Cmp.c3 D1 :)⟩ (fun hHeld => ?_); refine with_tabW spec_IsValidAccount.tab5 spec_IsValidAccount.bits5 (fun HT_ HW_ => ?_)
         generalize w31.drew = w32 at D3 D1 HB hHeld ⊢
         refine Cmp.pu HT_ 0 18 (Cmp.bm 1 31) ?_; refine Cmp.tk HT_ HW_ hHeld 1 19 (Cmp.bm 2 30) ?_
         refine one_ (i := 2) (N := some 20) (Cmp.bm 3 29) rfl rfl (one_of HT_.out (by kernel_rfl)) (by decide) (fun K hK => ?_)
         refine goes_ Try.func62 (by kernel_rfl) rfl #[.int .i64 ((rd_T35 l0_2 D0).f0), .int .i64 0, .int .i64 1000000] (by rfl) rfl rfl Cmp.q ?_
         with_reducible refine (spec_l1In.calls ((rd_T35 l0_2 D0).f0) 0 1000000 true _ E1.out).mono ?_
         rintro e w' ⟨rfl, ⟨nd, rfl⟩⟩; refine ⟨_, rfl, ?_⟩
         refine hK.out _ _ ⟨(Cmp.c0 D1 :), (Cmp.c1 D1 :), (Cmp.c2 D1 :), (Cmp.c3 D1 :)⟩ (fun hHeld => ?_)
         clear hK K
         refine norm_ (a' := ?_) ?_ ?_
         rotate_left
         ·show Act.put _ (some 20) _ = _
          simp only [Act.put, Cmp.s, Cmp.z, Cmp.c, i64_w, i32_w]; rfl
         refine Cmp.pu HT_ 3 21 (Cmp.bm 4 28) ?_; refine Cmp.pu HT_ 4 22 (Cmp.bm 5 27) ?_; refine Cmp.pu HT_ 5 23 (Cmp.bm 6 26) ?_; refine Cmp.pu HT_ 6 24 (Cmp.bm 7 25) ?_; refine Cmp.pu HT_ 7 25 (Cmp.bm 8 24) ?_; refine Cmp.pv HT_ 8 26 (Cmp.bm 9 23) ?_; refine Cmp.pv HT_ 9 27 (Cmp.bm 10 22) ?_; refine Cmp.pv HT_ 10 28 (Cmp.bm 11 21) ?_; refine Cmp.pv HT_ 11 29 (Cmp.bm 12 20) ?_; refine Cmp.pv HT_ 12 30 (Cmp.bm 13 19) ?_; refine Cmp.pv HT_ 13 31 (Cmp.bm 14 18) ?_; refine Cmp.pv HT_ 14 32 (Cmp.bm 15 17) ?_; refine Cmp.pv HT_ 15 33 (Cmp.bm 16 16) ?_; refine Cmp.pv HT_ 16 34 (Cmp.bm 17 15) ?_; refine Cmp.pv HT_ 17 35 (Cmp.bm 18 14) ?_; refine Cmp.pu HT_ 18 36 (Cmp.bm 19 13) ?_; refine Cmp.pu HT_ 19 37 (Cmp.bm 20 12) ?_; refine Cmp.pu HT_ 20 38 (Cmp.bm 21 11) ?_; refine Cmp.pu HT_ 21 39 (Cmp.bm 22 10) ?_; refine Cmp.tk HT_ HW_ hHeld 22 40 (Cmp.bm 23 9) ?_
         refine one_ (i := 23) (N := some 41) (Cmp.bm 24 8) rfl rfl (one_of HT_.out (by kernel_rfl)) (by decide) (fun K hK => ?_)
         refine goes_ Try.func115 (by kernel_rfl) rfl #[.int .i64 ((rd_T35 l0_2 D0).f1)] (by rfl) rfl rfl Cmp.q ?_
         with_reducible refine (spec_PrivateKey.calls k1 ((rd_T35 l0_2 D0).f1) Dr _ Fb.out).mono ?_
         rintro e w' ⟨rfl, ⟨nd, rfl⟩⟩; refine ⟨_, rfl, ?_⟩
         refine hK.out _ _ ⟨(Cmp.c0 D1 :), (Cmp.c1 D1 :), (Cmp.c2 D1 :), (Cmp.c3 D1 :)⟩ (fun hHeld => ?_)
         clear hK K
         refine norm_ (a' := ?_) ?_ ?_
         rotate_left
         ·show Act.put _ (some 41) _ = _
          simp only [Act.put, Cmp.s, Cmp.z, Cmp.c, i64_w, i32_w]; rfl
         refine Cmp.pu HT_ 24 42 (Cmp.bm 25 7) ?_; refine Cmp.pu HT_ 25 43 (Cmp.bm 26 6) ?_; refine Cmp.pu HT_ 26 44 (Cmp.bm 27 5) ?_; refine Cmp.pu HT_ 27 45 (Cmp.bm 28 4) ?_; refine Cmp.tk HT_ HW_ hHeld 28 46 (Cmp.bm 29 3) ?_
         refine one_ (i := 29) (N := some 47) (Cmp.bm 30 2) rfl rfl (one_of HT_.out (by kernel_rfl)) (by decide) (fun K hK => ?_)
         refine goes_ Try.func62 (by kernel_rfl) rfl #[.int .i64 ((rd_T35 l0_2 D0).f2), .int .i64 0, .int .i64 1000000] (by rfl) rfl rfl Cmp.q ?_
         with_reducible refine (spec_l1In.calls ((rd_T35 l0_2 D0).f2) 0 1000000 E9 _ Fi.out).mono ?_
         rintro e w' ⟨rfl, ⟨nd, rfl⟩⟩; refine ⟨_, rfl, ?_⟩
         refine hK.out _ _ ⟨(Cmp.c0 D1 :), (Cmp.c1 D1 :), (Cmp.c2 D1 :), (Cmp.c3 D1 :)⟩ (fun hHeld => ?_)
         clear hK K
         refine norm_ (a' := ?_) ?_ ?_
         rotate_left
         ·show Act.put _ (some 47) _ = _
          simp only [Act.put, Cmp.s, Cmp.z, Cmp.c, i64_w, i32_w]; rfl
         refine Cmp.pu HT_ 30 48 (Cmp.bm 31 1) ?_; refine Cmp.pu HT_ 31 49 (Cmp.bm 32 0) ?_
         refine done_ (done_of HT_.out (by kernel_rfl)) ?_
         try go_wp2
         go_meet
         case rel => exact ⟨_, (!E9), (by first | rfl | simp | simp [*]), H', ⟨by have := HK1.out; first | omega | exact Nat.le_refl _⟩, Cmp.bq D3, Cmp.bq D1, ⟨Cmp.g HB.out⟩⟩
      ·replace c11 := Bool.eq_false_iff.mpr c11
       subst c11
       have H1 : (spec_IsValidAccount.j1 k1 D0 true a0_0 a0_1 l0_2 ((rd_T35 l0_2 D0).f0) ((rd_T35 l0_2 D0).f1) ((rd_T35 l0_2 D0).f2) ((rd_T35 l0_2 D0).f3)) = some r := by rw [if_neg (show ¬ (false = true) by decide)] at H; exact H
       clear H; have H := H1; clear H1
       have H' := Aside0.mk H
       clear H
       try go_wp2
       have n0_ : Aside0 (((((w7.setCell ⟨D2, 0, none⟩ (.int .i64 ((rd_T35 l0_2 D0).f0))).setCell ⟨D2, 1, none⟩ (.int .i64 ((rd_T35 l0_2 D0).f1))).setCell ⟨D2, 2, none⟩ (.int .i64 ((rd_T35 l0_2 D0).f2))).setCell ⟨D2, 3, none⟩ (.bool ((rd_T35 l0_2 D0).f3))).heap[D5]? = some (.cells #[.int .i64 a0_0, .int .i64 a0_1, .slice (some D4) l0_2.length c0_2] 26 (0, 0))) := ⟨Cmp.bw D3.out⟩
       have n1_ : Aside0 (((((w7.setCell ⟨D2, 0, none⟩ (.int .i64 ((rd_T35 l0_2 D0).f0))).setCell ⟨D2, 1, none⟩ (.int .i64 ((rd_T35 l0_2 D0).f1))).setCell ⟨D2, 2, none⟩ (.int .i64 ((rd_T35 l0_2 D0).f2))).setCell ⟨D2, 3, none⟩ (.bool ((rd_T35 l0_2 D0).f3))).heap[D2]? = some (.cells #[.int .i64 ((rd_T35 l0_2 D0).f0), .int .i64 ((rd_T35 l0_2 D0).f1), .int .i64 ((rd_T35 l0_2 D0).f2), .bool ((rd_T35 l0_2 D0).f3)] 35 (0, 0))) := ⟨Cmp.bw D1.out⟩
       have n2_ : Aside0 (Below w.heap.size w ((((w7.setCell ⟨D2, 0, none⟩ (.int .i64 ((rd_T35 l0_2 D0).f0))).setCell ⟨D2, 1, none⟩ (.int .i64 ((rd_T35 l0_2 D0).f1))).setCell ⟨D2, 2, none⟩ (.int .i64 ((rd_T35 l0_2 D0).f2))).setCell ⟨D2, 3, none⟩ (.bool ((rd_T35 l0_2 D0).f3)))) := ⟨Cmp.g HB.out⟩
       (try clear D3); (try clear D1); (try clear HB)
       generalize ((((w7.setCell ⟨D2, 0, none⟩ (.int .i64 ((rd_T35 l0_2 D0).f0))).setCell ⟨D2, 1, none⟩ (.int .i64 ((rd_T35 l0_2 D0).f1))).setCell ⟨D2, 2, none⟩ (.int .i64 ((rd_T35 l0_2 D0).f2))).setCell ⟨D2, 3, none⟩ (.bool ((rd_T35 l0_2 D0).f3))) = w33 at n0_ n1_ n2_ ⊢
       have D3 := n0_; have D1 := n1_; have HB := n2_; clear n0_ n1_ n2_; replace D3 := Aside0.mk (blk_drew D3.out); replace D1 := Aside0.mk (blk_drew D1.out); replace HB := Aside0.mk (below_drew1 HB.out)
       refine start_ (n := 32) (S := fun w' => w'.cell? ⟨D2, 0, none⟩ = some (.int .i64 ((rd_T35 l0_2 D0).f0)) ∧ w'.cell? ⟨D2, 1, none⟩ = some (.int .i64 ((rd_T35 l0_2 D0).f1)) ∧ w'.cell? ⟨D2, 2, none⟩ = some (.int .i64 ((rd_T35 l0_2 D0).f2)) ∧ w'.cell? ⟨D2, 3, none⟩ = some (.bool ((rd_T35 l0_2 D0).f3))) (ds := []) (Cmp.bm 0 32) (by kernel_rfl) rfl rfl ⟨(Cmp.c0 D1 :), (Cmp.c1 D1 :), (Cmp.c2 D1 :), (Cmp.c3 D1 :)⟩ (fun hHeld => ?_); refine with_tabW spec_IsValidAccount.tab5 spec_IsValidAccount.bits5 (fun HT_ HW_ => ?_)
       generalize w33.drew = w34 at D3 D1 HB hHeld ⊢
       refine Cmp.pu HT_ 0 18 (Cmp.bm 1 31) ?_; refine Cmp.tk HT_ HW_ hHeld 1 19 (Cmp.bm 2 30) ?_
       refine one_ (i := 2) (N := some 20) (Cmp.bm 3 29) rfl rfl (one_of HT_.out (by kernel_rfl)) (by decide) (fun K hK => ?_)
       refine goes_ Try.func62 (by kernel_rfl) rfl #[.int .i64 ((rd_T35 l0_2 D0).f0), .int .i64 0, .int .i64 1000000] (by rfl) rfl rfl Cmp.q ?_
       with_reducible refine (spec_l1In.calls ((rd_T35 l0_2 D0).f0) 0 1000000 false _ E1.out).mono ?_
       rintro e w' ⟨rfl, ⟨nd, rfl⟩⟩; refine ⟨_, rfl, ?_⟩
       refine hK.out _ _ ⟨(Cmp.c0 D1 :), (Cmp.c1 D1 :), (Cmp.c2 D1 :), (Cmp.c3 D1 :)⟩ (fun hHeld => ?_)
       clear hK K
       refine norm_ (a' := ?_) ?_ ?_
       rotate_left
       ·show Act.put _ (some 20) _ = _
        simp only [Act.put, Cmp.s, Cmp.z, Cmp.c, i64_w, i32_w]; rfl
       refine Cmp.pu HT_ 3 21 (Cmp.bm 4 28) ?_; refine Cmp.pu HT_ 4 22 (Cmp.bm 5 27) ?_; refine Cmp.pv HT_ 5 23 (Cmp.bm 6 26) ?_; refine Cmp.pv HT_ 6 24 (Cmp.bm 7 25) ?_; refine Cmp.pv HT_ 7 25 (Cmp.bm 8 24) ?_; refine Cmp.pv HT_ 8 26 (Cmp.bm 9 23) ?_; refine Cmp.pv HT_ 9 27 (Cmp.bm 10 22) ?_; refine Cmp.pv HT_ 10 28 (Cmp.bm 11 21) ?_; refine Cmp.pv HT_ 11 29 (Cmp.bm 12 20) ?_; refine Cmp.pv HT_ 12 30 (Cmp.bm 13 19) ?_; refine Cmp.pv HT_ 13 31 (Cmp.bm 14 18) ?_; refine Cmp.pv HT_ 14 32 (Cmp.bm 15 17) ?_; refine Cmp.pv HT_ 15 33 (Cmp.bm 16 16) ?_; refine Cmp.pv HT_ 16 34 (Cmp.bm 17 15) ?_; refine Cmp.pv HT_ 17 35 (Cmp.bm 18 14) ?_; refine Cmp.pv HT_ 18 36 (Cmp.bm 19 13) ?_; refine Cmp.pu HT_ 19 37 (Cmp.bm 20 12) ?_; refine Cmp.pu HT_ 20 38 (Cmp.bm 21 11) ?_; refine Cmp.pv HT_ 21 39 (Cmp.bm 22 10) ?_; refine Cmp.pv HT_ 22 40 (Cmp.bm 23 9) ?_; refine Cmp.pv HT_ 23 41 (Cmp.bm 24 8) ?_; refine Cmp.pv HT_ 24 42 (Cmp.bm 25 7) ?_; refine Cmp.pu HT_ 25 43 (Cmp.bm 26 6) ?_; refine Cmp.pu HT_ 26 44 (Cmp.bm 27 5) ?_; refine Cmp.pv HT_ 27 45 (Cmp.bm 28 4) ?_; refine Cmp.pv HT_ 28 46 (Cmp.bm 29 3) ?_; refine Cmp.pv HT_ 29 47 (Cmp.bm 30 2) ?_; refine Cmp.pv HT_ 30 48 (Cmp.bm 31 1) ?_; refine Cmp.pu HT_ 31 49 (Cmp.bm 32 0) ?_
       refine done_ (done_of HT_.out (by kernel_rfl)) ?_
       try go_wp2
       go_meet
       case rel => exact ⟨_, (true), (by first | rfl | simp | simp [*]), H', ⟨by have := HK1.out; first | omega | exact Nat.le_refl _⟩, Cmp.bq D3, Cmp.bq D1, ⟨Cmp.g HB.out⟩⟩
     case rest =>
      clear HC5; (try clear c1); (try clear c2); (try clear p2); (try clear c6); (try clear c11); (try clear c27); (try clear c27b0); (try clear c27b1)
      obtain ⟨kq, Dw, rfl, HA, HJ4, D3, D1, HB⟩ := hcut
      cases kq with
      | zero => exact absurd HA.out (by simp [spec_IsValidAccount.j1])
      | succ kj4 =>
       have H := HA.out; clear HA
       simp only [spec_IsValidAccount.j1] at H
       by_cases c35 : Dw = true
       ·subst c35; rw [if_pos rfl] at H
        obtain rfl := Option.some.inj H
        go_wp2
        go_ret
        exact ⟨by first | rfl | (simp [errW_none, errW_some] <;> rfl) | (simp [*, errW_none, errW_some] <;> rfl), Cmp.g HB.out⟩
       ·replace c35 := Bool.eq_false_iff.mpr c35
        subst c35
        have H1 : (spec_IsValidAccount.l1 kj4 D0 0 a0_0 a0_1 l0_2 ((rd_T35 l0_2 D0).f0) ((rd_T35 l0_2 D0).f1) ((rd_T35 l0_2 D0).f2) ((rd_T35 l0_2 D0).f3)) = some r := by rw [if_neg (show ¬ (false = true) by decide)] at H; exact H
        clear H; have H := H1; clear H1
        have H' := Aside0.mk H
        clear H
        go_wp2
        go_loopg [5] kj4 (fun kq v5 w' => ∃ (D7 : Int), v5 = .int .i64 D7 ∧ Aside0 (spec_IsValidAccount.l1 kq D0 D7 a0_0 a0_1 l0_2 ((rd_T35 l0_2 D0).f0) ((rd_T35 l0_2 D0).f1) ((rd_T35 l0_2 D0).f2) ((rd_T35 l0_2 D0).f3) = some r) ∧ Aside0 (kq ≤ kj4) ∧ Aside0 (w'.heap[D5]? = some (.cells #[.int .i64 a0_0, .int .i64 a0_1, (.slice (some D4) l0_2.length c0_2)] 26 (0, 0))) ∧ Aside0 (w'.heap[D2]? = some (.cells #[.int .i64 ((rd_T35 l0_2 D0).f0), .int .i64 ((rd_T35 l0_2 D0).f1), .int .i64 ((rd_T35 l0_2 D0).f2), .bool ((rd_T35 l0_2 D0).f3)] 35 (0, 0))) ∧ Aside0 (Below w.heap.size w w'))
        case atStart => exact ⟨(0), (by first | rfl | simp | simp [*]), H', ⟨Nat.le_refl _⟩, Cmp.bq D3, Cmp.bq D1, ⟨Cmp.g HB.out⟩⟩
        case round =>
         clear H'
         (try clear c1); (try clear c2); (try clear p2); (try clear c3); (try clear c6); (try clear c11); (try clear c27); (try clear c27b0); (try clear c27b1); (try clear c35); (try clear p2)
         obtain ⟨D7, rfl, HA, HK3, D3, D1, HB⟩ := hrel
         cases gk with
         | zero => exact absurd HA.out (by simp [spec_IsValidAccount.l1])
         | succ k3 =>
          have H := HA.out; clear HA
          simp only [spec_IsValidAccount.l1] at H
          by_cases c36 : D7 < D0
          ·rw [if_pos c36] at H; have c36b0 : decide (D7 < D0) = true := decide_eq_true c36; clear c36
           by_cases c37 : 0 ≤ D7
           ·rw [if_pos c37] at H; have c37b0 : decide (0 ≤ D7) = true := decide_eq_true c37; clear c37
            by_cases c38 : D7 < (l0_2.length : Int)
            ·rw [if_pos c38] at H
             have c38b0 : decide (D7 < (l0_2.length : Int)) = true := decide_eq_true c38
             clear c38
             by_cases c39 : ((rd_T35 l0_2 D7).f1) = ((rd_T35 l0_2 D0).f1)
             ·rw [if_pos c39] at H; have c39b0 : (((rd_T35 l0_2 D7).f1) == ((rd_T35 l0_2 D0).f1)) = true := beq_iff_eq.mpr c39; have c39b1 : (((rd_T35 l0_2 D7).f1) != ((rd_T35 l0_2 D0).f1)) = false := bne_eq_false_iff_eq.mpr c39; clear c39
              obtain rfl := Option.some.inj H
              try go_wp2
              replace D3 := Aside0.mk (blk_drew D3.out); replace D1 := Aside0.mk (blk_drew D1.out); replace HB := Aside0.mk (below_drew1 HB.out)
              have p146 : 0 ≤ (D7 : Int) := of_decide_eq_true Cmp.d
              have q146 : D7 < (l0_2.length : Int) := of_decide_eq_true Cmp.d
              obtain ⟨Dz, e146, Dg, Dh, Di, Dj⟩ := at_T35 Dk.out D7 p146 q146
              have Do := Dj; have Dn := Di; have Dm := Dh; have Dl := Dg
              obtain rfl : D4 = Dz := (by injection e146)
              replace Dg := Cmp.hc HB Dg
              replace Dh := Cmp.hc HB Dh
              replace Di := Cmp.hc HB Di
              replace Dj := Cmp.hc HB Dj
              replace p146 := eq_true p146; replace q146 := eq_true q146
              refine start_ (n := 9) (S := fun w' => w'.cell? ⟨D5, 0, none⟩ = some (.int .i64 a0_0) ∧ w'.cell? ⟨D5, 1, none⟩ = some (.int .i64 a0_1) ∧ w'.cell? ⟨D5, 2, none⟩ = some (.slice (some D4) l0_2.length c0_2) ∧ w'.cell? ⟨D2, 0, none⟩ = some (.int .i64 ((rd_T35 l0_2 D0).f0)) ∧ w'.cell? ⟨D2, 1, none⟩ = some (.int .i64 ((rd_T35 l0_2 D0).f1)) ∧ w'.cell? ⟨D2, 2, none⟩ = some (.int .i64 ((rd_T35 l0_2 D0).f2)) ∧ w'.cell? ⟨D2, 3, none⟩ = some (.bool ((rd_T35 l0_2 D0).f3)) ∧ w'.cell? (D4.add ((D7).toNat * 4)) = some (.int .i64 ((rd_T35 l0_2 D7).f0)) ∧ w'.cell? ⟨(D4.add ((D7).toNat * 4)).block, (D4.add ((D7).toNat * 4)).off + 1, none⟩ = some (.int .i64 ((rd_T35 l0_2 D7).f1)) ∧ w'.cell? ⟨(D4.add ((D7).toNat * 4)).block, (D4.add ((D7).toNat * 4)).off + 2, none⟩ = some (.int .i64 ((rd_T35 l0_2 D7).f2)) ∧ w'.cell? ⟨(D4.add ((D7).toNat * 4)).block, (D4.add ((D7).toNat * 4)).off + 3, none⟩ = some (.bool ((rd_T35 l0_2 D7).f3))) (ds := []) (Cmp.bm 0 9) (by kernel_rfl) rfl rfl ⟨(Cmp.c0 D3 :), (Cmp.c1 D3 :), (Cmp.c2 D3 :), (Cmp.c0 D1 :), (Cmp.c1 D1 :), (Cmp.c2 D1 :), (Cmp.c3 D1 :), (Cmp.hc HB Dl :), (Cmp.hc HB Dm :), (Cmp.hc HB Dn :), (Cmp.hc HB Do :)⟩ (fun hHeld => ?_); refine with_tabW spec_IsValidAccount.tab10 spec_IsValidAccount.bits10 (fun HT_ HW_ => ?_)
              generalize wr.drew = w40 at D3 D1 HB Dg Dh Di Dj hHeld ⊢
              refine Cmp.pu HT_ 0 55 (Cmp.bm 1 8) ?_; refine Cmp.pu HT_ 2 57 (Cmp.bb 9 5) ?_; refine Cmp.pu HT_ 6 61 (Cmp.bb 9 69) ?_; refine Cmp.tk HT_ HW_ hHeld 1 56 (Cmp.bb 9 71) ?_; refine Cmp.pu HT_ 3 58 (Cmp.bb 9 79) ?_; refine Cmp.pu HT_ 4 59 (Cmp.bb 9 95) ?_; refine Cmp.tk HT_ HW_ hHeld 5 60 (Cmp.bm 7 2) ?_; refine Cmp.tk HT_ HW_ hHeld 7 62 (Cmp.bm 8 1) ?_; refine Cmp.pu HT_ 8 63 (Cmp.bm 9 0) ?_
              refine done_ (done_of HT_.out (by kernel_rfl)) ?_
              try go_wp2
              go_ret
              exact ⟨by first | rfl | (simp [errW_none, errW_some] <;> rfl) | (simp [*, errW_none, errW_some] <;> rfl), Cmp.g HB.out⟩
             ·rw [if_neg c39] at H; have c39b0 : (((rd_T35 l0_2 D7).f1) == ((rd_T35 l0_2 D0).f1)) = false := beq_eq_false_iff_ne.mpr c39; have c39b1 : (((rd_T35 l0_2 D7).f1) != ((rd_T35 l0_2 D0).f1)) = true := bne_iff_ne.mpr c39
              have H' := Aside0.mk H
              clear H
              try go_wp2
              replace D3 := Aside0.mk (blk_drew D3.out); replace D1 := Aside0.mk (blk_drew D1.out); replace HB := Aside0.mk (below_drew1 HB.out)
              have p146 : 0 ≤ (D7 : Int) := of_decide_eq_true Cmp.d
              have q146 : D7 < (l0_2.length : Int) := of_decide_eq_true Cmp.d
              obtain ⟨Dz, e146, Dg, Dh, Di, Dj⟩ := at_T35 Dk.out D7 p146 q146
              have Do := Dj; have Dn := Di; have Dm := Dh; have Dl := Dg
              obtain rfl : D4 = Dz := (by injection e146)
              replace Dg := Cmp.hc HB Dg
              replace Dh := Cmp.hc HB Dh
              replace Di := Cmp.hc HB Di
              replace Dj := Cmp.hc HB Dj
              replace p146 := eq_true p146; replace q146 := eq_true q146
              refine start_ (n := 9) (S := fun w' => w'.cell? ⟨D5, 0, none⟩ = some (.int .i64 a0_0) ∧ w'.cell? ⟨D5, 1, none⟩ = some (.int .i64 a0_1) ∧ w'.cell? ⟨D5, 2, none⟩ = some (.slice (some D4) l0_2.length c0_2) ∧ w'.cell? ⟨D2, 0, none⟩ = some (.int .i64 ((rd_T35 l0_2 D0).f0)) ∧ w'.cell? ⟨D2, 1, none⟩ = some (.int .i64 ((rd_T35 l0_2 D0).f1)) ∧ w'.cell? ⟨D2, 2, none⟩ = some (.int .i64 ((rd_T35 l0_2 D0).f2)) ∧ w'.cell? ⟨D2, 3, none⟩ = some (.bool ((rd_T35 l0_2 D0).f3)) ∧ w'.cell? (D4.add ((D7).toNat * 4)) = some (.int .i64 ((rd_T35 l0_2 D7).f0)) ∧ w'.cell? ⟨(D4.add ((D7).toNat * 4)).block, (D4.add ((D7).toNat * 4)).off + 1, none⟩ = some (.int .i64 ((rd_T35 l0_2 D7).f1)) ∧ w'.cell? ⟨(D4.add ((D7).toNat * 4)).block, (D4.add ((D7).toNat * 4)).off + 2, none⟩ = some (.int .i64 ((rd_T35 l0_2 D7).f2)) ∧ w'.cell? ⟨(D4.add ((D7).toNat * 4)).block, (D4.add ((D7).toNat * 4)).off + 3, none⟩ = some (.bool ((rd_T35 l0_2 D7).f3))) (ds := []) (Cmp.bm 0 9) (by kernel_rfl) rfl rfl ⟨(Cmp.c0 D3 :), (Cmp.c1 D3 :), (Cmp.c2 D3 :), (Cmp.c0 D1 :), (Cmp.c1 D1 :), (Cmp.c2 D1 :), (Cmp.c3 D1 :), (Cmp.hc HB Dl :), (Cmp.hc HB Dm :), (Cmp.hc HB Dn :), (Cmp.hc HB Do :)⟩ (fun hHeld => ?_); refine with_tabW spec_IsValidAccount.tab10 spec_IsValidAccount.bits10 (fun HT_ HW_ => ?_)
              generalize wr.drew = w41 at D3 D1 HB Dg Dh Di Dj hHeld ⊢
              refine Cmp.pu HT_ 0 55 (Cmp.bm 1 8) ?_; refine Cmp.pu HT_ 2 57 (Cmp.bb 9 5) ?_; refine Cmp.pu HT_ 6 61 (Cmp.bb 9 69) ?_; refine Cmp.tk HT_ HW_ hHeld 1 56 (Cmp.bb 9 71) ?_; refine Cmp.pu HT_ 3 58 (Cmp.bb 9 79) ?_; refine Cmp.pu HT_ 4 59 (Cmp.bb 9 95) ?_; refine Cmp.tk HT_ HW_ hHeld 5 60 (Cmp.bm 7 2) ?_; refine Cmp.tk HT_ HW_ hHeld 7 62 (Cmp.bm 8 1) ?_; refine Cmp.pu HT_ 8 63 (Cmp.bm 9 0) ?_
              refine done_ (done_of HT_.out (by kernel_rfl)) ?_
              try go_wp2
              go_roundg k3
              case measure => have := HK1.out; have := HJ4.out; have := HK3.out; omega
              case rel => exact ⟨(wrap64 (D7 + 1)), (by first | rfl | simp | simp [*]), H', ⟨by have := HK1.out; have := HJ4.out; have := HK3.out; omega⟩, Cmp.bq D3, Cmp.bq D1, ⟨Cmp.g HB.out⟩⟩
            ·rw [if_neg c38] at H; exact absurd H (by simp)
           ·rw [if_neg c37] at H; exact absurd H (by simp)
          ·rw [if_neg c36] at H; have c36b0 : decide (D7 < D0) = false := decide_eq_false c36; clear c36
           have H' := Aside0.mk H
           clear H
           go_wp2
           go_roundg k3
           case measure => have := HK1.out; have := HJ4.out; have := HK3.out; omega
           case rel => exact ⟨(wrap64 (D0 + 1)), (by first | rfl | simp | simp [*]), H', ⟨by have := HK1.out; have := HJ4.out; have := HK3.out; omega⟩, Cmp.bq D3, ⟨Cmp.g HB.out⟩⟩
    ·rw [if_neg c4] at H; exact absurd H (by simp)
   ·rw [if_neg c3] at H
    have c3b0 : decide (D0 < (l0_2.length : Int)) = false := decide_eq_false c3
    clear c3; replace H := Option.bind_eq_some_iff.mp H; obtain ⟨F7, E7, H⟩ := H; (try dsimp only at H); have Es := Aside0.mk E7; clear E7
    by_cases c43 : F7 = true
    ·subst c43; rw [if_pos rfl] at H; replace H := Option.bind_eq_some_iff.mp H; obtain ⟨F8, E8, H⟩ := H; (try dsimp only at H); have Fc := Aside0.mk E8; clear E8
     by_cases c45 : F8 = true
     ·subst c45; rw [if_pos rfl] at H
      obtain rfl := Option.some.inj H
      have Ea : wr.cell? ⟨D5, 0, none⟩ = some (.int .i64 a0_0) := (blk_cell D3.out 0).trans rfl
      have Eb : wr.cell? ⟨D5, 1, none⟩ = some (.int .i64 a0_1) := (blk_cell D3.out 1).trans rfl
      have Ec : wr.cell? ⟨D5, 2, none⟩ = some (.slice A0_2 l0_2.length c0_2) := (blk_cell D3.out 2).trans rfl
      have Ej := blk_frozen D3.out 0; have Ek := blk_frozen D3.out 1; have El := blk_frozen D3.out 2
      go_wp2_with (first | ((with_reducible refine gate_callee (f := 62) rfl ?_); refine goesL_ (some 66) rfl rfl Try.func62 (by kernel_rfl) rfl #[.int .i64 a0_0, .int .i64 0, .int .i64 1000000] rfl Cmp.q ?_; (with_reducible refine (spec_l1In.calls a0_0 0 1000000 true _ Es.out).mono ?_); rintro e w' ⟨rfl, ⟨nd, rfl⟩⟩; refine ⟨_, rfl, ?_⟩) | (go_at_call 62; (with_reducible refine (spec_l1In.calls a0_1 1 3 true _ Fc.out).mono ?_); rintro e w' ⟨rfl, ⟨nd, rfl⟩⟩))
      go_ret
      exact ⟨by first | rfl | (simp [errW_none, errW_some] <;> rfl) | (simp [*, errW_none, errW_some] <;> rfl), Cmp.g HB.out⟩
     ·replace c45 := Bool.eq_false_iff.mpr c45
      subst c45
      have H1 : (some false) = some r := by rw [if_neg (show ¬ (false = true) by decide)] at H; exact H
      clear H; have H := H1; clear H1
      obtain rfl := Option.some.inj H
      have Ed : wr.cell? ⟨D5, 0, none⟩ = some (.int .i64 a0_0) := (blk_cell D3.out 0).trans rfl
      have Ee : wr.cell? ⟨D5, 1, none⟩ = some (.int .i64 a0_1) := (blk_cell D3.out 1).trans rfl
      have Ef : wr.cell? ⟨D5, 2, none⟩ = some (.slice A0_2 l0_2.length c0_2) := (blk_cell D3.out 2).trans rfl
      have Em := blk_frozen D3.out 0; have En := blk_frozen D3.out 1; have Eo := blk_frozen D3.out 2
      go_wp2_with (first | ((with_reducible refine gate_callee (f := 62) rfl ?_); refine goesL_ (some 66) rfl rfl Try.func62 (by kernel_rfl) rfl #[.int .i64 a0_0, .int .i64 0, .int .i64 1000000] rfl Cmp.q ?_; (with_reducible refine (spec_l1In.calls a0_0 0 1000000 true _ Es.out).mono ?_); rintro e w' ⟨rfl, ⟨nd, rfl⟩⟩; refine ⟨_, rfl, ?_⟩) | (go_at_call 62; (with_reducible refine (spec_l1In.calls a0_1 1 3 false _ Fc.out).mono ?_); rintro e w' ⟨rfl, ⟨nd, rfl⟩⟩))
      go_ret
      exact ⟨by first | rfl | (simp [errW_none, errW_some] <;> rfl) | (simp [*, errW_none, errW_some] <;> rfl), Cmp.g HB.out⟩
    ·replace c43 := Bool.eq_false_iff.mpr c43
     subst c43
     have H1 : (some false) = some r := by rw [if_neg (show ¬ (false = true) by decide)] at H; exact H
     clear H; have H := H1; clear H1
     obtain rfl := Option.some.inj H
     have Eg : wr.cell? ⟨D5, 0, none⟩ = some (.int .i64 a0_0) := (blk_cell D3.out 0).trans rfl
     have Eh : wr.cell? ⟨D5, 1, none⟩ = some (.int .i64 a0_1) := (blk_cell D3.out 1).trans rfl
     have Ei : wr.cell? ⟨D5, 2, none⟩ = some (.slice A0_2 l0_2.length c0_2) := (blk_cell D3.out 2).trans rfl
     have Ep := blk_frozen D3.out 0; have Eq := blk_frozen D3.out 1; have Er := blk_frozen D3.out 2
     go_wp2_with (first | ((with_reducible refine gate_callee (f := 62) rfl ?_); refine goesL_ (some 66) rfl rfl Try.func62 (by kernel_rfl) rfl #[.int .i64 a0_0, .int .i64 0, .int .i64 1000000] rfl Cmp.q ?_; (with_reducible refine (spec_l1In.calls a0_0 0 1000000 false _ Es.out).mono ?_); rintro e w' ⟨rfl, ⟨nd, rfl⟩⟩; refine ⟨_, rfl, ?_⟩))
     go_ret
     exact ⟨by first | rfl | (simp [errW_none, errW_some] <;> rfl) | (simp [*, errW_none, errW_some] <;> rfl), Cmp.g HB.out⟩

end Go.Proofs.Ytgcipecdaimjfaa.PFnCredentials
