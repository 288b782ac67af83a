/- Printed functions of the program (by a changed copy of the printer). No condition. -/
import Derived.Test.YtgcipecdaimjfaaCmp
import Derived.Test.YtgcipecdaimjfaaPFnCredentialsx0
import Derived.Test.YtgcipecdaimjfaaPFnCredentialsx2
import Derived.Test.YtgcipecdaimjfaaPFnCredentialsx3
namespace Go.Proofs.Ytgcipecdaimjfaa.PFnCredentials
open Go.Proofs.Ytgcipecdaimjfaa
open Go.RowKit Go.Proofs.YtgcipecdaimjfaaW.PrintWords Go.Proofs.YtgcipecdaimjfaaW.PrintLast Go.Proofs.YtgcipecdaimjfaaW.PrintMore
attribute [local go_sem] max2_int min2_int max_two min_two max_three min_three max_four min_four   -- for this text's walks alone
set_option linter.unusedVariables false
set_option linter.unusedSimpArgs false

/-! ### spec_AddCredential: function 12 -/
mutual
def spec_AddCredential.j1 : Nat → Int → Int → Int → Int → Int → List (S35) → Int → Int → List (S35) → Option (Int × Int × (List (S35)) × Bool)
  | 0, _, _, _, _, _, _, _, _, _ => none
  | k + 1, x1, x2, x9, x148000, x148001, x148002, x155000, x155001, x155002 => (some (([] : List (S35)) : List (S35))).bind fun y156 => (if 0 ≤ x9 then (if x9 ≤ (x148002.length : Int) then ((some (x148002.take (x9 : Int).toNat : List (S35))).bind fun y159 => (if y156.length + y159.length < 4398046511104 then ((some (y156 ++ y159 : List (S35))).bind fun y163 => ((some (([(⟨x1, x2, 0, false⟩ : S35)] : List (S35)) : List (S35))).bind fun y166 => (if y163.length + y166.length < 4398046511104 then ((some (y163 ++ y166 : List (S35))).bind fun y169 => ((some (x148002.drop (x9 : Int).toNat : List (S35))).bind fun y172 => (if y169.length + y172.length < 4398046511104 then ((some (y169 ++ y172 : List (S35))).bind fun y176 => ((spec_IsValidAccount.f k x148000 x148001 x148002).bind fun t179 => (if t179 = true then ((spec_IsValidAccount.f k x155000 x155001 y176).bind fun t180 => (if t180 = true then (some (x155000, x155001, y176, true)) else ((spec_l14Copy.f x148000 x148001 x148002).bind fun bt181 => (some (bt181.1, bt181.2.1, bt181.2.2, false))))) else ((spec_l14Copy.f x148000 x148001 x148002).bind fun bt186 => (some (bt186.1, bt186.2.1, bt186.2.2, false)))))) else (none)))) else (none)))) else (none))) else (none)) else (none))
def spec_AddCredential.l0 : Nat → Int → Int → Int → Int → Int → List (S35) → Int → Int → List (S35) → Option (Int × Int × (List (S35)) × Bool)
  | 0, _, _, _, _, _, _, _, _, _ => none
  | k + 1, x1, x2, x9, x148000, x148001, x148002, x155000, x155001, x155002 => if x9 < (x148002.length : Int) then (if 0 ≤ x9 then (if ((rd_T35 x148002 x9).f0) < x1 then (spec_AddCredential.l0 k x1 x2 (wrap64 (x9 + 1)) x148000 x148001 x148002 x155000 x155001 x155002) else (spec_AddCredential.j1 k x1 x2 x9 x148000 x148001 x148002 x155000 x155001 x155002)) else (none)) else (spec_AddCredential.j1 k x1 x2 x9 x148000 x148001 x148002 x155000 x155001 x155002)
end
def spec_AddCredential.f (k : Nat) (a0_0 : Int) (a0_1 : Int) (l0_2 : List (S35)) (a1 : Int) (a2 : Int) : Option (Int × Int × (List (S35)) × Bool) := (spec_l14Copy.f a0_0 a0_1 l0_2).bind fun bt149 => (spec_AddCredential.l0 k a1 a2 0 a0_0 a0_1 l0_2 bt149.1 bt149.2.1 bt149.2.2)
theorem spec_AddCredential.mono_l : ∀ k, (∀ y0 y1 y2 y3 y4 y5 y6 y7 y8, LeO (spec_AddCredential.j1 k y0 y1 y2 y3 y4 y5 y6 y7 y8) (spec_AddCredential.j1 (k + 1) y0 y1 y2 y3 y4 y5 y6 y7 y8)) ∧ (∀ y0 y1 y2 y3 y4 y5 y6 y7 y8, LeO (spec_AddCredential.l0 k y0 y1 y2 y3 y4 y5 y6 y7 y8) (spec_AddCredential.l0 (k + 1) y0 y1 y2 y3 y4 y5 y6 y7 y8))
  | 0 => ⟨fun _ _ _ _ _ _ _ _ _ r h => by simp [spec_AddCredential.j1] at h, fun _ _ _ _ _ _ _ _ _ r h => by simp [spec_AddCredential.l0] at h⟩
  | k + 1 => by
    obtain ⟨ih0, ih1⟩ := spec_AddCredential.mono_l k
    refine ⟨?_, ?_⟩
    · intro y0 y1 y2 y3 y4 y5 y6 y7 y8
      unfold spec_AddCredential.j1
      repeat' first
      | (with_reducible exact ih0 _ _ _ _ _ _ _ _ _)
      | (with_reducible exact ih1 _ _ _ _ _ _ _ _ _)
      | (with_reducible exact spec_IsValidAccount.mono _ _ _ _)
      | (with_reducible exact LeO.refl _)
      | (with_reducible exact LeO.none _)
      | (with_reducible refine LeO.ite ?_ ?_)
      | (with_reducible refine LeO.bind ?_ (fun _ => ?_))
      | exact ih0 _ _ _ _ _ _ _ _ _
      | exact ih1 _ _ _ _ _ _ _ _ _
      | exact spec_IsValidAccount.mono _ _ _ _
      | exact LeO.none _
      | refine LeO.ite ?_ ?_
      | refine LeO.bind ?_ (fun _ => ?_)
    · intro y0 y1 y2 y3 y4 y5 y6 y7 y8
      unfold spec_AddCredential.l0
      repeat' first
      | (with_reducible exact ih0 _ _ _ _ _ _ _ _ _)
      | (with_reducible exact ih1 _ _ _ _ _ _ _ _ _)
      | (with_reducible exact spec_IsValidAccount.mono _ _ _ _)
      | (with_reducible exact LeO.refl _)
      | (with_reducible exact LeO.none _)
      | (with_reducible refine LeO.ite ?_ ?_)
      | (with_reducible refine LeO.bind ?_ (fun _ => ?_))
      | exact ih0 _ _ _ _ _ _ _ _ _
      | exact ih1 _ _ _ _ _ _ _ _ _
      | exact spec_IsValidAccount.mono _ _ _ _
      | exact LeO.none _
      | refine LeO.ite ?_ ?_
      | refine LeO.bind ?_ (fun _ => ?_)
theorem spec_AddCredential.mono : ∀ a0 a1 a2 a3 a4 k, LeO (spec_AddCredential.f k a0 a1 a2 a3 a4) (spec_AddCredential.f (k + 1) a0 a1 a2 a3 a4) := by
  intro a0 a1 a2 a3 a4 k
  obtain ⟨ih0, ih1⟩ := spec_AddCredential.mono_l k
  unfold spec_AddCredential.f
  repeat' first
      | (with_reducible exact ih0 _ _ _ _ _ _ _ _ _)
      | (with_reducible exact ih1 _ _ _ _ _ _ _ _ _)
      | (with_reducible exact spec_IsValidAccount.mono _ _ _ _)
      | (with_reducible exact LeO.refl _)
      | (with_reducible exact LeO.none _)
      | (with_reducible refine LeO.ite ?_ ?_)
      | (with_reducible refine LeO.bind ?_ (fun _ => ?_))
      | exact ih0 _ _ _ _ _ _ _ _ _
      | exact ih1 _ _ _ _ _ _ _ _ _
      | exact spec_IsValidAccount.mono _ _ _ _
      | exact LeO.none _
      | refine LeO.ite ?_ ?_
      | refine LeO.bind ?_ (fun _ => ?_)
def spec_AddCredential.T5 : Bool × List (List Nat × List Nat) := (true, [([], []), ([], []), ([1], [1]), ([], []), ([2, 3], [2, 3]), ([0, 4], [0, 4]), ([], []), ([], []), ([6, 7], [6, 7]), ([8], [8]), ([5, 9, 5], [5, 9]), ([], []), ([11], [11]), ([], []), ([12, 13], [12, 13]), ([10, 14, 10], [10, 14]), ([0, 1, 2, 3, 4, 5, 6, 7, 8, 9, 10, 11, 12, 13, 14, 15], []), ([16, 15, 15, 0, 1, 2, 3, 4, 5, 6, 7, 8, 9, 10, 11, 12, 13, 14, 15], [15, 16])])
def spec_AddCredential.B5 : List Nat := [0, 0, 2, 0, 14, 31, 0, 0, 192, 448, 1023, 0, 2048, 0, 14336, 32767, 65535, 131071]
theorem spec_AddCredential.tab5 : rtab .any (opsOf Try.f12 5) = spec_AddCredential.T5 := by kernel_rfl
theorem spec_AddCredential.bits5 : waitsOk spec_AddCredential.T5.2 spec_AddCredential.B5 = true := by kernel_rfl
set_option maxHeartbeats 8000000 in
set_option maxRecDepth 100000 in
theorem spec_AddCredential.calls (k : Nat) (a0_0 : Int) (a0_1 : Int) (A0_2 : Option Addr) (c0_2 : Nat) (l0_2 : List (S35)) (a1 : Int) (a2 : Int) (r1 : Int) (r2 : Int) (r3 : List (S35)) (r4 : Bool) (w : World) (hr0_2 : Kd.C k35 w A0_2 l0_2.length l0_2) (hc0_2 : l0_2.length ≤ c0_2) (h : spec_AddCredential.f k a0_0 a0_1 l0_2 a1 a2 = some (r1, r2, r3, r4)) :
    Calls Try.prog 12 #[.agg #[.int .i64 a0_0, .int .i64 a0_1, .slice A0_2 l0_2.length c0_2], .int .i64 a1, .int .i64 a2] w fun e w' => ∃ v2_ : Value, e = .returned (.tuple #[.agg #[.int .i64 r1, .int .i64 r2, v2_], .bool r4]) ∧ Kd.R k35 35 w' w.heap.size (fun _ => True) v2_ r3 ∧ Below w.heap.size w w' := by
 have hu26 := Try.underlying26; have hu35 := Try.underlying35; have Dt := Aside0.mk hr0_2; have HC0_2 := Aside0.mk hc0_2; clear hr0_2 hc0_2
 have HB := Aside0.mk (Below.refl w.heap.size w)
 have H : ((spec_l14Copy.f a0_0 a0_1 l0_2).bind fun bt149 => (spec_AddCredential.l0 k a1 a2 0 a0_0 a0_1 l0_2 bt149.1 bt149.2.1 bt149.2.2)) = some (r1, r2, r3, r4) := h
 clear h; replace H := Option.bind_eq_some_iff.mp H; obtain ⟨⟨Dk, Dl, D8⟩, La, H⟩ := H; (try dsimp only at H); have A4 := Aside0.mk La; clear La; have HC5 := Aside0.mk H; clear H
 go_enter Try.func12, Try.ntmps12
 go_upto_block 0 with (first | ((with_reducible refine gate_dst (N := 3) rfl ?_); refine box_event ?hg (N := 3) ?hd (cs := #[.int .i64 a0_0, .int .i64 a0_1, .slice A0_2 l0_2.length c0_2]) (t := 26) ?hr ?_; (case hd => rfl); (case hg => rfl); (case hr => first | (go_simp; done) | (go_simp; rfl)); intro D7 hg w6 hbox hb; have D1 := Aside0.mk (hbox); have Le := Cmp.gw hg HB; have Lb := Cmp.gw hg HB; replace HB := Cmp.bs HB hb; clear hb hbox hg) | ((with_reducible refine gate_dst (N := 6) rfl ?_); refine box_event ?hg (N := 6) ?hd (cs := #[.int .i64 0, .int .i64 0, .slice none 0 0]) (t := 26) ?hr ?_; (case hd => rfl); (case hg => rfl); (case hr => first | (go_simp; done) | (go_simp; rfl)); intro Di hg w7 hbox hb; have D3 := Aside0.mk (hbox); have Lf := Cmp.gw hg HB; have Lc := Cmp.gw hg HB; have Dn := Cmp.nl hg D1; have Do := Cmp.ng hg D1; replace D1 := Cmp.be D1 hb; replace HB := Cmp.bs HB hb; clear hb hbox hg; have Me := Dn.out; have Mf := Do.out; have F1 := Cmp.c0 D1; have F2 := Cmp.c1 D1; have F3 := Cmp.c2 D1; have F4 := blk_frozen D1.out 0; have F5 := blk_frozen D1.out 1; have F6 := blk_frozen D1.out 2) | ((with_reducible refine gate_callee (f := 57) rfl ?_); refine goesL_ (some 11) rfl rfl Try.func57 (by kernel_rfl) rfl #[.agg #[.int .i64 a0_0, .int .i64 a0_1, .slice A0_2 l0_2.length c0_2]] rfl Cmp.q ?_; (with_reducible refine (spec_l14Copy.calls a0_0 a0_1 _ _ l0_2 Dk Dl D8 _ ?side1 ?side2 A4.out).mono ?_); (case side1 => exact Cmp.rc (Kd.C_below Dt.out HB.out)); (case side2 => exact HC0_2.out); rintro e w10 ⟨v152, rfl, Et, hb⟩; refine ⟨_, rfl, ?_⟩; have El := Aside0.mk (Kd.R_lower Et (below_size (Cmp.g HB.out))); replace D1 := Cmp.be D1 hb; replace D3 := Cmp.be D3 hb; replace HB := Cmp.bs HB hb; (try clear hb); (try clear hb2); (try clear hk); (try clear hi); (try clear Et)) | ((with_reducible refine gate_dst (N := 8) rfl ?_); refine box_event ?hg (N := 8) ?hd (cs := #[.int .i64 0, .int .i64 0, .slice none 0 0]) (t := 26) ?hr ?_; (case hd => rfl); (case hg => rfl); (case hr => first | (go_simp; done) | (go_simp; rfl)); intro Dd hg w11 hbox hb; have D2 := Aside0.mk (hbox); have Lg := Cmp.gw hg HB; have Ld := Cmp.gw hg HB; have D9 := Cmp.nl hg D1; have Df := Cmp.ng hg D1; have Dp := Cmp.nl hg D3; have Dq := Cmp.ng hg D3; replace El := Aside0.mk (Kd.R_below (Cmp.rr El.out) hb); replace D1 := Cmp.be D1 hb; replace D3 := Cmp.be D3 hb; replace HB := Cmp.bs HB hb; clear hb hbox hg; have Lh := Df.out; have Lv := D9.out; have Li := Dq.out; have Lw := Dp.out; have En := Cmp.c0 D2; have Eo := Cmp.c1 D2; have Ep := Cmp.c2 D2; have Eq := blk_frozen D2.out 0; have Er := blk_frozen D2.out 1; have Es := blk_frozen D2.out 2; obtain ⟨Da, Db, L1⟩ := Kd.R_slice El.out; subst L1))
 (try simp only [Act.put, List.setIfInBounds_toArray, List.set_cons_zero, List.set_cons_succ])
 go_cut [9] (fun v9 wc => ∃ (kq : Nat) (Dc : Int), v9 = .int .i64 Dc ∧ Aside0 (spec_AddCredential.j1 kq a1 a2 Dc a0_0 a0_1 l0_2 Dk Dl D8 = some (r1, r2, r3, r4)) ∧ Aside0 (kq ≤ k) ∧ Aside0 (Kd.R k35 35 wc w.heap.size (fun _ => True) (.slice Da D8.length Db) D8) ∧ Aside0 (wc.heap[D7]? = some (.cells #[.int .i64 a0_0, .int .i64 a0_1, (.slice A0_2 l0_2.length c0_2)] 26 (0, 0))) ∧ Aside0 (wc.heap[Di]? = some (.cells #[.int .i64 0, .int .i64 0, (.slice none 0 0)] 26 (0, 0))) ∧ Aside0 (wc.heap[Dd]? = some (.cells #[.int .i64 Dk, .int .i64 Dl, (.slice Da D8.length Db)] 26 (0, 0))) ∧ Aside0 (Below w.heap.size w wc))
 case first =>
  have H := HC5.out; clear HC5
  have H' := Aside0.mk H
  clear H
  go_wp2
  go_loopg [9] k (fun kq v9 w' => ∃ (Dw : Int), v9 = .int .i64 Dw ∧ Aside0 (spec_AddCredential.l0 kq a1 a2 Dw a0_0 a0_1 l0_2 Dk Dl D8 = some (r1, r2, r3, r4)) ∧ Aside0 (kq ≤ k) ∧ Aside0 (Kd.R k35 35 w' w.heap.size (fun _ => True) (.slice Da D8.length Db) D8) ∧ Aside0 (w'.heap[D7]? = some (.cells #[.int .i64 a0_0, .int .i64 a0_1, (.slice A0_2 l0_2.length c0_2)] 26 (0, 0))) ∧ Aside0 (w'.heap[Di]? = some (.cells #[.int .i64 0, .int .i64 0, (.slice none 0 0)] 26 (0, 0))) ∧ Aside0 (w'.heap[Dd]? = some (.cells #[.int .i64 Dk, .int .i64 Dl, (.slice Da D8.length Db)] 26 (0, 0))) ∧ Aside0 (Below w.heap.size w w'))
  case atStart => exact ⟨(0), (by first | rfl | simp | simp [*]), H', ⟨Nat.le_refl _⟩, ⟨by (with_reducible repeat (first | apply Kd.R_alloc | apply Kd.R_drewN | apply Kd.R_drew)); exact Kd.R_mono (Kd.R_far (p := ⟨Dd, 2, none⟩) (Kd.R_far (p := ⟨Dd, 1, none⟩) (Kd.R_far (p := ⟨Dd, 0, none⟩) (Kd.R_types El.out D2.out (by decide)) (fun _ hk => hk.2) (.int .i64 Dk)) (fun _ hk => hk.2) (.int .i64 Dl)) (fun _ hk => hk.2) (.slice Da D8.length Db)) (fun _ hk => trivial)⟩, ⟨Cmp.bw D1.out⟩, ⟨Cmp.bw D3.out⟩, ⟨Cmp.bw D2.out⟩, ⟨Cmp.g HB.out⟩⟩
  case round =>
   clear H'
   (try clear c1); (try clear p2); (try clear c5); (try clear c8); (try clear c12); (try clear c13); (try clear En); (try clear Eo); (try clear Ep); (try clear F1); (try clear F2); (try clear F3); (try clear Eq); (try clear Er); (try clear Es); (try clear F4); (try clear F5); (try clear F6)
   obtain ⟨Dw, rfl, HA, HK1, D0, D1, D3, D2, HB⟩ := hrel
   cases gk with
   | zero => exact absurd HA.out (by simp [spec_AddCredential.l0])
   | succ k1 =>
    have H := HA.out; clear HA
    simp only [spec_AddCredential.l0] at H
    by_cases c16 : Dw < (l0_2.length : Int)
    ·rw [if_pos c16] at H
     have c16b0 : decide (Dw < (l0_2.length : Int)) = true := decide_eq_true c16
     clear c16
     (first | rw [c16b0] | (simp only [i64_w, i32_w]; rw [c16b0]) | skip)
     by_cases c17 : 0 ≤ Dw
     ·rw [if_pos c17] at H; have c17b0 : decide (0 ≤ Dw) = true := decide_eq_true c17; clear c17
      by_cases c18 : ((rd_T35 l0_2 Dw).f0) < a1
      ·rw [if_pos c18] at H; have c18b0 : decide (((rd_T35 l0_2 Dw).f0) < a1) = true := decide_eq_true c18; clear c18
       have H' := Aside0.mk H
       clear H; have Lj := Dn.out; have Lx := Do.out; have Lk := D9.out; have Ly := Df.out
       have Ff : wr.cell? ⟨D7, 0, none⟩ = some (.int .i64 a0_0) := (blk_cell D1.out 0).trans rfl
       have Fg : wr.cell? ⟨D7, 1, none⟩ = some (.int .i64 a0_1) := (blk_cell D1.out 1).trans rfl
       have Fh : wr.cell? ⟨D7, 2, none⟩ = some (.slice A0_2 l0_2.length c0_2) := (blk_cell D1.out 2).trans rfl
       have Fo := blk_frozen D1.out 0; have Fp := blk_frozen D1.out 1; have Fq := blk_frozen D1.out 2
       have p155 : 0 ≤ (Dw : Int) := of_decide_eq_true Cmp.d
       have q155 : Dw < (l0_2.length : Int) := of_decide_eq_true Cmp.d
       obtain ⟨Gr, e155, Dy, Dz, E0, E1⟩ := at_T35 Dt.out Dw p155 q155
       cases e155
       replace Dy := Cmp.hc HB Dy
       replace Dz := Cmp.hc HB Dz
       replace E0 := Cmp.hc HB E0
       replace E1 := Cmp.hc HB E1
       replace p155 := eq_true p155; replace q155 := eq_true q155
       go_wp2
       go_roundg k1
       case measure => have := HK1.out; omega
       case rel => exact ⟨(wrap64 (Dw + 1)), (by first | rfl | simp | simp [*]), H', ⟨by have := HK1.out; omega⟩, ⟨Cmp.rr D0.out⟩, Cmp.bq D1, Cmp.bq D3, Cmp.bq D2, ⟨Cmp.g HB.out⟩⟩
      ·rw [if_neg c18] at H; have c18b0 : decide (((rd_T35 l0_2 Dw).f0) < a1) = false := decide_eq_false c18; clear c18
       have H' := Aside0.mk H
       clear H; have Ll := Dn.out; have Lz := Do.out; have Lm := D9.out; have M0 := Df.out
       have Fi : wr.cell? ⟨D7, 0, none⟩ = some (.int .i64 a0_0) := (blk_cell D1.out 0).trans rfl
       have Fj : wr.cell? ⟨D7, 1, none⟩ = some (.int .i64 a0_1) := (blk_cell D1.out 1).trans rfl
       have Fk : wr.cell? ⟨D7, 2, none⟩ = some (.slice A0_2 l0_2.length c0_2) := (blk_cell D1.out 2).trans rfl
       have Fr := blk_frozen D1.out 0; have Fs := blk_frozen D1.out 1; have Ft := blk_frozen D1.out 2
       have p155 : 0 ≤ (Dw : Int) := of_decide_eq_true Cmp.d
       have q155 : Dw < (l0_2.length : Int) := of_decide_eq_true Cmp.d
       obtain ⟨Gr, e155, Dy, Dz, E0, E1⟩ := at_T35 Dt.out Dw p155 q155
       cases e155
       replace Dy := Cmp.hc HB Dy
       replace Dz := Cmp.hc HB Dz
       replace E0 := Cmp.hc HB E0
       replace E1 := Cmp.hc HB E1
       replace p155 := eq_true p155; replace q155 := eq_true q155
       go_wp2
       go_meet
       case rel => exact ⟨_, (Dw), (by first | rfl | simp | simp [*]), H', ⟨by have := HK1.out; first | omega | exact Nat.le_refl _⟩, ⟨Cmp.rr D0.out⟩, Cmp.bq D1, Cmp.bq D3, Cmp.bq D2, ⟨Cmp.g HB.out⟩⟩
     ·rw [if_neg c17] at H; exact absurd H (by simp)
    ·rw [if_neg c16] at H
     have c16b0 : decide (Dw < (l0_2.length : Int)) = false := decide_eq_false c16
     clear c16
     (first | rw [c16b0] | (simp only [i64_w, i32_w]; rw [c16b0]) | skip)
     have H' := Aside0.mk H
     clear H; have Ln := Dn.out; have M1 := Do.out; have Lo := D9.out; have M2 := Df.out
     have Fl : wr.cell? ⟨D7, 0, none⟩ = some (.int .i64 a0_0) := (blk_cell D1.out 0).trans rfl
     have Fm : wr.cell? ⟨D7, 1, none⟩ = some (.int .i64 a0_1) := (blk_cell D1.out 1).trans rfl
     have Fn : wr.cell? ⟨D7, 2, none⟩ = some (.slice A0_2 l0_2.length c0_2) := (blk_cell D1.out 2).trans rfl
     have Fu := blk_frozen D1.out 0; have Fv := blk_frozen D1.out 1; have Fw := blk_frozen D1.out 2
     go_wp2
     go_meet
     case rel => exact ⟨_, (Dw), (by first | rfl | simp | simp [*]), H', ⟨by have := HK1.out; first | omega | exact Nat.le_refl _⟩, ⟨Cmp.rr D0.out⟩, Cmp.bq D1, Cmp.bq D3, Cmp.bq D2, ⟨Cmp.g HB.out⟩⟩
 case rest =>
  clear HC5; (try clear c1); (try clear p1); (try clear q1); (try clear hx1); (try clear c2); (try clear p2); (try clear c5); (try clear p6); (try clear c8); (try clear c12); (try clear c13); (try clear p15); (try clear q15); (try clear hx15); (try clear c16); (try clear c16b0); (try clear c17); (try clear c17b0); (try clear c18); (try clear c18b0); (try clear c19); (try clear c20); (try clear c22); (try clear c23); (try clear c25); (try clear c26); (try clear En); (try clear Eo); (try clear Ep); (try clear Ff); (try clear Fg); (try clear Fh); (try clear Fi); (try clear Fj); (try clear Fk); (try clear Fl); (try clear Fm); (try clear Fn); (try clear F1); (try clear F2); (try clear F3); (try clear Eq); (try clear Er); (try clear Es); (try clear Fo); (try clear Fp); (try clear Fq); (try clear Fr); (try clear Fs); (try clear Ft); (try clear Fu); (try clear Fv); (try clear Fw); (try clear F4); (try clear F5); (try clear F6); (try clear Dy); (try clear Dz); (try clear E0); (try clear E1); (try clear p155); (try clear p2); (try clear q155)
  obtain ⟨kq, Dc, rfl, HA, HJ4, D0, D1, D3, D2, HB⟩ := hcut
  cases kq with
  | zero => exact absurd HA.out (by simp [spec_AddCredential.j1])
  | succ kj4 =>
   have H := HA.out; clear HA
   simp only [spec_AddCredential.j1] at H
   obtain ⟨E7, hy156⟩ : ∃ y_ : List (S35), y_ = (([] : List (S35))) := ⟨_, rfl⟩
   replace H : (if 0 ≤ Dc then (if Dc ≤ (l0_2.length : Int) then ((some (l0_2.take (Dc : Int).toNat : List (S35))).bind fun Ds => (if E7.length + Ds.length < 4398046511104 then ((some (E7 ++ Ds : List (S35))).bind fun Du => ((some (([(⟨a1, a2, 0, false⟩ : S35)] : List (S35)) : List (S35))).bind fun Dj => (if Du.length + Dj.length < 4398046511104 then ((some (Du ++ Dj : List (S35))).bind fun Dv => ((some (l0_2.drop (Dc : Int).toNat : List (S35))).bind fun Dg => (if Dv.length + Dg.length < 4398046511104 then ((some (Dv ++ Dg : List (S35))).bind fun Dh => ((spec_IsValidAccount.f kj4 a0_0 a0_1 l0_2).bind fun E5 => (if E5 = true then ((spec_IsValidAccount.f kj4 Dk Dl Dh).bind fun E6 => (if E6 = true then (some (Dk, Dl, Dh, true)) else ((spec_l14Copy.f a0_0 a0_1 l0_2).bind fun bt181 => (some (bt181.1, bt181.2.1, bt181.2.2, false))))) else ((spec_l14Copy.f a0_0 a0_1 l0_2).bind fun bt186 => (some (bt186.1, bt186.2.1, bt186.2.2, false)))))) else (none)))) else (none)))) else (none))) else (none)) else (none)) = some (r1, r2, r3, r4) := by first | (rw [hy156]; with_reducible exact H) | (have H2_ := (Option.bind_some _ _).symm.trans H; rw [hy156]; with_reducible exact H2_) | (have H2_ := (Option.bind_some _ _).symm.trans H; with_reducible exact H2_) | with_reducible exact H | (rw [hy156]; exact H) | exact H
   have Dx := Aside0.mk hy156; clear hy156
   by_cases c28 : 0 ≤ Dc
   ·rw [if_pos c28] at H
    have c28b0 := eq_true c28
    have c28b1 : decide (0 ≤ Dc) = true := decide_eq_true c28; clear c28
    by_cases c29 : Dc ≤ (l0_2.length : Int)
    ·rw [if_pos c29] at H
     have c29b0 := eq_true c29
     have c29b1 : decide (Dc ≤ (l0_2.length : Int)) = true := decide_eq_true c29
     clear c29
     obtain ⟨Ds, hy159⟩ : ∃ y_ : List (S35), y_ = (l0_2.take (Dc : Int).toNat) := ⟨_, rfl⟩
     replace H : (if E7.length + Ds.length < 4398046511104 then ((some (E7 ++ Ds : List (S35))).bind fun Du => ((some (([(⟨a1, a2, 0, false⟩ : S35)] : List (S35)) : List (S35))).bind fun Dj => (if Du.length + Dj.length < 4398046511104 then ((some (Du ++ Dj : List (S35))).bind fun Dv => ((some (l0_2.drop (Dc : Int).toNat : List (S35))).bind fun Dg => (if Dv.length + Dg.length < 4398046511104 then ((some (Dv ++ Dg : List (S35))).bind fun Dh => ((spec_IsValidAccount.f kj4 a0_0 a0_1 l0_2).bind fun E5 => (if E5 = true then ((spec_IsValidAccount.f kj4 Dk Dl Dh).bind fun E6 => (if E6 = true then (some (Dk, Dl, Dh, true)) else ((spec_l14Copy.f a0_0 a0_1 l0_2).bind fun bt181 => (some (bt181.1, bt181.2.1, bt181.2.2, false))))) else ((spec_l14Copy.f a0_0 a0_1 l0_2).bind fun bt186 => (some (bt186.1, bt186.2.1, bt186.2.2, false)))))) else (none)))) else (none)))) else (none)) = some (r1, r2, r3, r4) := by first | (rw [hy159]; with_reducible exact H) | (have H2_ := (Option.bind_some _ _).symm.trans H; rw [hy159]; with_reducible exact H2_) | (have H2_ := (Option.bind_some _ _).symm.trans H; with_reducible exact H2_) | with_reducible exact H | (rw [hy159]; exact H) | exact H
     have Ec := Aside0.mk hy159; clear hy159
     by_cases c30 : E7.length + Ds.length < 4398046511104
     ·rw [if_pos c30] at H; have LMc30 := Aside0.mk c30; clear c30
      obtain ⟨Du, hy163⟩ : ∃ y_ : List (S35), y_ = (E7 ++ Ds) := ⟨_, rfl⟩
      replace H : ((some (([(⟨a1, a2, 0, false⟩ : S35)] : List (S35)) : List (S35))).bind fun Dj => (if Du.length + Dj.length < 4398046511104 then ((some (Du ++ Dj : List (S35))).bind fun Dv => ((some (l0_2.drop (Dc : Int).toNat : List (S35))).bind fun Dg => (if Dv.length + Dg.length < 4398046511104 then ((some (Dv ++ Dg : List (S35))).bind fun Dh => ((spec_IsValidAccount.f kj4 a0_0 a0_1 l0_2).bind fun E5 => (if E5 = true then ((spec_IsValidAccount.f kj4 Dk Dl Dh).bind fun E6 => (if E6 = true then (some (Dk, Dl, Dh, true)) else ((spec_l14Copy.f a0_0 a0_1 l0_2).bind fun bt181 => (some (bt181.1, bt181.2.1, bt181.2.2, false))))) else ((spec_l14Copy.f a0_0 a0_1 l0_2).bind fun bt186 => (some (bt186.1, bt186.2.1, bt186.2.2, false)))))) else (none)))) else (none))) = some (r1, r2, r3, r4) := by first | (rw [hy163]; with_reducible exact H) | (have H2_ := (Option.bind_some _ _).symm.trans H; rw [hy163]; with_reducible exact H2_) | (have H2_ := (Option.bind_some _ _).symm.trans H; with_reducible exact H2_) | with_reducible exact H | (rw [hy163]; exact H) | exact H
      have E8 := Aside0.mk hy163; clear hy163
      obtain ⟨Dj, hy166⟩ : ∃ y_ : List (S35), y_ = (([(⟨a1, a2, 0, false⟩ : S35)] : List (S35))) := ⟨_, rfl⟩
      replace H : (if Du.length + Dj.length < 4398046511104 then ((some (Du ++ Dj : List (S35))).bind fun Dv => ((some (l0_2.drop (Dc : Int).toNat : List (S35))).bind fun Dg => (if Dv.length + Dg.length < 4398046511104 then ((some (Dv ++ Dg : List (S35))).bind fun Dh => ((spec_IsValidAccount.f kj4 a0_0 a0_1 l0_2).bind fun E5 => (if E5 = true then ((spec_IsValidAccount.f kj4 Dk Dl Dh).bind fun E6 => (if E6 = true then (some (Dk, Dl, Dh, true)) else ((spec_l14Copy.f a0_0 a0_1 l0_2).bind fun bt181 => (some (bt181.1, bt181.2.1, bt181.2.2, false))))) else ((spec_l14Copy.f a0_0 a0_1 l0_2).bind fun bt186 => (some (bt186.1, bt186.2.1, bt186.2.2, false)))))) else (none)))) else (none)) = some (r1, r2, r3, r4) := by first | (rw [hy166]; with_reducible exact H) | (have H2_ := (Option.bind_some _ _).symm.trans H; rw [hy166]; with_reducible exact H2_) | (have H2_ := (Option.bind_some _ _).symm.trans H; with_reducible exact H2_) | with_reducible exact H | (rw [hy166]; exact H) | exact H
      have Dm := Aside0.mk hy166; clear hy166
      by_cases c31 : Du.length + Dj.length < 4398046511104
      ·rw [if_pos c31] at H; have LMc31 := Aside0.mk c31; clear c31
       obtain ⟨Dv, hy169⟩ : ∃ y_ : List (S35), y_ = (Du ++ Dj) := ⟨_, rfl⟩
       replace H : ((some (l0_2.drop (Dc : Int).toNat : List (S35))).bind fun Dg => (if Dv.length + Dg.length < 4398046511104 then ((some (Dv ++ Dg : List (S35))).bind fun Dh => ((spec_IsValidAccount.f kj4 a0_0 a0_1 l0_2).bind fun E5 => (if E5 = true then ((spec_IsValidAccount.f kj4 Dk Dl Dh).bind fun E6 => (if E6 = true then (some (Dk, Dl, Dh, true)) else ((spec_l14Copy.f a0_0 a0_1 l0_2).bind fun bt181 => (some (bt181.1, bt181.2.1, bt181.2.2, false))))) else ((spec_l14Copy.f a0_0 a0_1 l0_2).bind fun bt186 => (some (bt186.1, bt186.2.1, bt186.2.2, false)))))) else (none))) = some (r1, r2, r3, r4) := by first | (rw [hy169]; with_reducible exact H) | (have H2_ := (Option.bind_some _ _).symm.trans H; rw [hy169]; with_reducible exact H2_) | (have H2_ := (Option.bind_some _ _).symm.trans H; with_reducible exact H2_) | with_reducible exact H | (rw [hy169]; exact H) | exact H
       have Ez := Aside0.mk hy169; clear hy169
       have c32b0 := eq_true (of_decide_eq_true Cmp.d : 0 ≤ Dc)
       have c33b0 := eq_true (of_decide_eq_true Cmp.d : Dc ≤ (l0_2.length : Int))
       obtain ⟨Dg, hy172⟩ : ∃ y_ : List (S35), y_ = (l0_2.drop (Dc : Int).toNat) := ⟨_, rfl⟩
       replace H : (if Dv.length + Dg.length < 4398046511104 then ((some (Dv ++ Dg : List (S35))).bind fun Dh => ((spec_IsValidAccount.f kj4 a0_0 a0_1 l0_2).bind fun E5 => (if E5 = true then ((spec_IsValidAccount.f kj4 Dk Dl Dh).bind fun E6 => (if E6 = true then (some (Dk, Dl, Dh, true)) else ((spec_l14Copy.f a0_0 a0_1 l0_2).bind fun bt181 => (some (bt181.1, bt181.2.1, bt181.2.2, false))))) else ((spec_l14Copy.f a0_0 a0_1 l0_2).bind fun bt186 => (some (bt186.1, bt186.2.1, bt186.2.2, false)))))) else (none)) = some (r1, r2, r3, r4) := by first | (rw [hy172]; with_reducible exact H) | (have H2_ := (Option.bind_some _ _).symm.trans H; rw [hy172]; with_reducible exact H2_) | (have H2_ := (Option.bind_some _ _).symm.trans H; with_reducible exact H2_) | with_reducible exact H | (rw [hy172]; exact H) | exact H
       have Ed := Aside0.mk hy172; clear hy172
       by_cases c34 : Dv.length + Dg.length < 4398046511104
       ·rw [if_pos c34] at H; have LMc34 := Aside0.mk c34; clear c34
        obtain ⟨Dh, hy176⟩ : ∃ y_ : List (S35), y_ = (Dv ++ Dg) := ⟨_, rfl⟩
        replace H : ((spec_IsValidAccount.f kj4 a0_0 a0_1 l0_2).bind fun E5 => (if E5 = true then ((spec_IsValidAccount.f kj4 Dk Dl Dh).bind fun E6 => (if E6 = true then (some (Dk, Dl, Dh, true)) else ((spec_l14Copy.f a0_0 a0_1 l0_2).bind fun bt181 => (some (bt181.1, bt181.2.1, bt181.2.2, false))))) else ((spec_l14Copy.f a0_0 a0_1 l0_2).bind fun bt186 => (some (bt186.1, bt186.2.1, bt186.2.2, false))))) = some (r1, r2, r3, r4) := by first | (rw [hy176]; with_reducible exact H) | (have H2_ := (Option.bind_some _ _).symm.trans H; rw [hy176]; with_reducible exact H2_) | (have H2_ := (Option.bind_some _ _).symm.trans H; with_reducible exact H2_) | with_reducible exact H | (rw [hy176]; exact H) | exact H
        have F0 := Aside0.mk hy176; clear hy176; replace H := Option.bind_eq_some_iff.mp H; obtain ⟨E5, Gm, H⟩ := H; (try dsimp only at H); have L0 := Aside0.mk Gm; clear Gm
        by_cases c36 : E5 = true
        ·subst c36; rw [if_pos rfl] at H; replace H := Option.bind_eq_some_iff.mp H; obtain ⟨E6, Gn, H⟩ := H; (try dsimp only at H); have L9 := Aside0.mk Gn; clear Gn
         by_cases c38 : E6 = true
         ·subst c38; rw [if_pos rfl] at H
          simp only [Option.some.injEq, Prod.mk.injEq] at H
          obtain ⟨rfl, rfl, rfl, rfl⟩ := H
          try go_wp2
          replace D0 := Aside0.mk (Kd.R_drew D0.out); replace D1 := Aside0.mk (blk_drew D1.out); replace D3 := Aside0.mk (blk_drew D3.out); replace D2 := Aside0.mk (blk_drew D2.out); replace HB := Aside0.mk (below_drew1 HB.out)
          have q40 : (Dc : Int) ≤ ((l0_2.length : Int) : Int) := of_decide_eq_true Cmp.d
          obtain ⟨i040, G4, _, hsz40, _⟩ := info_parts info35
          have Eu : l0_2.length ≤ c0_2 := HC0_2.out
          have Gz : Kd.C k35 _ A0_2 l0_2.length l0_2 := Dt.out
          have Ga := cut_to (P := Try.prog) 24 35 .i64 Try.underlying24 G4 A0_2 l0_2.length c0_2 Dc (of_decide_eq_true Cmp.d) q40 Eu
          have hr40 := Kd.C_take (m := (Dc : Int).toNat) Gz (by omega)
          have hy40 : Ds.length = (Dc : Int).toNat := (by rw [Ec.out, List.length_take]; omega)
          rw [← Ec.out] at hr40
          rw [← hy40] at Ga
          have HR162 := Aside0.mk hr40
          have Fy := Aside0.mk (show Ds.length ≤ c0_2 from by omega)
          clear hr40 Gz Eu G4 hsz40; have KY40 := Aside0.mk hy40; clear hy40; replace q40 := eq_true q40
          have q41 : (Dc : Int) ≤ ((l0_2.length : Int) : Int) := of_decide_eq_true Cmp.d
          obtain ⟨i041, G5, _, hsz41, _⟩ := info_parts info35
          have Ee : l0_2.length ≤ c0_2 := HC0_2.out
          have J0 : Kd.C k35 _ A0_2 l0_2.length l0_2 := Dt.out
          have q041 : (0 : Int) ≤ (Dc : Int) := of_decide_eq_true Cmp.d
          have Gb := cut_from (P := Try.prog) 24 35 .i64 Try.underlying24 G5 4 hsz41 A0_2 l0_2.length c0_2 Dc q041 q41
          have hr41 := Kd.C_drop (m := (Dc : Int).toNat) (c := c0_2) J0 (by omega) Ee
          obtain ⟨M9, hA41⟩ : ∃ A1, A1 = (if c0_2 = (Dc : Int).toNat then A0_2 else (A0_2 : Option Addr).map (·.add ((Dc : Int).toNat * 4))) := ⟨_, rfl⟩
          obtain ⟨c41, hc41⟩ : ∃ c1, c1 = c0_2 - (Dc : Int).toNat := ⟨_, rfl⟩
          have hy41 : Dg.length = l0_2.length - (Dc : Int).toNat := (by rw [Ed.out, List.length_drop] <;> omega)
          rw [show (l0_2).drop (Dc : Int).toNat = Dg from Ed.out.symm] at hr41
          replace hr41 : Kd.C k35 _ M9 Dg.length Dg := (by rw [hA41]; exact hr41)
          rw [← hy41, ← hA41, ← hc41] at Gb
          have HR175 := Aside0.mk hr41
          have Fz := Aside0.mk (show Dg.length ≤ c41 from by rw [hy41, hc41]; exact Nat.sub_le_sub_right Ee _)
          clear hr41 J0 Ee G5 hsz41 hc41; have KY41 := Aside0.mk hy41; have KA41 := Aside0.mk hA41; clear hy41 hA41; replace q41 := eq_true q41
          refine start_ (n := 18) (S := fun w' => w'.cell? ⟨D7, 0, none⟩ = some (.int .i64 a0_0) ∧ w'.cell? ⟨D7, 1, none⟩ = some (.int .i64 a0_1) ∧ w'.cell? ⟨D7, 2, none⟩ = some (.slice A0_2 l0_2.length c0_2)) (ds := []) (Cmp.bm 0 18) (by kernel_rfl) rfl rfl ⟨(Cmp.c0 D1 :), (Cmp.c1 D1 :), (Cmp.c2 D1 :)⟩ (fun hHeld => ?_); refine with_tabW spec_AddCredential.tab5 spec_AddCredential.bits5 (fun HT_ HW_ => ?_)
          generalize wc.drew = w39 at D0 D1 D3 D2 HB HR162 HR175 hHeld ⊢
          refine Cmp.pu HT_ 1 30 (Cmp.bb 18 2) ?_; refine Cmp.pu HT_ 3 32 (Cmp.bb 18 10) ?_; refine Cmp.pu HT_ 6 35 (Cmp.bb 18 74) ?_; refine Cmp.pu HT_ 7 36 (Cmp.bb 18 202) ?_; refine Cmp.pu HT_ 8 37 (Cmp.bb 18 458) ?_; refine Cmp.pu HT_ 11 40 (Cmp.bb 18 2506) ?_; refine Cmp.pu HT_ 13 42 (Cmp.bb 18 10698) ?_; refine Cmp.tk HT_ HW_ hHeld 2 31 (Cmp.bb 18 10702) ?_; refine Cmp.pu HT_ 4 33 (Cmp.bb 18 10718) ?_; refine Cmp.tk HT_ HW_ hHeld 12 41 (Cmp.bb 18 14814) ?_; refine Cmp.pu HT_ 14 43 (Cmp.bb 18 31198) ?_
          refine join_ (σ := Value × Value × Value) 4 (Cmp.bb 18 31743) (fun s_ => [(29, s_.1), (34, s_.2.1), (38, s_.2.2)]) (fun s_ w' => (w'.cell? ⟨D7, 0, none⟩ = some (.int .i64 a0_0) ∧ w'.cell? ⟨D7, 1, none⟩ = some (.int .i64 a0_1) ∧ w'.cell? ⟨D7, 2, none⟩ = some (.slice A0_2 l0_2.length c0_2)) ∧ (Kd.R k35 35 w' w.heap.size (fun k_ => some k_ ≠ (s_.2.2 : Value).ownBlock ∧ some k_ ≠ (.slice Da D8.length Db : Value).ownBlock) s_.2.1 Du) ∧ (Kd.R k35 35 w' w.heap.size (fun k_ => some k_ ≠ (s_.2.1 : Value).ownBlock ∧ some k_ ≠ (.slice Da D8.length Db : Value).ownBlock) s_.2.2 Dj) ∧ (Kd.R k35 35 w' w.heap.size (fun k_ => some k_ ≠ (s_.2.1 : Value).ownBlock ∧ some k_ ≠ (s_.2.2 : Value).ownBlock) (.slice Da D8.length Db) D8) ∧ (w'.heap[D7]? = some (.cells #[.int .i64 a0_0, .int .i64 a0_1, .slice A0_2 l0_2.length c0_2] 26 (0, 0))) ∧ (w'.heap[Di]? = some (.cells #[.int .i64 0, .int .i64 0, .slice none 0 0] 26 (0, 0))) ∧ (w'.heap[Dd]? = some (.cells #[.int .i64 Dk, .int .i64 Dl, .slice Da D8.length Db] 26 (0, 0))) ∧ (Below w.heap.size w w')) ?_ ?_
          rotate_left
          ·intro hCont
           refine two_ (i := 0) (j := 9) (Ni := some 29) (Nj := some 38) (Cmp.bb 18 31199) (Cmp.bb 18 31710) rfl rfl rfl rfl (two_of HT_.out (by kernel_rfl)) (by decide) (by decide) (fun K hK => ?_) (fun K hK => ?_)
           ·skip
            refine Kd.R_lit_step k35 _ 35 ?hg (N := 29) ?hd (xs := ([] : List (S35))) (inner := []) (ok := fun _ => True) (okp := fun _ => True) ?hr ?hp (fun _ hk => hk) trivial (Below.refl _ _) (Nat.le_refl _) (by simp) ?_; (case hd => rfl); (case hg => rfl); (case hr => first | (go_simp; done) | (go_simp; rfl)); (case hp => exact (Reps.none _ _))
            intro v157 w42 E9 hb hg_ hnew_
            clear hg_ hnew_
            (first | rw [← Dx.out] at E9 | (simp only [Int.reduceToNat] at E9; rw [← Dx.out] at E9))
            have n0_ := Aside0.mk (Kd.R_elder' (Cmp.rr D0.out) (Kd.R_base E9) hb)
            have n1_ := Aside0.mk (Kd.R_lower (Kd.R_new' E9 (Kd.R_lt (Cmp.rr D0.out))) (below_size (Cmp.g HB.out)))
            have n2_ := Cmp.be D1 hb
            have n3_ := Cmp.be D3 hb
            have n4_ := Cmp.be D2 hb
            have n5_ := Aside0.mk (below_step (Cmp.g HB.out) hb)
            clear D0; clear D1; clear D3; clear D2; clear HB; have D0 := n0_; have D5 := n1_; have D1 := n2_; have D3 := n3_; have D2 := n4_; have HB := n5_; clear n0_ n1_ n2_ n3_ n4_ n5_; clear hb E9
            refine hK.out _ _ ⟨(Cmp.c0 D1 :), (Cmp.c1 D1 :), (Cmp.c2 D1 :)⟩ (fun hHeld => ?_)
            clear hK K
            refine norm_ (a' := ?_) ?_ ?_
            rotate_left
            ·show Act.put _ (some 29) _ = _
             simp only [Act.put, Cmp.s, Cmp.z, Cmp.c, i64_w, i32_w]; rfl
            refine two_ (i := 5) (j := 9) (Ni := some 34) (Nj := some 38) (Cmp.bb 18 31231) (Cmp.bb 18 31711) rfl rfl rfl rfl (two_of HT_.out (by kernel_rfl)) (by decide) (by decide) (fun K hK => ?_) (fun K hK => ?_)
            ·skip
             refine Kd.R_append_rows_step k35 (w0 := w) w.heap.size (by rfl) (.tmp 29) (.tmp 33) 24 35 (.agg #[(.int .i64 0), (.int .i64 0), (.int .i64 0), (.bool false)]) 32 rfl Try.underlying24 info35 rfl (by decide) (by omega) v157 E7 Ds _ _ _ (fun k_ => some k_ ≠ (.slice Da D8.length Db : Value).ownBlock) (fun _ => False) rfl rfl ?aO ?aR (fun _ _ h => h) (fun _ h => h.elim) ?aF ?aB ?aS ?aL ?_
             (case aR => repeat (first | exact (Kd.C_below HR162.out HB.out) | (with_reducible refine Kd.C_alloc ?_ _) | (with_reducible refine Kd.C_drewN ?_ _) | (with_reducible refine Kd.C_drew ?_)))
             (case aB => exact (Cmp.g HB.out))
             (case aF => exact (fun k_ hk => Kd.fresh' (Kd.R_lt (Cmp.rr D0.out)) k_ hk))
             (case aO => exact (by (with_reducible repeat (first | apply Kd.R_alloc | apply Kd.R_drewN | apply Kd.R_drew)); exact Kd.R_mono D5.out (fun _ hk => hk.2)))
             (case aS => exact (below_size (Cmp.g HB.out)))
             (case aL => have := LMc30.out; omega)
             intro v164 w44 ho hb hg hat
             rw [← E8.out] at ho
             have n0_ := Aside0.mk (Kd.R_after (ok := (fun _ => True)) (Cmp.rr D0.out) hg hat)
             have n1_ := Cmp.bg D1 hg (Kd.R_ne D5.out D1.out (by decide))
             have n2_ := Cmp.bg D3 hg (Kd.R_ne D5.out D3.out (by decide))
             have n3_ := Cmp.bg D2 hg (Kd.R_ne D5.out D2.out (by decide))
             have n4_ := Aside0.mk (hb)
             have n5_ := Aside0.mk (ho)
             clear D0; clear D1; clear D3; clear D2; clear HB; clear D5; have D0 := n0_; have D1 := n1_; have D3 := n2_; have D2 := n3_; have HB := n4_; have D6 := n5_; clear n0_ n1_ n2_ n3_ n4_ n5_; clear ho hb hg hat
             refine hK.out _ _ ⟨(Cmp.c0 D1 :), (Cmp.c1 D1 :), (Cmp.c2 D1 :)⟩ (fun hHeld => ?_)
             clear hK K
             refine norm_ (a' := ?_) ?_ ?_
             rotate_left
             ·show Act.put _ (some 34) _ = _
              simp only [Act.put, Cmp.s, Cmp.z, Cmp.c, i64_w, i32_w]; rfl
             refine one_ (i := 9) (N := some 38) (Cmp.bb 18 31743) rfl rfl (one_of HT_.out (by kernel_rfl)) (by decide) (fun K hK => ?_)
             refine Kd.R_lit_step k35 _ 35 ?hg (N := 38) ?hd (xs := ([(⟨a1, a2, 0, false⟩ : S35)] : List (S35))) (inner := [.int .i64 a1, .int .i64 a2, .int .i64 0, .bool false]) (ok := fun _ => True) (okp := fun _ => True) ?hr ?hp (fun _ hk => hk) trivial (Below.refl _ _) (Nat.le_refl _) (by simp) ?_; (case hd => rfl); (case hg => rfl); (case hr => first | (go_simp; done) | (go_simp; rfl)); (case hp => exact (Reps.c4 (show Kd.M k35 _ _ _ (⟨a1, a2, 0, false⟩ : S35) [.int .i64 a1, .int .i64 a2, .int .i64 0, .bool false] from (k35_mkM _ _ _ (⟨a1, a2, 0, false⟩ : S35) )) (Reps.none _ _)))
             intro v167 w45 Eh hb hg_ hnew_
             clear hg_ hnew_
             (first | rw [← Dm.out] at Eh | (simp only [Int.reduceToNat] at Eh; rw [← Dm.out] at Eh))
             have n0_ := Aside0.mk (Kd.R_elder' (Cmp.rr D0.out) (Kd.R_base Eh) hb)
             have n1_ := Aside0.mk (Kd.R_elder' (Cmp.rr D6.out) (Kd.R_base Eh) hb)
             have n2_ := Aside0.mk (Kd.R_lower (Kd.R_new' (Kd.R_new' Eh (Kd.R_lt (Cmp.rr D0.out))) (Kd.R_lt (Cmp.rr D6.out))) (below_size (Cmp.g HB.out)))
             have n3_ := Cmp.be D1 hb
             have n4_ := Cmp.be D3 hb
             have n5_ := Cmp.be D2 hb
             have n6_ := Aside0.mk (below_step (Cmp.g HB.out) hb)
             clear D0; clear D6; clear D1; clear D3; clear D2; clear HB; have D0 := n0_; have D6 := n1_; have D4 := n2_; have D1 := n3_; have D3 := n4_; have D2 := n5_; have HB := n6_; clear n0_ n1_ n2_ n3_ n4_ n5_ n6_; clear hb Eh
             refine hK.out _ _ ⟨(Cmp.c0 D1 :), (Cmp.c1 D1 :), (Cmp.c2 D1 :)⟩ (fun hHeld => ?_)
             clear hK K
             refine norm_ (a' := ?_) ?_ ?_
             rotate_left
             ·show Act.put _ (some 38) _ = _
              simp only [Act.put, Cmp.s, Cmp.z, Cmp.c, i64_w, i32_w]; rfl
             exact norm_ (by simp only [putAll, Act.put, List.setIfInBounds_toArray, List.set_cons_zero, List.set_cons_succ]) (hCont (v157, v164, v167) _ ⟨hHeld, (by (with_reducible repeat (first | apply Kd.R_alloc | apply Kd.R_drewN | apply Kd.R_drew)); exact Kd.R_mono D6.out (fun _ hk => ⟨hk.2, hk.1⟩)), (by (with_reducible repeat (first | apply Kd.R_alloc | apply Kd.R_drewN | apply Kd.R_drew)); exact Kd.R_mono D4.out (fun _ hk => ⟨hk.2, hk.1.2⟩)), (by (with_reducible repeat (first | apply Kd.R_alloc | apply Kd.R_drewN | apply Kd.R_drew)); exact Kd.R_mono D0.out (fun _ hk => ⟨hk.1.2, hk.2⟩)), (Cmp.b D1.out), (Cmp.b D3.out), (Cmp.b D2.out), (Cmp.g HB.out)⟩)
            ·skip
             refine Kd.R_lit_step k35 _ 35 ?hg (N := 38) ?hd (xs := ([(⟨a1, a2, 0, false⟩ : S35)] : List (S35))) (inner := [.int .i64 a1, .int .i64 a2, .int .i64 0, .bool false]) (ok := fun _ => True) (okp := fun _ => True) ?hr ?hp (fun _ hk => hk) trivial (Below.refl _ _) (Nat.le_refl _) (by simp) ?_; (case hd => rfl); (case hg => rfl); (case hr => first | (go_simp; done) | (go_simp; rfl)); (case hp => exact (Reps.c4 (show Kd.M k35 _ _ _ (⟨a1, a2, 0, false⟩ : S35) [.int .i64 a1, .int .i64 a2, .int .i64 0, .bool false] from (k35_mkM _ _ _ (⟨a1, a2, 0, false⟩ : S35) )) (Reps.none _ _)))
             intro v167 w44 E2 hb hg_ hnew_
             clear hg_ hnew_
             (first | rw [← Dm.out] at E2 | (simp only [Int.reduceToNat] at E2; rw [← Dm.out] at E2))
             have n0_ := Aside0.mk (Kd.R_elder' (Cmp.rr D0.out) (Kd.R_base E2) hb)
             have n1_ := Aside0.mk (Kd.R_elder' (Cmp.rr D5.out) (Kd.R_base E2) hb)
             have n2_ := Aside0.mk (Kd.R_lower (Kd.R_new' (Kd.R_new' E2 (Kd.R_lt (Cmp.rr D0.out))) (Kd.R_lt (Cmp.rr D5.out))) (below_size (Cmp.g HB.out)))
             have n3_ := Cmp.be D1 hb
             have n4_ := Cmp.be D3 hb
             have n5_ := Cmp.be D2 hb
             have n6_ := Aside0.mk (below_step (Cmp.g HB.out) hb)
             clear D0; clear D5; clear D1; clear D3; clear D2; clear HB; have D0 := n0_; have D5 := n1_; have D4 := n2_; have D1 := n3_; have D3 := n4_; have D2 := n5_; have HB := n6_; clear n0_ n1_ n2_ n3_ n4_ n5_ n6_; clear hb E2
             refine hK.out _ _ ⟨(Cmp.c0 D1 :), (Cmp.c1 D1 :), (Cmp.c2 D1 :)⟩ (fun hHeld => ?_)
             clear hK K
             refine norm_ (a' := ?_) ?_ ?_
             rotate_left
             ·show Act.put _ (some 38) _ = _
              simp only [Act.put, Cmp.s, Cmp.z, Cmp.c, i64_w, i32_w]; rfl
             refine one_ (i := 5) (N := some 34) (Cmp.bb 18 31743) rfl rfl (one_of HT_.out (by kernel_rfl)) (by decide) (fun K hK => ?_)
             refine Kd.R_append_rows_step k35 (w0 := w) w.heap.size (by rfl) (.tmp 29) (.tmp 33) 24 35 (.agg #[(.int .i64 0), (.int .i64 0), (.int .i64 0), (.bool false)]) 32 rfl Try.underlying24 info35 rfl (by decide) (by omega) v157 E7 Ds _ _ _ (fun k_ => some k_ ≠ (.slice Da D8.length Db : Value).ownBlock ∧ some k_ ≠ (v167 : Value).ownBlock) (fun _ => False) rfl rfl ?aO ?aR (fun _ _ h => h) (fun _ h => h.elim) ?aF ?aB ?aS ?aL ?_
             (case aR => repeat (first | exact (Kd.C_below HR162.out HB.out) | (with_reducible refine Kd.C_alloc ?_ _) | (with_reducible refine Kd.C_drewN ?_ _) | (with_reducible refine Kd.C_drew ?_)))
             (case aB => exact (Cmp.g HB.out))
             (case aF => exact (fun k_ hk => ⟨Kd.fresh' (Kd.R_lt (Cmp.rr D0.out)) k_ hk, Kd.fresh' (Kd.R_lt (Cmp.rr D4.out)) k_ hk⟩))
             (case aO => exact (by (with_reducible repeat (first | apply Kd.R_alloc | apply Kd.R_drewN | apply Kd.R_drew)); exact Kd.R_mono D5.out (fun _ hk => ⟨hk.1.2, hk.2⟩)))
             (case aS => exact (below_size (Cmp.g HB.out)))
             (case aL => have := LMc30.out; omega)
             intro v164 w46 ho hb hg hat
             rw [← E8.out] at ho
             have n0_ := Aside0.mk (Kd.R_after (ok := (fun k_ => some k_ ≠ (v167 : Value).ownBlock)) (by (with_reducible repeat (first | apply Kd.R_alloc | apply Kd.R_drewN | apply Kd.R_drew)); exact Kd.R_mono D0.out (fun _ hk => ⟨hk.2, hk.1.2⟩)) hg hat)
             have n1_ := Cmp.bg D1 hg (Kd.R_ne D5.out D1.out (by decide))
             have n2_ := Cmp.bg D3 hg (Kd.R_ne D5.out D3.out (by decide))
             have n3_ := Cmp.bg D2 hg (Kd.R_ne D5.out D2.out (by decide))
             have n4_ := Aside0.mk (Kd.R_after (ok := (fun k_ => some k_ ≠ (.slice Da D8.length Db : Value).ownBlock)) (by (with_reducible repeat (first | apply Kd.R_alloc | apply Kd.R_drewN | apply Kd.R_drew)); exact Kd.R_mono D4.out (fun _ hk => ⟨hk.1.2, hk.2⟩)) hg hat)
             have n5_ := Aside0.mk (hb)
             have n6_ := Aside0.mk (ho)
             clear D0; clear D1; clear D3; clear D2; clear D4; clear HB; clear D5; have D0 := n0_; have D1 := n1_; have D3 := n2_; have D2 := n3_; have D4 := n4_; have HB := n5_; have D6 := n6_; clear n0_ n1_ n2_ n3_ n4_ n5_ n6_; clear ho hb hg hat
             refine hK.out _ _ ⟨(Cmp.c0 D1 :), (Cmp.c1 D1 :), (Cmp.c2 D1 :)⟩ (fun hHeld => ?_)
             clear hK K
             refine norm_ (a' := ?_) ?_ ?_
             rotate_left
             ·show Act.put _ (some 34) _ = _
              simp only [Act.put, Cmp.s, Cmp.z, Cmp.c, i64_w, i32_w]; rfl
             exact norm_ (by simp only [putAll, Act.put, List.setIfInBounds_toArray, List.set_cons_zero, List.set_cons_succ]) (hCont (v157, v164, v167) _ ⟨hHeld, (by (with_reducible repeat (first | apply Kd.R_alloc | apply Kd.R_drewN | apply Kd.R_drew)); exact Kd.R_mono D6.out (fun _ hk => ⟨hk.2, hk.1⟩)), (by (with_reducible repeat (first | apply Kd.R_alloc | apply Kd.R_drewN | apply Kd.R_drew)); exact Kd.R_mono D4.out (fun _ hk => ⟨hk.2, hk.1⟩)), (by (with_reducible repeat (first | apply Kd.R_alloc | apply Kd.R_drewN | apply Kd.R_drew)); exact Kd.R_mono D0.out (fun _ hk => ⟨hk.2, hk.1⟩)), (Cmp.b D1.out), (Cmp.b D3.out), (Cmp.b D2.out), (Cmp.g HB.out)⟩)
           ·skip
            refine Kd.R_lit_step k35 _ 35 ?hg (N := 38) ?hd (xs := ([(⟨a1, a2, 0, false⟩ : S35)] : List (S35))) (inner := [.int .i64 a1, .int .i64 a2, .int .i64 0, .bool false]) (ok := fun _ => True) (okp := fun _ => True) ?hr ?hp (fun _ hk => hk) trivial (Below.refl _ _) (Nat.le_refl _) (by simp) ?_; (case hd => rfl); (case hg => rfl); (case hr => first | (go_simp; done) | (go_simp; rfl)); (case hp => exact (Reps.c4 (show Kd.M k35 _ _ _ (⟨a1, a2, 0, false⟩ : S35) [.int .i64 a1, .int .i64 a2, .int .i64 0, .bool false] from (k35_mkM _ _ _ (⟨a1, a2, 0, false⟩ : S35) )) (Reps.none _ _)))
            intro v167 w42 E9 hb hg_ hnew_
            clear hg_ hnew_
            (first | rw [← Dm.out] at E9 | (simp only [Int.reduceToNat] at E9; rw [← Dm.out] at E9))
            have n0_ := Aside0.mk (Kd.R_elder' (Cmp.rr D0.out) (Kd.R_base E9) hb)
            have n1_ := Aside0.mk (Kd.R_lower (Kd.R_new' E9 (Kd.R_lt (Cmp.rr D0.out))) (below_size (Cmp.g HB.out)))
            have n2_ := Cmp.be D1 hb
            have n3_ := Cmp.be D3 hb
            have n4_ := Cmp.be D2 hb
            have n5_ := Aside0.mk (below_step (Cmp.g HB.out) hb)
            clear D0; clear D1; clear D3; clear D2; clear HB; have D0 := n0_; have D4 := n1_; have D1 := n2_; have D3 := n3_; have D2 := n4_; have HB := n5_; clear n0_ n1_ n2_ n3_ n4_ n5_; clear hb E9
            refine hK.out _ _ ⟨(Cmp.c0 D1 :), (Cmp.c1 D1 :), (Cmp.c2 D1 :)⟩ (fun hHeld => ?_)
            clear hK K
            refine norm_ (a' := ?_) ?_ ?_
            rotate_left
            ·show Act.put _ (some 38) _ = _
             simp only [Act.put, Cmp.s, Cmp.z, Cmp.c, i64_w, i32_w]; rfl
            refine one_ (i := 0) (N := some 29) (Cmp.bb 18 31711) rfl rfl (one_of HT_.out (by kernel_rfl)) (by decide) (fun K hK => ?_)
            refine Kd.R_lit_step k35 _ 35 ?hg (N := 29) ?hd (xs := ([] : List (S35))) (inner := []) (ok := fun _ => True) (okp := fun _ => True) ?hr ?hp (fun _ hk => hk) trivial (Below.refl _ _) (Nat.le_refl _) (by simp) ?_; (case hd => rfl); (case hg => rfl); (case hr => first | (go_simp; done) | (go_simp; rfl)); (case hp => exact (Reps.none _ _))
            intro v157 w44 E2 hb hg_ hnew_
            clear hg_ hnew_
            (first | rw [← Dx.out] at E2 | (simp only [Int.reduceToNat] at E2; rw [← Dx.out] at E2))
            have n0_ := Aside0.mk (Kd.R_elder' (Cmp.rr D0.out) (Kd.R_base E2) hb)
            have n1_ := Aside0.mk (Kd.R_elder' (Cmp.rr D4.out) (Kd.R_base E2) hb)
            have n2_ := Aside0.mk (Kd.R_lower (Kd.R_new' (Kd.R_new' E2 (Kd.R_lt (Cmp.rr D0.out))) (Kd.R_lt (Cmp.rr D4.out))) (below_size (Cmp.g HB.out)))
            have n3_ := Cmp.be D1 hb
            have n4_ := Cmp.be D3 hb
            have n5_ := Cmp.be D2 hb
            have n6_ := Aside0.mk (below_step (Cmp.g HB.out) hb)
            clear D0; clear D4; clear D1; clear D3; clear D2; clear HB; have D0 := n0_; have D4 := n1_; have D5 := n2_; have D1 := n3_; have D3 := n4_; have D2 := n5_; have HB := n6_; clear n0_ n1_ n2_ n3_ n4_ n5_ n6_; clear hb E2
            refine hK.out _ _ ⟨(Cmp.c0 D1 :), (Cmp.c1 D1 :), (Cmp.c2 D1 :)⟩ (fun hHeld => ?_)
            clear hK K
            refine norm_ (a' := ?_) ?_ ?_
            rotate_left
            ·show Act.put _ (some 29) _ = _
             simp only [Act.put, Cmp.s, Cmp.z, Cmp.c, i64_w, i32_w]; rfl
            refine one_ (i := 5) (N := some 34) (Cmp.bb 18 31743) rfl rfl (one_of HT_.out (by kernel_rfl)) (by decide) (fun K hK => ?_)
            refine Kd.R_append_rows_step k35 (w0 := w) w.heap.size (by rfl) (.tmp 29) (.tmp 33) 24 35 (.agg #[(.int .i64 0), (.int .i64 0), (.int .i64 0), (.bool false)]) 32 rfl Try.underlying24 info35 rfl (by decide) (by omega) v157 E7 Ds _ _ _ (fun k_ => some k_ ≠ (.slice Da D8.length Db : Value).ownBlock ∧ some k_ ≠ (v167 : Value).ownBlock) (fun _ => False) rfl rfl ?aO ?aR (fun _ _ h => h) (fun _ h => h.elim) ?aF ?aB ?aS ?aL ?_
            (case aR => repeat (first | exact (Kd.C_below HR162.out HB.out) | (with_reducible refine Kd.C_alloc ?_ _) | (with_reducible refine Kd.C_drewN ?_ _) | (with_reducible refine Kd.C_drew ?_)))
            (case aB => exact (Cmp.g HB.out))
            (case aF => exact (fun k_ hk => ⟨Kd.fresh' (Kd.R_lt (Cmp.rr D0.out)) k_ hk, Kd.fresh' (Kd.R_lt (Cmp.rr D4.out)) k_ hk⟩))
            (case aO => exact (by (with_reducible repeat (first | apply Kd.R_alloc | apply Kd.R_drewN | apply Kd.R_drew)); exact Kd.R_mono D5.out (fun _ hk => ⟨hk.1.2, hk.2⟩)))
            (case aS => exact (below_size (Cmp.g HB.out)))
            (case aL => have := LMc30.out; omega)
            intro v164 w46 ho hb hg hat
            rw [← E8.out] at ho
            have n0_ := Aside0.mk (Kd.R_after (ok := (fun k_ => some k_ ≠ (v167 : Value).ownBlock)) (by (with_reducible repeat (first | apply Kd.R_alloc | apply Kd.R_drewN | apply Kd.R_drew)); exact Kd.R_mono D0.out (fun _ hk => ⟨hk.1.2, hk.2⟩)) hg hat)
            have n1_ := Cmp.bg D1 hg (Kd.R_ne D5.out D1.out (by decide))
            have n2_ := Cmp.bg D3 hg (Kd.R_ne D5.out D3.out (by decide))
            have n3_ := Cmp.bg D2 hg (Kd.R_ne D5.out D2.out (by decide))
            have n4_ := Aside0.mk (Kd.R_after (ok := (fun k_ => some k_ ≠ (.slice Da D8.length Db : Value).ownBlock)) (by (with_reducible repeat (first | apply Kd.R_alloc | apply Kd.R_drewN | apply Kd.R_drew)); exact Kd.R_mono D4.out (fun _ hk => ⟨hk.1.2, hk.2⟩)) hg hat)
            have n5_ := Aside0.mk (hb)
            have n6_ := Aside0.mk (ho)
            clear D0; clear D1; clear D3; clear D2; clear D4; clear HB; clear D5; have D0 := n0_; have D1 := n1_; have D3 := n2_; have D2 := n3_; have D4 := n4_; have HB := n5_; have D6 := n6_; clear n0_ n1_ n2_ n3_ n4_ n5_ n6_; clear ho hb hg hat
            refine hK.out _ _ ⟨(Cmp.c0 D1 :), (Cmp.c1 D1 :), (Cmp.c2 D1 :)⟩ (fun hHeld => ?_)
            clear hK K
            refine norm_ (a' := ?_) ?_ ?_
            rotate_left
            ·show Act.put _ (some 34) _ = _
             simp only [Act.put, Cmp.s, Cmp.z, Cmp.c, i64_w, i32_w]; rfl
            exact norm_ (by simp only [putAll, Act.put, List.setIfInBounds_toArray, List.set_cons_zero, List.set_cons_succ]) (hCont (v157, v164, v167) _ ⟨hHeld, (by (with_reducible repeat (first | apply Kd.R_alloc | apply Kd.R_drewN | apply Kd.R_drew)); exact Kd.R_mono D6.out (fun _ hk => ⟨hk.2, hk.1⟩)), (by (with_reducible repeat (first | apply Kd.R_alloc | apply Kd.R_drewN | apply Kd.R_drew)); exact Kd.R_mono D4.out (fun _ hk => ⟨hk.2, hk.1⟩)), (by (with_reducible repeat (first | apply Kd.R_alloc | apply Kd.R_drewN | apply Kd.R_drew)); exact Kd.R_mono D0.out (fun _ hk => ⟨hk.2, hk.1⟩)), (Cmp.b D1.out), (Cmp.b D3.out), (Cmp.b D2.out), (Cmp.g HB.out)⟩)
          rintro ⟨v157, v164, v167⟩ w47 ⟨hS_, h0_, h1_, h2_, h3_, h4_, h5_, h6_⟩
          have n0_ : Aside0 (Kd.R k35 35 w47 w.heap.size (fun k_ => some k_ ≠ (v167 : Value).ownBlock ∧ some k_ ≠ (.slice Da D8.length Db : Value).ownBlock) v164 Du) := ⟨h0_⟩
          have n1_ : Aside0 (Kd.R k35 35 w47 w.heap.size (fun k_ => some k_ ≠ (v164 : Value).ownBlock ∧ some k_ ≠ (.slice Da D8.length Db : Value).ownBlock) v167 Dj) := ⟨h1_⟩
          have n2_ : Aside0 (Kd.R k35 35 w47 w.heap.size (fun k_ => some k_ ≠ (v164 : Value).ownBlock ∧ some k_ ≠ (v167 : Value).ownBlock) (.slice Da D8.length Db) D8) := ⟨h2_⟩
          have n3_ : Aside0 (w47.heap[D7]? = some (.cells #[.int .i64 a0_0, .int .i64 a0_1, .slice A0_2 l0_2.length c0_2] 26 (0, 0))) := ⟨h3_⟩
          have n4_ : Aside0 (w47.heap[Di]? = some (.cells #[.int .i64 0, .int .i64 0, .slice none 0 0] 26 (0, 0))) := ⟨h4_⟩
          have n5_ : Aside0 (w47.heap[Dd]? = some (.cells #[.int .i64 Dk, .int .i64 Dl, .slice Da D8.length Db] 26 (0, 0))) := ⟨h5_⟩
          have n6_ : Aside0 (Below w.heap.size w w47) := ⟨h6_⟩
          clear D0; clear D1; clear D3; clear D2; clear HB; clear h0_ h1_ h2_ h3_ h4_ h5_ h6_; have D6 := n0_; have D4 := n1_; have D0 := n2_; have D1 := n3_; have D3 := n4_; have D2 := n5_; have HB := n6_; clear n0_ n1_ n2_ n3_ n4_ n5_ n6_
          have hHeld : w47.cell? ⟨D7, 0, none⟩ = some (.int .i64 a0_0) ∧ w47.cell? ⟨D7, 1, none⟩ = some (.int .i64 a0_1) ∧ w47.cell? ⟨D7, 2, none⟩ = some (.slice A0_2 l0_2.length c0_2) := hS_
          obtain ⟨F7, Fb, Gu⟩ := Kd.R_slice D4.out
          (first | subst Gu | (injection Gu with f1_ f2_ f3_; have f4_ := f1_.symm; have f5_ := f3_.symm; clear f1_ f2_ f3_; subst f4_; subst f5_))
          refine norm_ (a' := ?_) ?_ ?_
          rotate_left
          ·simp only [putAll, Act.put, List.setIfInBounds_toArray, List.set_cons_zero, List.set_cons_succ]; rfl
          refine one_ (i := 10) (N := some 39) (Cmp.bm 15 3) rfl rfl (one_of HT_.out (by kernel_rfl)) (by decide) (fun K hK => ?_)
          refine Kd.R_append_rows_step k35 (w0 := w) w.heap.size (by rfl) (.tmp 34) (.tmp 38) 24 35 (.agg #[(.int .i64 0), (.int .i64 0), (.int .i64 0), (.bool false)]) 32 rfl Try.underlying24 info35 rfl (by decide) (by omega) v164 Du Dj _ _ _ (fun k_ => some k_ ≠ (.slice Da D8.length Db : Value).ownBlock ∧ some k_ ≠ (.slice F7 Dj.length Fb : Value).ownBlock) (fun _ => False) rfl rfl ?aO ?aR (fun _ _ h => h) (fun _ h => h.elim) ?aF ?aB ?aS ?aL ?_
          (case aR => repeat (first | exact (Kd.R_reads' D4.out).2.2 | (with_reducible refine Kd.C_alloc ?_ _) | (with_reducible refine Kd.C_drewN ?_ _) | (with_reducible refine Kd.C_drew ?_)))
          (case aB => exact (Cmp.g HB.out))
          (case aF => exact (fun k_ hk => ⟨Kd.fresh' (Kd.R_lt (Cmp.rr D0.out)) k_ hk, Kd.fresh' (Kd.R_lt (Cmp.rr D4.out)) k_ hk⟩))
          (case aO => exact (by (with_reducible repeat (first | apply Kd.R_alloc | apply Kd.R_drewN | apply Kd.R_drew)); exact Kd.R_mono D6.out (fun _ hk => ⟨hk.2, hk.1⟩)))
          (case aS => exact (below_size (Cmp.g HB.out)))
          (case aL => have := LMc31.out; omega)
          intro v170 w48 ho hb hg hat
          rw [← Ez.out] at ho
          have n0_ := Aside0.mk (Kd.R_after (ok := (fun k_ => some k_ ≠ (.slice F7 Dj.length Fb : Value).ownBlock)) (by (with_reducible repeat (first | apply Kd.R_alloc | apply Kd.R_drewN | apply Kd.R_drew)); exact Kd.R_mono D0.out (fun _ hk => ⟨hk.2, hk.1⟩)) hg hat)
          have n1_ := Cmp.bg D1 hg (Kd.R_ne D6.out D1.out (by decide))
          have n2_ := Cmp.bg D3 hg (Kd.R_ne D6.out D3.out (by decide))
          have n3_ := Cmp.bg D2 hg (Kd.R_ne D6.out D2.out (by decide))
          have n4_ := Aside0.mk (Kd.R_after (ok := (fun k_ => some k_ ≠ (.slice Da D8.length Db : Value).ownBlock)) (by (with_reducible repeat (first | apply Kd.R_alloc | apply Kd.R_drewN | apply Kd.R_drew)); exact Kd.R_mono D4.out (fun _ hk => ⟨hk.2, hk.1⟩)) hg hat)
          have n5_ := Aside0.mk (hb)
          have n6_ := Aside0.mk (ho)
          clear D0; clear D1; clear D3; clear D2; clear D4; clear HB; clear D6; have D0 := n0_; have D1 := n1_; have D3 := n2_; have D2 := n3_; have D4 := n4_; have HB := n5_; have Dr := n6_; clear n0_ n1_ n2_ n3_ n4_ n5_ n6_; clear ho hb hg hat
          refine hK.out _ _ ⟨(Cmp.c0 D1 :), (Cmp.c1 D1 :), (Cmp.c2 D1 :)⟩ (fun hHeld => ?_)
          clear hK K
          refine norm_ (a' := ?_) ?_ ?_
          rotate_left
          ·show Act.put _ (some 39) _ = _
           simp only [Act.put, Cmp.s, Cmp.z, Cmp.c, i64_w, i32_w]; rfl
          refine one_ (i := 15) (N := some 44) (Cmp.bm 16 2) rfl rfl (one_of HT_.out (by kernel_rfl)) (by decide) (fun K hK => ?_)
          refine Kd.R_append_rows_step k35 (w0 := w) w.heap.size (by rfl) (.tmp 39) (.tmp 43) 24 35 (.agg #[(.int .i64 0), (.int .i64 0), (.int .i64 0), (.bool false)]) 32 rfl Try.underlying24 info35 rfl (by decide) (by omega) v170 Dv Dg _ _ _ (fun k_ => some k_ ≠ (.slice Da D8.length Db : Value).ownBlock ∧ some k_ ≠ (.slice F7 Dj.length Fb : Value).ownBlock) (fun _ => False) rfl rfl ?aO ?aR (fun _ _ h => h) (fun _ h => h.elim) ?aF ?aB ?aS ?aL ?_
          (case aR => repeat (first | exact (Kd.C_below HR175.out HB.out) | (with_reducible refine Kd.C_alloc ?_ _) | (with_reducible refine Kd.C_drewN ?_ _) | (with_reducible refine Kd.C_drew ?_)))
          (case aB => exact (Cmp.g HB.out))
          (case aF => exact (fun k_ hk => ⟨Kd.fresh' (Kd.R_lt (Cmp.rr D0.out)) k_ hk, Kd.fresh' (Kd.R_lt (Cmp.rr D4.out)) k_ hk⟩))
          (case aO => exact (Cmp.rr Dr.out))
          (case aS => exact (below_size (Cmp.g HB.out)))
          (case aL => have := LMc34.out; omega)
          intro v177 w50 ho hb hg hat
          rw [← F0.out] at ho
          have n0_ := Aside0.mk (Kd.R_after (ok := (fun k_ => some k_ ≠ (.slice F7 Dj.length Fb : Value).ownBlock)) (Cmp.rr D0.out) hg hat)
          have n1_ := Cmp.bg D1 hg (Kd.R_ne Dr.out D1.out (by decide))
          have n2_ := Cmp.bg D3 hg (Kd.R_ne Dr.out D3.out (by decide))
          have n3_ := Cmp.bg D2 hg (Kd.R_ne Dr.out D2.out (by decide))
          have n4_ := Aside0.mk (Kd.R_after (ok := (fun k_ => some k_ ≠ (.slice Da D8.length Db : Value).ownBlock)) (Cmp.rr D4.out) hg hat)
          have n5_ := Aside0.mk (hb)
          have n6_ := Aside0.mk (ho)
          clear D0; clear D1; clear D3; clear D2; clear D4; clear HB; clear Dr; have D0 := n0_; have D1 := n1_; have D3 := n2_; have D2 := n3_; have D4 := n4_; have HB := n5_; have De := n6_; clear n0_ n1_ n2_ n3_ n4_ n5_ n6_; clear ho hb hg hat
          obtain ⟨Ex, Ey, Gv⟩ := Kd.R_slice De.out
          (first | subst Gv | (injection Gv with f1_ f2_ f3_; have f4_ := f1_.symm; have f5_ := f3_.symm; clear f1_ f2_ f3_; subst f4_; subst f5_))
          refine hK.out _ _ ⟨(Cmp.c0 D1 :), (Cmp.c1 D1 :), (Cmp.c2 D1 :)⟩ (fun hHeld => ?_)
          clear hK K
          refine norm_ (a' := ?_) ?_ ?_
          rotate_left
          ·show Act.put _ (some 44) _ = _
           simp only [Act.put, Cmp.s, Cmp.z, Cmp.c, i64_w, i32_w]; rfl
          refine Cmp.pu HT_ 16 45 (Cmp.bm 17 1) ?_
          refine one_ (i := 17) (N := none) (Cmp.bm 18 0) rfl rfl (one_of HT_.out (by kernel_rfl)) (by decide) (fun K hK => ?_)
          have hs52 : w50.cell? ⟨Dd, 2, none⟩ = some (.slice Da D8.length Db) := (blk_cell D2.out 2).trans rfl
          have hfs52 := blk_frozen D2.out 2; have hns52_0 := D9.out; have hns52_1 := Dp.out; have hms52_0 := Df.out; have hms52_1 := Dq.out
          refine skip_ (w1 := ?_) (by rfl) rfl ?_ ?_
          rotate_left
          ·go_simp; rfl
          refine hK.out _ _ ⟨((cell_far (p := ⟨Dd, _, none⟩) D9.out _).trans (hHeld.1)), ((cell_far (p := ⟨Dd, _, none⟩) D9.out _).trans (hHeld.2.1)), ((cell_far (p := ⟨Dd, _, none⟩) D9.out _).trans (hHeld.2.2))⟩ (fun hHeld => ?_)
          clear hK K
          refine done_ (done_of HT_.out (by kernel_rfl)) ?_
          have Lp := Dn.out; have M3 := Do.out; have Lq := D9.out; have M4 := Df.out
          have Jn := Cmp.c0 D1
          have Jo := Cmp.c1 D1
          have Jp := Cmp.c2 D1
          have Kb := blk_frozen D1.out 0; have Kc := blk_frozen D1.out 1; have Ke := blk_frozen D1.out 2
          try go_wp2_with (first | ((with_reducible refine gate_callee (f := 58) rfl ?_); refine goesL_ (some 47) rfl rfl Try.func58 (by kernel_rfl) rfl #[.agg #[.int .i64 a0_0, .int .i64 a0_1, .slice A0_2 l0_2.length c0_2]] rfl Cmp.q ?_; (with_reducible refine (spec_IsValidAccount.calls kj4 a0_0 a0_1 _ _ l0_2 true _ ?side1 ?side2 L0.out).mono ?_); (case side1 => exact Kd.C_below Dt.out (Cmp.g HB.out)); (case side2 => exact HC0_2.out); rintro e w56 ⟨rfl, hb⟩; refine ⟨_, rfl, ?_⟩; replace D0 := Aside0.mk (Kd.R_below (by (with_reducible repeat (first | apply Kd.R_alloc | apply Kd.R_drewN | apply Kd.R_drew)); exact (Kd.R_mono (Kd.R_far (p := ⟨Dd, 2, none⟩) (Kd.R_types D0.out D2.out (by decide)) (fun _ hk => hk.2) (.slice Ex Dh.length Ey)) (fun _ h_ => h_.1))) hb); replace D4 := Aside0.mk (Kd.R_below (by (with_reducible repeat (first | apply Kd.R_alloc | apply Kd.R_drewN | apply Kd.R_drew)); exact (Kd.R_mono (Kd.R_far (p := ⟨Dd, 2, none⟩) (Kd.R_types D4.out D2.out (by decide)) (fun _ hk => hk.2) (.slice Ex Dh.length Ey)) (fun _ h_ => h_.1))) hb); replace De := Aside0.mk (Kd.R_below (by (with_reducible repeat (first | apply Kd.R_alloc | apply Kd.R_drewN | apply Kd.R_drew)); exact (Kd.R_mono (Kd.R_far (p := ⟨Dd, 2, none⟩) (Kd.R_types De.out D2.out (by decide)) (fun _ hk => hk.2) (.slice Ex Dh.length Ey)) (fun _ h_ => h_.1))) hb); replace D1 := Aside0.mk (blk_below (g := D7) (o := .cells #[.int .i64 a0_0, .int .i64 a0_1, .slice A0_2 l0_2.length c0_2] 26 (0, 0)) (Cmp.bw D1.out) hb); replace D3 := Aside0.mk (blk_below (g := Di) (o := .cells #[.int .i64 0, .int .i64 0, .slice none 0 0] 26 (0, 0)) (Cmp.bw D3.out) hb); replace D2 := Aside0.mk (blk_below (g := Dd) (o := .cells #[.int .i64 Dk, .int .i64 Dl, .slice Ex Dh.length Ey] 26 (0, 0)) (Cmp.bw D2.out) hb); replace HB := Cmp.bs HB hb; (try clear hb); (try clear hb2); (try clear hk); (try clear hi); have Lr := Dq.out; have M5 := Dp.out; have Jq := Cmp.c0 D2; have Jr := Cmp.c1 D2; have Js := Cmp.c2 D2; have Kf := blk_frozen D2.out 0; have Kg := blk_frozen D2.out 1; have Kh := blk_frozen D2.out 2) | (go_at_call 58; (with_reducible refine (spec_IsValidAccount.calls kj4 Dk Dl _ _ Dh true _ ?side1 ?side2 L9.out).mono ?_); (case side1 => exact Cmp.rc (Kd.R_reads' De.out).2.2); (case side2 => exact (Kd.R_reads' De.out).2.1); rintro e w59 ⟨rfl, hb⟩; replace D0 := Aside0.mk (Kd.R_below (Cmp.rr D0.out) hb); replace D4 := Aside0.mk (Kd.R_below (Cmp.rr D4.out) hb); replace De := Aside0.mk (Kd.R_below (Cmp.rr De.out) hb); replace D1 := Cmp.be D1 hb; replace D3 := Cmp.be D3 hb; replace D2 := Cmp.be D2 hb; replace HB := Cmp.bs HB hb; (try clear hb); (try clear hb2); (try clear hk); (try clear hi); have Jt := Cmp.c0 D2; have Ju := Cmp.c1 D2; have Jv := Cmp.c2 D2; have Ki := blk_frozen D2.out 0; have Kj := blk_frozen D2.out 1; have Kk := blk_frozen D2.out 2; have Jw := Cmp.c0 D3; have Jx := Cmp.c1 D3; have Jy := Cmp.c2 D3; have Kl := blk_frozen D3.out 0; have Km := blk_frozen D3.out 1; have Kn := blk_frozen D3.out 2))
          refine bodyPost_ret (results_ct rfl _ _ Di 26 #[.int .i64 Dk, .int .i64 Dl, .slice Ex Dh.length Ey] (0, 0) _ rfl (Cmp.bw D3.out) Try.underlying26 rfl (by kernel_rfl)) rfl ?_
          exact ⟨_, by first | rfl | (simp [errW_none, errW_some] <;> rfl) | (simp [*, errW_none, errW_some] <;> rfl), by (with_reducible repeat (first | apply Kd.R_alloc | apply Kd.R_drewN | apply Kd.R_drew)); exact Kd.R_mono (Kd.R_far (p := ⟨Di, 2, none⟩) (Kd.R_far (p := ⟨Di, 1, none⟩) (Kd.R_far (p := ⟨Di, 0, none⟩) (Kd.R_types De.out D3.out (by decide)) (fun _ hk => hk.2) (.int .i64 Dk)) (fun _ hk => hk.2) (.int .i64 Dl)) (fun _ hk => hk.2) (.slice Ex Dh.length Ey)) (fun _ hk => trivial), Cmp.g HB.out⟩
         ·replace c38 := Bool.eq_false_iff.mpr c38
          subst c38
          have H1 : ((spec_l14Copy.f a0_0 a0_1 l0_2).bind fun bt181 => (some (bt181.1, bt181.2.1, bt181.2.2, false))) = some (r1, r2, r3, r4) := by rw [if_neg (show ¬ (false = true) by decide)] at H; exact H
          clear H; have H := H1; clear H1; replace H := Option.bind_eq_some_iff.mp H; obtain ⟨⟨Gg, Gh, Gi⟩, Go, H⟩ := H; (try dsimp only at H); have Ma := Aside0.mk Go; clear Go
          simp only [Option.some.injEq, Prod.mk.injEq] at H
          obtain ⟨rfl, rfl, rfl, rfl⟩ := H
          try go_wp2
          replace D0 := Aside0.mk (Kd.R_drew D0.out); replace D1 := Aside0.mk (blk_drew D1.out); replace D3 := Aside0.mk (blk_drew D3.out); replace D2 := Aside0.mk (blk_drew D2.out); replace HB := Aside0.mk (below_drew1 HB.out)
          have q64 : (Dc : Int) ≤ ((l0_2.length : Int) : Int) := of_decide_eq_true Cmp.d
          obtain ⟨i064, G6, _, hsz64, _⟩ := info_parts info35
          have Ev : l0_2.length ≤ c0_2 := HC0_2.out
          have J1 : Kd.C k35 _ A0_2 l0_2.length l0_2 := Dt.out
          have Gc := cut_to (P := Try.prog) 24 35 .i64 Try.underlying24 G6 A0_2 l0_2.length c0_2 Dc (of_decide_eq_true Cmp.d) q64 Ev
          have hr64 := Kd.C_take (m := (Dc : Int).toNat) J1 (by omega)
          have hy64 : Ds.length = (Dc : Int).toNat := (by rw [Ec.out, List.length_take]; omega)
          rw [← Ec.out] at hr64
          rw [← hy64] at Gc
          have HR162 := Aside0.mk hr64
          have Fy := Aside0.mk (show Ds.length ≤ c0_2 from by omega)
          clear hr64 J1 Ev G6 hsz64; have KY64 := Aside0.mk hy64; clear hy64; replace q64 := eq_true q64
          have q65 : (Dc : Int) ≤ ((l0_2.length : Int) : Int) := of_decide_eq_true Cmp.d
          obtain ⟨i065, G7, _, hsz65, _⟩ := info_parts info35
          have Ef : l0_2.length ≤ c0_2 := HC0_2.out
          have J2 : Kd.C k35 _ A0_2 l0_2.length l0_2 := Dt.out
          have q065 : (0 : Int) ≤ (Dc : Int) := of_decide_eq_true Cmp.d
          have Gd := cut_from (P := Try.prog) 24 35 .i64 Try.underlying24 G7 4 hsz65 A0_2 l0_2.length c0_2 Dc q065 q65
          have hr65 := Kd.C_drop (m := (Dc : Int).toNat) (c := c0_2) J2 (by omega) Ef
          obtain ⟨Mb, hA65⟩ : ∃ A1, A1 = (if c0_2 = (Dc : Int).toNat then A0_2 else (A0_2 : Option Addr).map (·.add ((Dc : Int).toNat * 4))) := ⟨_, rfl⟩
          obtain ⟨c65, hc65⟩ : ∃ c1, c1 = c0_2 - (Dc : Int).toNat := ⟨_, rfl⟩
          have hy65 : Dg.length = l0_2.length - (Dc : Int).toNat := (by rw [Ed.out, List.length_drop] <;> omega)
          rw [show (l0_2).drop (Dc : Int).toNat = Dg from Ed.out.symm] at hr65
          replace hr65 : Kd.C k35 _ Mb Dg.length Dg := (by rw [hA65]; exact hr65)
          rw [← hy65, ← hA65, ← hc65] at Gd
          have HR175 := Aside0.mk hr65
          have Fz := Aside0.mk (show Dg.length ≤ c65 from by rw [hy65, hc65]; exact Nat.sub_le_sub_right Ef _)
          clear hr65 J2 Ef G7 hsz65 hc65; have KY65 := Aside0.mk hy65; have KA65 := Aside0.mk hA65; clear hy65 hA65; replace q65 := eq_true q65
          refine start_ (n := 18) (S := fun w' => w'.cell? ⟨D7, 0, none⟩ = some (.int .i64 a0_0) ∧ w'.cell? ⟨D7, 1, none⟩ = some (.int .i64 a0_1) ∧ w'.cell? ⟨D7, 2, none⟩ = some (.slice A0_2 l0_2.length c0_2)) (ds := []) (Cmp.bm 0 18) (by kernel_rfl) rfl rfl ⟨(Cmp.c0 D1 :), (Cmp.c1 D1 :), (Cmp.c2 D1 :)⟩ (fun hHeld => ?_); refine with_tabW spec_AddCredential.tab5 spec_AddCredential.bits5 (fun HT_ HW_ => ?_)
          generalize wc.drew = w63 at D0 D1 D3 D2 HB HR162 HR175 hHeld ⊢
          refine Cmp.pu HT_ 1 30 (Cmp.bb 18 2) ?_; refine Cmp.pu HT_ 3 32 (Cmp.bb 18 10) ?_; refine Cmp.pu HT_ 6 35 (Cmp.bb 18 74) ?_; refine Cmp.pu HT_ 7 36 (Cmp.bb 18 202) ?_; refine Cmp.pu HT_ 8 37 (Cmp.bb 18 458) ?_; refine Cmp.pu HT_ 11 40 (Cmp.bb 18 2506) ?_; refine Cmp.pu HT_ 13 42 (Cmp.bb 18 10698) ?_; refine Cmp.tk HT_ HW_ hHeld 2 31 (Cmp.bb 18 10702) ?_; refine Cmp.pu HT_ 4 33 (Cmp.bb 18 10718) ?_; refine Cmp.tk HT_ HW_ hHeld 12 41 (Cmp.bb 18 14814) ?_; refine Cmp.pu HT_ 14 43 (Cmp.bb 18 31198) ?_
          refine join_ (σ := Value × Value × Value) 4 (Cmp.bb 18 31743) (fun s_ => [(29, s_.1), (34, s_.2.1), (38, s_.2.2)]) (fun s_ w' => (w'.cell? ⟨D7, 0, none⟩ = some (.int .i64 a0_0) ∧ w'.cell? ⟨D7, 1, none⟩ = some (.int .i64 a0_1) ∧ w'.cell? ⟨D7, 2, none⟩ = some (.slice A0_2 l0_2.length c0_2)) ∧ (Kd.R k35 35 w' w.heap.size (fun k_ => some k_ ≠ (s_.2.2 : Value).ownBlock ∧ some k_ ≠ (.slice Da D8.length Db : Value).ownBlock) s_.2.1 Du) ∧ (Kd.R k35 35 w' w.heap.size (fun k_ => some k_ ≠ (s_.2.1 : Value).ownBlock ∧ some k_ ≠ (.slice Da D8.length Db : Value).ownBlock) s_.2.2 Dj) ∧ (Kd.R k35 35 w' w.heap.size (fun k_ => some k_ ≠ (s_.2.1 : Value).ownBlock ∧ some k_ ≠ (s_.2.2 : Value).ownBlock) (.slice Da D8.length Db) D8) ∧ (w'.heap[D7]? = some (.cells #[.int .i64 a0_0, .int .i64 a0_1, .slice A0_2 l0_2.length c0_2] 26 (0, 0))) ∧ (w'.heap[Di]? = some (.cells #[.int .i64 0, .int .i64 0, .slice none 0 0] 26 (0, 0))) ∧ (w'.heap[Dd]? = some (.cells #[.int .i64 Dk, .int .i64 Dl, .slice Da D8.length Db] 26 (0, 0))) ∧ (Below w.heap.size w w')) ?_ ?_
          rotate_left
          ·intro hCont
           refine two_ (i := 0) (j := 9) (Ni := some 29) (Nj := some 38) (Cmp.bb 18 31199) (Cmp.bb 18 31710) rfl rfl rfl rfl (two_of HT_.out (by kernel_rfl)) (by decide) (by decide) (fun K hK => ?_) (fun K hK => ?_)
           ·skip
            refine Kd.R_lit_step k35 _ 35 ?hg (N := 29) ?hd (xs := ([] : List (S35))) (inner := []) (ok := fun _ => True) (okp := fun _ => True) ?hr ?hp (fun _ hk => hk) trivial (Below.refl _ _) (Nat.le_refl _) (by simp) ?_; (case hd => rfl); (case hg => rfl); (case hr => first | (go_simp; done) | (go_simp; rfl)); (case hp => exact (Reps.none _ _))
            intro v157 w66 Ea hb hg_ hnew_
            clear hg_ hnew_
            (first | rw [← Dx.out] at Ea | (simp only [Int.reduceToNat] at Ea; rw [← Dx.out] at Ea))
            have n0_ := Aside0.mk (Kd.R_elder' (Cmp.rr D0.out) (Kd.R_base Ea) hb)
            have n1_ := Aside0.mk (Kd.R_lower (Kd.R_new' Ea (Kd.R_lt (Cmp.rr D0.out))) (below_size (Cmp.g HB.out)))
            have n2_ := Cmp.be D1 hb
            have n3_ := Cmp.be D3 hb
            have n4_ := Cmp.be D2 hb
            have n5_ := Aside0.mk (below_step (Cmp.g HB.out) hb)
            clear D0; clear D1; clear D3; clear D2; clear HB; have D0 := n0_; have D5 := n1_; have D1 := n2_; have D3 := n3_; have D2 := n4_; have HB := n5_; clear n0_ n1_ n2_ n3_ n4_ n5_; clear hb Ea
            refine hK.out _ _ ⟨(Cmp.c0 D1 :), (Cmp.c1 D1 :), (Cmp.c2 D1 :)⟩ (fun hHeld => ?_)
            clear hK K
            refine norm_ (a' := ?_) ?_ ?_
            rotate_left
            ·show Act.put _ (some 29) _ = _
             simp only [Act.put, Cmp.s, Cmp.z, Cmp.c, i64_w, i32_w]; rfl
            refine two_ (i := 5) (j := 9) (Ni := some 34) (Nj := some 38) (Cmp.bb 18 31231) (Cmp.bb 18 31711) rfl rfl rfl rfl (two_of HT_.out (by kernel_rfl)) (by decide) (by decide) (fun K hK => ?_) (fun K hK => ?_)
            ·skip
             refine Kd.R_append_rows_step k35 (w0 := w) w.heap.size (by rfl) (.tmp 29) (.tmp 33) 24 35 (.agg #[(.int .i64 0), (.int .i64 0), (.int .i64 0), (.bool false)]) 32 rfl Try.underlying24 info35 rfl (by decide) (by omega) v157 E7 Ds _ _ _ (fun k_ => some k_ ≠ (.slice Da D8.length Db : Value).ownBlock) (fun _ => False) rfl rfl ?aO ?aR (fun _ _ h => h) (fun _ h => h.elim) ?aF ?aB ?aS ?aL ?_
             (case aR => repeat (first | exact (Kd.C_below HR162.out HB.out) | (with_reducible refine Kd.C_alloc ?_ _) | (with_reducible refine Kd.C_drewN ?_ _) | (with_reducible refine Kd.C_drew ?_)))
             (case aB => exact (Cmp.g HB.out))
             (case aF => exact (fun k_ hk => Kd.fresh' (Kd.R_lt (Cmp.rr D0.out)) k_ hk))
             (case aO => exact (by (with_reducible repeat (first | apply Kd.R_alloc | apply Kd.R_drewN | apply Kd.R_drew)); exact Kd.R_mono D5.out (fun _ hk => hk.2)))
             (case aS => exact (below_size (Cmp.g HB.out)))
             (case aL => have := LMc30.out; omega)
             intro v164 w68 ho hb hg hat
             rw [← E8.out] at ho
             have n0_ := Aside0.mk (Kd.R_after (ok := (fun _ => True)) (Cmp.rr D0.out) hg hat)
             have n1_ := Cmp.bg D1 hg (Kd.R_ne D5.out D1.out (by decide))
             have n2_ := Cmp.bg D3 hg (Kd.R_ne D5.out D3.out (by decide))
             have n3_ := Cmp.bg D2 hg (Kd.R_ne D5.out D2.out (by decide))
             have n4_ := Aside0.mk (hb)
             have n5_ := Aside0.mk (ho)
             clear D0; clear D1; clear D3; clear D2; clear HB; clear D5; have D0 := n0_; have D1 := n1_; have D3 := n2_; have D2 := n3_; have HB := n4_; have D6 := n5_; clear n0_ n1_ n2_ n3_ n4_ n5_; clear ho hb hg hat
             refine hK.out _ _ ⟨(Cmp.c0 D1 :), (Cmp.c1 D1 :), (Cmp.c2 D1 :)⟩ (fun hHeld => ?_)
             clear hK K
             refine norm_ (a' := ?_) ?_ ?_
             rotate_left
             ·show Act.put _ (some 34) _ = _
              simp only [Act.put, Cmp.s, Cmp.z, Cmp.c, i64_w, i32_w]; rfl
             refine one_ (i := 9) (N := some 38) (Cmp.bb 18 31743) rfl rfl (one_of HT_.out (by kernel_rfl)) (by decide) (fun K hK => ?_)
             refine Kd.R_lit_step k35 _ 35 ?hg (N := 38) ?hd (xs := ([(⟨a1, a2, 0, false⟩ : S35)] : List (S35))) (inner := [.int .i64 a1, .int .i64 a2, .int .i64 0, .bool false]) (ok := fun _ => True) (okp := fun _ => True) ?hr ?hp (fun _ hk => hk) trivial (Below.refl _ _) (Nat.le_refl _) (by simp) ?_; (case hd => rfl); (case hg => rfl); (case hr => first | (go_simp; done) | (go_simp; rfl)); (case hp => exact (Reps.c4 (show Kd.M k35 _ _ _ (⟨a1, a2, 0, false⟩ : S35) [.int .i64 a1, .int .i64 a2, .int .i64 0, .bool false] from (k35_mkM _ _ _ (⟨a1, a2, 0, false⟩ : S35) )) (Reps.none _ _)))
             intro v167 w69 Ei hb hg_ hnew_
             clear hg_ hnew_
             (first | rw [← Dm.out] at Ei | (simp only [Int.reduceToNat] at Ei; rw [← Dm.out] at Ei))
             have n0_ := Aside0.mk (Kd.R_elder' (Cmp.rr D0.out) (Kd.R_base Ei) hb)
             have n1_ := Aside0.mk (Kd.R_elder' (Cmp.rr D6.out) (Kd.R_base Ei) hb)
             have n2_ := Aside0.mk (Kd.R_lower (Kd.R_new' (Kd.R_new' Ei (Kd.R_lt (Cmp.rr D0.out))) (Kd.R_lt (Cmp.rr D6.out))) (below_size (Cmp.g HB.out)))
             have n3_ := Cmp.be D1 hb
             have n4_ := Cmp.be D3 hb
             have n5_ := Cmp.be D2 hb
             have n6_ := Aside0.mk (below_step (Cmp.g HB.out) hb)
             clear D0; clear D6; clear D1; clear D3; clear D2; clear HB; have D0 := n0_; have D6 := n1_; have D4 := n2_; have D1 := n3_; have D3 := n4_; have D2 := n5_; have HB := n6_; clear n0_ n1_ n2_ n3_ n4_ n5_ n6_; clear hb Ei
             refine hK.out _ _ ⟨(Cmp.c0 D1 :), (Cmp.c1 D1 :), (Cmp.c2 D1 :)⟩ (fun hHeld => ?_)
             clear hK K
             refine norm_ (a' := ?_) ?_ ?_
             rotate_left
             ·show Act.put _ (some 38) _ = _
              simp only [Act.put, Cmp.s, Cmp.z, Cmp.c, i64_w, i32_w]; rfl
             exact norm_ (by simp only [putAll, Act.put, List.setIfInBounds_toArray, List.set_cons_zero, List.set_cons_succ]) (hCont (v157, v164, v167) _ ⟨hHeld, (by (with_reducible repeat (first | apply Kd.R_alloc | apply Kd.R_drewN | apply Kd.R_drew)); exact Kd.R_mono D6.out (fun _ hk => ⟨hk.2, hk.1⟩)), (by (with_reducible repeat (first | apply Kd.R_alloc | apply Kd.R_drewN | apply Kd.R_drew)); exact Kd.R_mono D4.out (fun _ hk => ⟨hk.2, hk.1.2⟩)), (by (with_reducible repeat (first | apply Kd.R_alloc | apply Kd.R_drewN | apply Kd.R_drew)); exact Kd.R_mono D0.out (fun _ hk => ⟨hk.1.2, hk.2⟩)), (Cmp.b D1.out), (Cmp.b D3.out), (Cmp.b D2.out), (Cmp.g HB.out)⟩)
            ·skip
             refine Kd.R_lit_step k35 _ 35 ?hg (N := 38) ?hd (xs := ([(⟨a1, a2, 0, false⟩ : S35)] : List (S35))) (inner := [.int .i64 a1, .int .i64 a2, .int .i64 0, .bool false]) (ok := fun _ => True) (okp := fun _ => True) ?hr ?hp (fun _ hk => hk) trivial (Below.refl _ _) (Nat.le_refl _) (by simp) ?_; (case hd => rfl); (case hg => rfl); (case hr => first | (go_simp; done) | (go_simp; rfl)); (case hp => exact (Reps.c4 (show Kd.M k35 _ _ _ (⟨a1, a2, 0, false⟩ : S35) [.int .i64 a1, .int .i64 a2, .int .i64 0, .bool false] from (k35_mkM _ _ _ (⟨a1, a2, 0, false⟩ : S35) )) (Reps.none _ _)))
             intro v167 w68 E3 hb hg_ hnew_
             clear hg_ hnew_
             (first | rw [← Dm.out] at E3 | (simp only [Int.reduceToNat] at E3; rw [← Dm.out] at E3))
             have n0_ := Aside0.mk (Kd.R_elder' (Cmp.rr D0.out) (Kd.R_base E3) hb)
             have n1_ := Aside0.mk (Kd.R_elder' (Cmp.rr D5.out) (Kd.R_base E3) hb)
             have n2_ := Aside0.mk (Kd.R_lower (Kd.R_new' (Kd.R_new' E3 (Kd.R_lt (Cmp.rr D0.out))) (Kd.R_lt (Cmp.rr D5.out))) (below_size (Cmp.g HB.out)))
             have n3_ := Cmp.be D1 hb
             have n4_ := Cmp.be D3 hb
             have n5_ := Cmp.be D2 hb
             have n6_ := Aside0.mk (below_step (Cmp.g HB.out) hb)
             clear D0; clear D5; clear D1; clear D3; clear D2; clear HB; have D0 := n0_; have D5 := n1_; have D4 := n2_; have D1 := n3_; have D3 := n4_; have D2 := n5_; have HB := n6_; clear n0_ n1_ n2_ n3_ n4_ n5_ n6_; clear hb E3
             refine hK.out _ _ ⟨(Cmp.c0 D1 :), (Cmp.c1 D1 :), (Cmp.c2 D1 :)⟩ (fun hHeld => ?_)
             clear hK K
             refine norm_ (a' := ?_) ?_ ?_
             rotate_left
             ·show Act.put _ (some 38) _ = _
              simp only [Act.put, Cmp.s, Cmp.z, Cmp.c, i64_w, i32_w]; rfl
             refine one_ (i := 5) (N := some 34) (Cmp.bb 18 31743) rfl rfl (one_of HT_.out (by kernel_rfl)) (by decide) (fun K hK => ?_)
             refine Kd.R_append_rows_step k35 (w0 := w) w.heap.size (by rfl) (.tmp 29) (.tmp 33) 24 35 (.agg #[(.int .i64 0), (.int .i64 0), (.int .i64 0), (.bool false)]) 32 rfl Try.underlying24 info35 rfl (by decide) (by omega) v157 E7 Ds _ _ _ (fun k_ => some k_ ≠ (.slice Da D8.length Db : Value).ownBlock ∧ some k_ ≠ (v167 : Value).ownBlock) (fun _ => False) rfl rfl ?aO ?aR (fun _ _ h => h) (fun _ h => h.elim) ?aF ?aB ?aS ?aL ?_
             (case aR => repeat (first | exact (Kd.C_below HR162.out HB.out) | (with_reducible refine Kd.C_alloc ?_ _) | (with_reducible refine Kd.C_drewN ?_ _) | (with_reducible refine Kd.C_drew ?_)))
             (case aB => exact (Cmp.g HB.out))
             (case aF => exact (fun k_ hk => ⟨Kd.fresh' (Kd.R_lt (Cmp.rr D0.out)) k_ hk, Kd.fresh' (Kd.R_lt (Cmp.rr D4.out)) k_ hk⟩))
             (case aO => exact (by (with_reducible repeat (first | apply Kd.R_alloc | apply Kd.R_drewN | apply Kd.R_drew)); exact Kd.R_mono D5.out (fun _ hk => ⟨hk.1.2, hk.2⟩)))
             (case aS => exact (below_size (Cmp.g HB.out)))
             (case aL => have := LMc30.out; omega)
             intro v164 w70 ho hb hg hat
             rw [← E8.out] at ho
             have n0_ := Aside0.mk (Kd.R_after (ok := (fun k_ => some k_ ≠ (v167 : Value).ownBlock)) (by (with_reducible repeat (first | apply Kd.R_alloc | apply Kd.R_drewN | apply Kd.R_drew)); exact Kd.R_mono D0.out (fun _ hk => ⟨hk.2, hk.1.2⟩)) hg hat)
             have n1_ := Cmp.bg D1 hg (Kd.R_ne D5.out D1.out (by decide))
             have n2_ := Cmp.bg D3 hg (Kd.R_ne D5.out D3.out (by decide))
             have n3_ := Cmp.bg D2 hg (Kd.R_ne D5.out D2.out (by decide))
             have n4_ := Aside0.mk (Kd.R_after (ok := (fun k_ => some k_ ≠ (.slice Da D8.length Db : Value).ownBlock)) (by (with_reducible repeat (first | apply Kd.R_alloc | apply Kd.R_drewN | apply Kd.R_drew)); exact Kd.R_mono D4.out (fun _ hk => ⟨hk.1.2, hk.2⟩)) hg hat)
             have n5_ := Aside0.mk (hb)
             have n6_ := Aside0.mk (ho)
             clear D0; clear D1; clear D3; clear D2; clear D4; clear HB; clear D5; have D0 := n0_; have D1 := n1_; have D3 := n2_; have D2 := n3_; have D4 := n4_; have HB := n5_; have D6 := n6_; clear n0_ n1_ n2_ n3_ n4_ n5_ n6_; clear ho hb hg hat
             refine hK.out _ _ ⟨(Cmp.c0 D1 :), (Cmp.c1 D1 :), (Cmp.c2 D1 :)⟩ (fun hHeld => ?_)
             clear hK K
             refine norm_ (a' := ?_) ?_ ?_
             rotate_left
             ·show Act.put _ (some 34) _ = _
              simp only [Act.put, Cmp.s, Cmp.z, Cmp.c, i64_w, i32_w]; rfl
             exact norm_ (by simp only [putAll, Act.put, List.setIfInBounds_toArray, List.set_cons_zero, List.set_cons_succ]) (hCont (v157, v164, v167) _ ⟨hHeld, (by (with_reducible repeat (first | apply Kd.R_alloc | apply Kd.R_drewN | apply Kd.R_drew)); exact Kd.R_mono D6.out (fun _ hk => ⟨hk.2, hk.1⟩)), (by (with_reducible repeat (first | apply Kd.R_alloc | apply Kd.R_drewN | apply Kd.R_drew)); exact Kd.R_mono D4.out (fun _ hk => ⟨hk.2, hk.1⟩)), (by (with_reducible repeat (first | apply Kd.R_alloc | apply Kd.R_drewN | apply Kd.R_drew)); exact Kd.R_mono D0.out (fun _ hk => ⟨hk.2, hk.1⟩)), (Cmp.b D1.out), (Cmp.b D3.out), (Cmp.b D2.out), (Cmp.g HB.out)⟩)
           ·skip
            refine Kd.R_lit_step k35 _ 35 ?hg (N := 38) ?hd (xs := ([(⟨a1, a2, 0, false⟩ : S35)] : List (S35))) (inner := [.int .i64 a1, .int .i64 a2, .int .i64 0, .bool false]) (ok := fun _ => True) (okp := fun _ => True) ?hr ?hp (fun _ hk => hk) trivial (Below.refl _ _) (Nat.le_refl _) (by simp) ?_; (case hd => rfl); (case hg => rfl); (case hr => first | (go_simp; done) | (go_simp; rfl)); (case hp => exact (Reps.c4 (show Kd.M k35 _ _ _ (⟨a1, a2, 0, false⟩ : S35) [.int .i64 a1, .int .i64 a2, .int .i64 0, .bool false] from (k35_mkM _ _ _ (⟨a1, a2, 0, false⟩ : S35) )) (Reps.none _ _)))
            intro v167 w66 Ea hb hg_ hnew_
            clear hg_ hnew_
            (first | rw [← Dm.out] at Ea | (simp only [Int.reduceToNat] at Ea; rw [← Dm.out] at Ea))
            have n0_ := Aside0.mk (Kd.R_elder' (Cmp.rr D0.out) (Kd.R_base Ea) hb)
            have n1_ := Aside0.mk (Kd.R_lower (Kd.R_new' Ea (Kd.R_lt (Cmp.rr D0.out))) (below_size (Cmp.g HB.out)))
            have n2_ := Cmp.be D1 hb
            have n3_ := Cmp.be D3 hb
            have n4_ := Cmp.be D2 hb
            have n5_ := Aside0.mk (below_step (Cmp.g HB.out) hb)
            clear D0; clear D1; clear D3; clear D2; clear HB; have D0 := n0_; have D4 := n1_; have D1 := n2_; have D3 := n3_; have D2 := n4_; have HB := n5_; clear n0_ n1_ n2_ n3_ n4_ n5_; clear hb Ea
            refine hK.out _ _ ⟨(Cmp.c0 D1 :), (Cmp.c1 D1 :), (Cmp.c2 D1 :)⟩ (fun hHeld => ?_)
            clear hK K
            refine norm_ (a' := ?_) ?_ ?_
            rotate_left
            ·show Act.put _ (some 38) _ = _
             simp only [Act.put, Cmp.s, Cmp.z, Cmp.c, i64_w, i32_w]; rfl
            refine one_ (i := 0) (N := some 29) (Cmp.bb 18 31711) rfl rfl (one_of HT_.out (by kernel_rfl)) (by decide) (fun K hK => ?_)
            refine Kd.R_lit_step k35 _ 35 ?hg (N := 29) ?hd (xs := ([] : List (S35))) (inner := []) (ok := fun _ => True) (okp := fun _ => True) ?hr ?hp (fun _ hk => hk) trivial (Below.refl _ _) (Nat.le_refl _) (by simp) ?_; (case hd => rfl); (case hg => rfl); (case hr => first | (go_simp; done) | (go_simp; rfl)); (case hp => exact (Reps.none _ _))
            intro v157 w68 E3 hb hg_ hnew_
            clear hg_ hnew_
            (first | rw [← Dx.out] at E3 | (simp only [Int.reduceToNat] at E3; rw [← Dx.out] at E3))
            have n0_ := Aside0.mk (Kd.R_elder' (Cmp.rr D0.out) (Kd.R_base E3) hb)
            have n1_ := Aside0.mk (Kd.R_elder' (Cmp.rr D4.out) (Kd.R_base E3) hb)
            have n2_ := Aside0.mk (Kd.R_lower (Kd.R_new' (Kd.R_new' E3 (Kd.R_lt (Cmp.rr D0.out))) (Kd.R_lt (Cmp.rr D4.out))) (below_size (Cmp.g HB.out)))
            have n3_ := Cmp.be D1 hb
            have n4_ := Cmp.be D3 hb
            have n5_ := Cmp.be D2 hb
            have n6_ := Aside0.mk (below_step (Cmp.g HB.out) hb)
            clear D0; clear D4; clear D1; clear D3; clear D2; clear HB; have D0 := n0_; have D4 := n1_; have D5 := n2_; have D1 := n3_; have D3 := n4_; have D2 := n5_; have HB := n6_; clear n0_ n1_ n2_ n3_ n4_ n5_ n6_; clear hb E3
            refine hK.out _ _ ⟨(Cmp.c0 D1 :), (Cmp.c1 D1 :), (Cmp.c2 D1 :)⟩ (fun hHeld => ?_)
            clear hK K
            refine norm_ (a' := ?_) ?_ ?_
            rotate_left
            ·show Act.put _ (some 29) _ = _
             simp only [Act.put, Cmp.s, Cmp.z, Cmp.c, i64_w, i32_w]; rfl
            refine one_ (i := 5) (N := some 34) (Cmp.bb 18 31743) rfl rfl (one_of HT_.out (by kernel_rfl)) (by decide) (fun K hK => ?_)
            refine Kd.R_append_rows_step k35 (w0 := w) w.heap.size (by rfl) (.tmp 29) (.tmp 33) 24 35 (.agg #[(.int .i64 0), (.int .i64 0), (.int .i64 0), (.bool false)]) 32 rfl Try.underlying24 info35 rfl (by decide) (by omega) v157 E7 Ds _ _ _ (fun k_ => some k_ ≠ (.slice Da D8.length Db : Value).ownBlock ∧ some k_ ≠ (v167 : Value).ownBlock) (fun _ => False) rfl rfl ?aO ?aR (fun _ _ h => h) (fun _ h => h.elim) ?aF ?aB ?aS ?aL ?_
            (case aR => repeat (first | exact (Kd.C_below HR162.out HB.out) | (with_reducible refine Kd.C_alloc ?_ _) | (with_reducible refine Kd.C_drewN ?_ _) | (with_reducible refine Kd.C_drew ?_)))
            (case aB => exact (Cmp.g HB.out))
            (case aF => exact (fun k_ hk => ⟨Kd.fresh' (Kd.R_lt (Cmp.rr D0.out)) k_ hk, Kd.fresh' (Kd.R_lt (Cmp.rr D4.out)) k_ hk⟩))
            (case aO => exact (by (with_reducible repeat (first | apply Kd.R_alloc | apply Kd.R_drewN | apply Kd.R_drew)); exact Kd.R_mono D5.out (fun _ hk => ⟨hk.1.2, hk.2⟩)))
            (case aS => exact (below_size (Cmp.g HB.out)))
            (case aL => have := LMc30.out; omega)
            intro v164 w70 ho hb hg hat
            rw [← E8.out] at ho
            have n0_ := Aside0.mk (Kd.R_after (ok := (fun k_ => some k_ ≠ (v167 : Value).ownBlock)) (by (with_reducible repeat (first | apply Kd.R_alloc | apply Kd.R_drewN | apply Kd.R_drew)); exact Kd.R_mono D0.out (fun _ hk => ⟨hk.1.2, hk.2⟩)) hg hat)
            have n1_ := Cmp.bg D1 hg (Kd.R_ne D5.out D1.out (by decide))
            have n2_ := Cmp.bg D3 hg (Kd.R_ne D5.out D3.out (by decide))
            have n3_ := Cmp.bg D2 hg (Kd.R_ne D5.out D2.out (by decide))
            have n4_ := Aside0.mk (Kd.R_after (ok := (fun k_ => some k_ ≠ (.slice Da D8.length Db : Value).ownBlock)) (by (with_reducible repeat (first | apply Kd.R_alloc | apply Kd.R_drewN | apply Kd.R_drew)); exact Kd.R_mono D4.out (fun _ hk => ⟨hk.1.2, hk.2⟩)) hg hat)
            have n5_ := Aside0.mk (hb)
            have n6_ := Aside0.mk (ho)
            clear D0; clear D1; clear D3; clear D2; clear D4; clear HB; clear D5; have D0 := n0_; have D1 := n1_; have D3 := n2_; have D2 := n3_; have D4 := n4_; have HB := n5_; have D6 := n6_; clear n0_ n1_ n2_ n3_ n4_ n5_ n6_; clear ho hb hg hat
            refine hK.out _ _ ⟨(Cmp.c0 D1 :), (Cmp.c1 D1 :), (Cmp.c2 D1 :)⟩ (fun hHeld => ?_)
            clear hK K
            refine norm_ (a' := ?_) ?_ ?_
            rotate_left
            ·show Act.put _ (some 34) _ = _
             simp only [Act.put, Cmp.s, Cmp.z, Cmp.c, i64_w, i32_w]; rfl
            exact norm_ (by simp only [putAll, Act.put, List.setIfInBounds_toArray, List.set_cons_zero, List.set_cons_succ]) (hCont (v157, v164, v167) _ ⟨hHeld, (by (with_reducible repeat (first | apply Kd.R_alloc | apply Kd.R_drewN | apply Kd.R_drew)); exact Kd.R_mono D6.out (fun _ hk => ⟨hk.2, hk.1⟩)), (by (with_reducible repeat (first | apply Kd.R_alloc | apply Kd.R_drewN | apply Kd.R_drew)); exact Kd.R_mono D4.out (fun _ hk => ⟨hk.2, hk.1⟩)), (by (with_reducible repeat (first | apply Kd.R_alloc | apply Kd.R_drewN | apply Kd.R_drew)); exact Kd.R_mono D0.out (fun _ hk => ⟨hk.2, hk.1⟩)), (Cmp.b D1.out), (Cmp.b D3.out), (Cmp.b D2.out), (Cmp.g HB.out)⟩)
          rintro ⟨v157, v164, v167⟩ w71 ⟨hS_, h0_, h1_, h2_, h3_, h4_, h5_, h6_⟩
          have n0_ : Aside0 (Kd.R k35 35 w71 w.heap.size (fun k_ => some k_ ≠ (v167 : Value).ownBlock ∧ some k_ ≠ (.slice Da D8.length Db : Value).ownBlock) v164 Du) := ⟨h0_⟩
          have n1_ : Aside0 (Kd.R k35 35 w71 w.heap.size (fun k_ => some k_ ≠ (v164 : Value).ownBlock ∧ some k_ ≠ (.slice Da D8.length Db : Value).ownBlock) v167 Dj) := ⟨h1_⟩
          have n2_ : Aside0 (Kd.R k35 35 w71 w.heap.size (fun k_ => some k_ ≠ (v164 : Value).ownBlock ∧ some k_ ≠ (v167 : Value).ownBlock) (.slice Da D8.length Db) D8) := ⟨h2_⟩
          have n3_ : Aside0 (w71.heap[D7]? = some (.cells #[.int .i64 a0_0, .int .i64 a0_1, .slice A0_2 l0_2.length c0_2] 26 (0, 0))) := ⟨h3_⟩
          have n4_ : Aside0 (w71.heap[Di]? = some (.cells #[.int .i64 0, .int .i64 0, .slice none 0 0] 26 (0, 0))) := ⟨h4_⟩
          have n5_ : Aside0 (w71.heap[Dd]? = some (.cells #[.int .i64 Dk, .int .i64 Dl, .slice Da D8.length Db] 26 (0, 0))) := ⟨h5_⟩
          have n6_ : Aside0 (Below w.heap.size w w71) := ⟨h6_⟩
          clear D0; clear D1; clear D3; clear D2; clear HB; clear h0_ h1_ h2_ h3_ h4_ h5_ h6_; have D6 := n0_; have D4 := n1_; have D0 := n2_; have D1 := n3_; have D3 := n4_; have D2 := n5_; have HB := n6_; clear n0_ n1_ n2_ n3_ n4_ n5_ n6_
          have hHeld : w71.cell? ⟨D7, 0, none⟩ = some (.int .i64 a0_0) ∧ w71.cell? ⟨D7, 1, none⟩ = some (.int .i64 a0_1) ∧ w71.cell? ⟨D7, 2, none⟩ = some (.slice A0_2 l0_2.length c0_2) := hS_
          obtain ⟨F8, Fc, Gw⟩ := Kd.R_slice D4.out
          (first | subst Gw | (injection Gw with f1_ f2_ f3_; have f4_ := f1_.symm; have f5_ := f3_.symm; clear f1_ f2_ f3_; subst f4_; subst f5_))
          refine norm_ (a' := ?_) ?_ ?_
          rotate_left
          ·simp only [putAll, Act.put, List.setIfInBounds_toArray, List.set_cons_zero, List.set_cons_succ]; rfl
          refine one_ (i := 10) (N := some 39) (Cmp.bm 15 3) rfl rfl (one_of HT_.out (by kernel_rfl)) (by decide) (fun K hK => ?_)
          refine Kd.R_append_rows_step k35 (w0 := w) w.heap.size (by rfl) (.tmp 34) (.tmp 38) 24 35 (.agg #[(.int .i64 0), (.int .i64 0), (.int .i64 0), (.bool false)]) 32 rfl Try.underlying24 info35 rfl (by decide) (by omega) v164 Du Dj _ _ _ (fun k_ => some k_ ≠ (.slice Da D8.length Db : Value).ownBlock ∧ some k_ ≠ (.slice F8 Dj.length Fc : Value).ownBlock) (fun _ => False) rfl rfl ?aO ?aR (fun _ _ h => h) (fun _ h => h.elim) ?aF ?aB ?aS ?aL ?_
          (case aR => repeat (first | exact (Kd.R_reads' D4.out).2.2 | (with_reducible refine Kd.C_alloc ?_ _) | (with_reducible refine Kd.C_drewN ?_ _) | (with_reducible refine Kd.C_drew ?_)))
          (case aB => exact (Cmp.g HB.out))
          (case aF => exact (fun k_ hk => ⟨Kd.fresh' (Kd.R_lt (Cmp.rr D0.out)) k_ hk, Kd.fresh' (Kd.R_lt (Cmp.rr D4.out)) k_ hk⟩))
          (case aO => exact (by (with_reducible repeat (first | apply Kd.R_alloc | apply Kd.R_drewN | apply Kd.R_drew)); exact Kd.R_mono D6.out (fun _ hk => ⟨hk.2, hk.1⟩)))
          (case aS => exact (below_size (Cmp.g HB.out)))
          (case aL => have := LMc31.out; omega)
          intro v170 w72 ho hb hg hat
          rw [← Ez.out] at ho
          have n0_ := Aside0.mk (Kd.R_after (ok := (fun k_ => some k_ ≠ (.slice F8 Dj.length Fc : Value).ownBlock)) (by (with_reducible repeat (first | apply Kd.R_alloc | apply Kd.R_drewN | apply Kd.R_drew)); exact Kd.R_mono D0.out (fun _ hk => ⟨hk.2, hk.1⟩)) hg hat)
          have n1_ := Cmp.bg D1 hg (Kd.R_ne D6.out D1.out (by decide))
          have n2_ := Cmp.bg D3 hg (Kd.R_ne D6.out D3.out (by decide))
          have n3_ := Cmp.bg D2 hg (Kd.R_ne D6.out D2.out (by decide))
          have n4_ := Aside0.mk (Kd.R_after (ok := (fun k_ => some k_ ≠ (.slice Da D8.length Db : Value).ownBlock)) (by (with_reducible repeat (first | apply Kd.R_alloc | apply Kd.R_drewN | apply Kd.R_drew)); exact Kd.R_mono D4.out (fun _ hk => ⟨hk.2, hk.1⟩)) hg hat)
          have n5_ := Aside0.mk (hb)
          have n6_ := Aside0.mk (ho)
          clear D0; clear D1; clear D3; clear D2; clear D4; clear HB; clear D6; have D0 := n0_; have D1 := n1_; have D3 := n2_; have D2 := n3_; have D4 := n4_; have HB := n5_; have Dr := n6_; clear n0_ n1_ n2_ n3_ n4_ n5_ n6_; clear ho hb hg hat
          refine hK.out _ _ ⟨(Cmp.c0 D1 :), (Cmp.c1 D1 :), (Cmp.c2 D1 :)⟩ (fun hHeld => ?_)
          clear hK K
          refine norm_ (a' := ?_) ?_ ?_
          rotate_left
          ·show Act.put _ (some 39) _ = _
           simp only [Act.put, Cmp.s, Cmp.z, Cmp.c, i64_w, i32_w]; rfl
          refine one_ (i := 15) (N := some 44) (Cmp.bm 16 2) rfl rfl (one_of HT_.out (by kernel_rfl)) (by decide) (fun K hK => ?_)
          refine Kd.R_append_rows_step k35 (w0 := w) w.heap.size (by rfl) (.tmp 39) (.tmp 43) 24 35 (.agg #[(.int .i64 0), (.int .i64 0), (.int .i64 0), (.bool false)]) 32 rfl Try.underlying24 info35 rfl (by decide) (by omega) v170 Dv Dg _ _ _ (fun k_ => some k_ ≠ (.slice Da D8.length Db : Value).ownBlock ∧ some k_ ≠ (.slice F8 Dj.length Fc : Value).ownBlock) (fun _ => False) rfl rfl ?aO ?aR (fun _ _ h => h) (fun _ h => h.elim) ?aF ?aB ?aS ?aL ?_
          (case aR => repeat (first | exact (Kd.C_below HR175.out HB.out) | (with_reducible refine Kd.C_alloc ?_ _) | (with_reducible refine Kd.C_drewN ?_ _) | (with_reducible refine Kd.C_drew ?_)))
          (case aB => exact (Cmp.g HB.out))
          (case aF => exact (fun k_ hk => ⟨Kd.fresh' (Kd.R_lt (Cmp.rr D0.out)) k_ hk, Kd.fresh' (Kd.R_lt (Cmp.rr D4.out)) k_ hk⟩))
          (case aO => exact (Cmp.rr Dr.out))
          (case aS => exact (below_size (Cmp.g HB.out)))
          (case aL => have := LMc34.out; omega)
          intro v177 w74 ho hb hg hat
          rw [← F0.out] at ho
          have n0_ := Aside0.mk (Kd.R_after (ok := (fun k_ => some k_ ≠ (.slice F8 Dj.length Fc : Value).ownBlock)) (Cmp.rr D0.out) hg hat)
          have n1_ := Cmp.bg D1 hg (Kd.R_ne Dr.out D1.out (by decide))
          have n2_ := Cmp.bg D3 hg (Kd.R_ne Dr.out D3.out (by decide))
          have n3_ := Cmp.bg D2 hg (Kd.R_ne Dr.out D2.out (by decide))
          have n4_ := Aside0.mk (Kd.R_after (ok := (fun k_ => some k_ ≠ (.slice Da D8.length Db : Value).ownBlock)) (Cmp.rr D4.out) hg hat)
          have n5_ := Aside0.mk (hb)
          have n6_ := Aside0.mk (ho)
          clear D0; clear D1; clear D3; clear D2; clear D4; clear HB; clear Dr; have D0 := n0_; have D1 := n1_; have D3 := n2_; have D2 := n3_; have D4 := n4_; have HB := n5_; have De := n6_; clear n0_ n1_ n2_ n3_ n4_ n5_ n6_; clear ho hb hg hat
          obtain ⟨F9, Fd, Gx⟩ := Kd.R_slice De.out
          (first | subst Gx | (injection Gx with f1_ f2_ f3_; have f4_ := f1_.symm; have f5_ := f3_.symm; clear f1_ f2_ f3_; subst f4_; subst f5_))
          refine hK.out _ _ ⟨(Cmp.c0 D1 :), (Cmp.c1 D1 :), (Cmp.c2 D1 :)⟩ (fun hHeld => ?_)
          clear hK K
          refine norm_ (a' := ?_) ?_ ?_
          rotate_left
          ·show Act.put _ (some 44) _ = _
           simp only [Act.put, Cmp.s, Cmp.z, Cmp.c, i64_w, i32_w]; rfl
          refine Cmp.pu HT_ 16 45 (Cmp.bm 17 1) ?_
          refine one_ (i := 17) (N := none) (Cmp.bm 18 0) rfl rfl (one_of HT_.out (by kernel_rfl)) (by decide) (fun K hK => ?_)
          have hs76 : w74.cell? ⟨Dd, 2, none⟩ = some (.slice Da D8.length Db) := (blk_cell D2.out 2).trans rfl
          have hfs76 := blk_frozen D2.out 2; have hns76_0 := D9.out; have hns76_1 := Dp.out; have hms76_0 := Df.out; have hms76_1 := Dq.out
          refine skip_ (w1 := ?_) (by rfl) rfl ?_ ?_
          rotate_left
          ·go_simp; rfl
          refine hK.out _ _ ⟨((cell_far (p := ⟨Dd, _, none⟩) D9.out _).trans (hHeld.1)), ((cell_far (p := ⟨Dd, _, none⟩) D9.out _).trans (hHeld.2.1)), ((cell_far (p := ⟨Dd, _, none⟩) D9.out _).trans (hHeld.2.2))⟩ (fun hHeld => ?_)
          clear hK K
          refine done_ (done_of HT_.out (by kernel_rfl)) ?_
          have Ls := Dn.out; have M6 := Do.out; have Lt := D9.out; have M7 := Df.out
          have Jz := Cmp.c0 D1
          have K0 := Cmp.c1 D1
          have K1 := Cmp.c2 D1
          have Ko := blk_frozen D1.out 0; have Kp := blk_frozen D1.out 1; have Kq := blk_frozen D1.out 2
          try go_wp2_with (first | ((with_reducible refine gate_callee (f := 58) rfl ?_); refine goesL_ (some 47) rfl rfl Try.func58 (by kernel_rfl) rfl #[.agg #[.int .i64 a0_0, .int .i64 a0_1, .slice A0_2 l0_2.length c0_2]] rfl Cmp.q ?_; (with_reducible refine (spec_IsValidAccount.calls kj4 a0_0 a0_1 _ _ l0_2 true _ ?side1 ?side2 L0.out).mono ?_); (case side1 => exact Kd.C_below Dt.out (Cmp.g HB.out)); (case side2 => exact HC0_2.out); rintro e w80 ⟨rfl, hb⟩; refine ⟨_, rfl, ?_⟩; replace D0 := Aside0.mk (Kd.R_below (by (with_reducible repeat (first | apply Kd.R_alloc | apply Kd.R_drewN | apply Kd.R_drew)); exact (Kd.R_mono (Kd.R_far (p := ⟨Dd, 2, none⟩) (Kd.R_types D0.out D2.out (by decide)) (fun _ hk => hk.2) (.slice F9 Dh.length Fd)) (fun _ h_ => h_.1))) hb); replace D4 := Aside0.mk (Kd.R_below (by (with_reducible repeat (first | apply Kd.R_alloc | apply Kd.R_drewN | apply Kd.R_drew)); exact (Kd.R_mono (Kd.R_far (p := ⟨Dd, 2, none⟩) (Kd.R_types D4.out D2.out (by decide)) (fun _ hk => hk.2) (.slice F9 Dh.length Fd)) (fun _ h_ => h_.1))) hb); replace De := Aside0.mk (Kd.R_below (by (with_reducible repeat (first | apply Kd.R_alloc | apply Kd.R_drewN | apply Kd.R_drew)); exact (Kd.R_mono (Kd.R_far (p := ⟨Dd, 2, none⟩) (Kd.R_types De.out D2.out (by decide)) (fun _ hk => hk.2) (.slice F9 Dh.length Fd)) (fun _ h_ => h_.1))) hb); replace D1 := Aside0.mk (blk_below (g := D7) (o := .cells #[.int .i64 a0_0, .int .i64 a0_1, .slice A0_2 l0_2.length c0_2] 26 (0, 0)) (Cmp.bw D1.out) hb); replace D3 := Aside0.mk (blk_below (g := Di) (o := .cells #[.int .i64 0, .int .i64 0, .slice none 0 0] 26 (0, 0)) (Cmp.bw D3.out) hb); replace D2 := Aside0.mk (blk_below (g := Dd) (o := .cells #[.int .i64 Dk, .int .i64 Dl, .slice F9 Dh.length Fd] 26 (0, 0)) (Cmp.bw D2.out) hb); replace HB := Cmp.bs HB hb; (try clear hb); (try clear hb2); (try clear hk); (try clear hi); have Lu := Dq.out; have M8 := Dp.out; have K2 := Cmp.c0 D2; have K3 := Cmp.c1 D2; have K4 := Cmp.c2 D2; have Kr := blk_frozen D2.out 0; have Ks := blk_frozen D2.out 1; have Kt := blk_frozen D2.out 2) | (go_at_call 58; (with_reducible refine (spec_IsValidAccount.calls kj4 Dk Dl _ _ Dh false _ ?side1 ?side2 L9.out).mono ?_); (case side1 => exact Cmp.rc (Kd.R_reads' De.out).2.2); (case side2 => exact (Kd.R_reads' De.out).2.1); rintro e w83 ⟨rfl, hb⟩; replace D0 := Aside0.mk (Kd.R_below (Cmp.rr D0.out) hb); replace D4 := Aside0.mk (Kd.R_below (Cmp.rr D4.out) hb); replace De := Aside0.mk (Kd.R_below (Cmp.rr De.out) hb); replace D1 := Cmp.be D1 hb; replace D3 := Cmp.be D3 hb; replace D2 := Cmp.be D2 hb; replace HB := Cmp.bs HB hb; (try clear hb); (try clear hb2); (try clear hk); (try clear hi); have K5 := Cmp.c0 D1; have K6 := Cmp.c1 D1; have K7 := Cmp.c2 D1; have Ku := blk_frozen D1.out 0; have Kv := blk_frozen D1.out 1; have Kw := blk_frozen D1.out 2) | ((with_reducible refine gate_callee (f := 57) rfl ?_); refine goesL_ (some 55) rfl rfl Try.func57 (by kernel_rfl) rfl #[.agg #[.int .i64 a0_0, .int .i64 a0_1, .slice A0_2 l0_2.length c0_2]] rfl Cmp.q ?_; (with_reducible refine (spec_l14Copy.calls a0_0 a0_1 _ _ l0_2 Gg Gh Gi _ ?side1 ?side2 Ma.out).mono ?_); (case side1 => exact Cmp.rc (Kd.C_below Dt.out HB.out)); (case side2 => exact HC0_2.out); rintro e w85 ⟨v184, rfl, Et, hb⟩; refine ⟨_, rfl, ?_⟩; have G0 := Aside0.mk (Kd.R_lower (Kd.R_new' (Kd.R_new' (Kd.R_new' Et (Kd.R_lt (Cmp.rr D0.out))) (Kd.R_lt (Cmp.rr D4.out))) (Kd.R_lt (Cmp.rr De.out))) (below_size (Cmp.g HB.out))); replace D0 := Aside0.mk (Kd.R_elder' (Cmp.rr D0.out) (Kd.R_base Et) hb); replace D4 := Aside0.mk (Kd.R_elder' (Cmp.rr D4.out) (Kd.R_base Et) hb); replace De := Aside0.mk (Kd.R_elder' (Cmp.rr De.out) (Kd.R_base Et) hb); replace D1 := Cmp.be D1 hb; replace D3 := Cmp.be D3 hb; replace D2 := Cmp.be D2 hb; replace HB := Cmp.bs HB hb; (try clear hb); (try clear hb2); (try clear hk); (try clear hi); (try clear Et); have K8 := Cmp.c0 D3; have K9 := Cmp.c1 D3; have Ka := Cmp.c2 D3; have Kx := blk_frozen D3.out 0; have Ky := blk_frozen D3.out 1; have Kz := blk_frozen D3.out 2; obtain ⟨Gq, Gs, L2⟩ := Kd.R_slice G0.out; subst L2))
          refine bodyPost_ret (results_ct rfl _ _ Di 26 #[.int .i64 Gg, .int .i64 Gh, .slice Gq Gi.length Gs] (0, 0) _ rfl (Cmp.bw D3.out) Try.underlying26 rfl (by kernel_rfl)) rfl ?_
          exact ⟨_, by first | rfl | (simp [errW_none, errW_some] <;> rfl) | (simp [*, errW_none, errW_some] <;> rfl), by (with_reducible repeat (first | apply Kd.R_alloc | apply Kd.R_drewN | apply Kd.R_drew)); exact Kd.R_mono (Kd.R_far (p := ⟨Di, 2, none⟩) (Kd.R_far (p := ⟨Di, 1, none⟩) (Kd.R_far (p := ⟨Di, 0, none⟩) (Kd.R_types G0.out D3.out (by decide)) (fun _ hk => hk.2) (.int .i64 Gg)) (fun _ hk => hk.2) (.int .i64 Gh)) (fun _ hk => hk.2) (.slice Gq Gi.length Gs)) (fun _ hk => trivial), Cmp.g HB.out⟩
        ·replace c36 := Bool.eq_false_iff.mpr c36
         subst c36
         have H1 : ((spec_l14Copy.f a0_0 a0_1 l0_2).bind fun bt186 => (some (bt186.1, bt186.2.1, bt186.2.2, false))) = some (r1, r2, r3, r4) := by rw [if_neg (show ¬ (false = true) by decide)] at H; exact H
         clear H; have H := H1; clear H1; replace H := Option.bind_eq_some_iff.mp H; obtain ⟨⟨Gj, Gk, Gl⟩, Gp, H⟩ := H; (try dsimp only at H); have Mc := Aside0.mk Gp; clear Gp
         simp only [Option.some.injEq, Prod.mk.injEq] at H
         obtain ⟨rfl, rfl, rfl, rfl⟩ := H
         try go_wp2
         replace D0 := Aside0.mk (Kd.R_drew D0.out); replace D1 := Aside0.mk (blk_drew D1.out); replace D3 := Aside0.mk (blk_drew D3.out); replace D2 := Aside0.mk (blk_drew D2.out); replace HB := Aside0.mk (below_drew1 HB.out)
         have q90 : (Dc : Int) ≤ ((l0_2.length : Int) : Int) := of_decide_eq_true Cmp.d
         obtain ⟨i090, G8, _, hsz90, _⟩ := info_parts info35
         have Ew : l0_2.length ≤ c0_2 := HC0_2.out
         have J3 : Kd.C k35 _ A0_2 l0_2.length l0_2 := Dt.out
         have Ge := cut_to (P := Try.prog) 24 35 .i64 Try.underlying24 G8 A0_2 l0_2.length c0_2 Dc (of_decide_eq_true Cmp.d) q90 Ew
         have hr90 := Kd.C_take (m := (Dc : Int).toNat) J3 (by omega)
         have hy90 : Ds.length = (Dc : Int).toNat := (by rw [Ec.out, List.length_take]; omega)
         rw [← Ec.out] at hr90
         rw [← hy90] at Ge
         have HR162 := Aside0.mk hr90
         have Fy := Aside0.mk (show Ds.length ≤ c0_2 from by omega)
         clear hr90 J3 Ew G8 hsz90; have KY90 := Aside0.mk hy90; clear hy90; replace q90 := eq_true q90
         have q91 : (Dc : Int) ≤ ((l0_2.length : Int) : Int) := of_decide_eq_true Cmp.d
         obtain ⟨i091, G9, _, hsz91, _⟩ := info_parts info35
         have Eg : l0_2.length ≤ c0_2 := HC0_2.out
         have J4 : Kd.C k35 _ A0_2 l0_2.length l0_2 := Dt.out
         have q091 : (0 : Int) ≤ (Dc : Int) := of_decide_eq_true Cmp.d
         have Gf := cut_from (P := Try.prog) 24 35 .i64 Try.underlying24 G9 4 hsz91 A0_2 l0_2.length c0_2 Dc q091 q91
         have hr91 := Kd.C_drop (m := (Dc : Int).toNat) (c := c0_2) J4 (by omega) Eg
         obtain ⟨Md, hA91⟩ : ∃ A1, A1 = (if c0_2 = (Dc : Int).toNat then A0_2 else (A0_2 : Option Addr).map (·.add ((Dc : Int).toNat * 4))) := ⟨_, rfl⟩
         obtain ⟨c91, hc91⟩ : ∃ c1, c1 = c0_2 - (Dc : Int).toNat := ⟨_, rfl⟩
         have hy91 : Dg.length = l0_2.length - (Dc : Int).toNat := (by rw [Ed.out, List.length_drop] <;> omega)
         rw [show (l0_2).drop (Dc : Int).toNat = Dg from Ed.out.symm] at hr91
         replace hr91 : Kd.C k35 _ Md Dg.length Dg := (by rw [hA91]; exact hr91)
         rw [← hy91, ← hA91, ← hc91] at Gf
         have HR175 := Aside0.mk hr91
         have Fz := Aside0.mk (show Dg.length ≤ c91 from by rw [hy91, hc91]; exact Nat.sub_le_sub_right Eg _)
         clear hr91 J4 Eg G9 hsz91 hc91; have KY91 := Aside0.mk hy91; have KA91 := Aside0.mk hA91; clear hy91 hA91; replace q91 := eq_true q91
         refine start_ (n := 18) (S := fun w' => w'.cell? ⟨D7, 0, none⟩ = some (.int .i64 a0_0) ∧ w'.cell? ⟨D7, 1, none⟩ = some (.int .i64 a0_1) ∧ w'.cell? ⟨D7, 2, none⟩ = some (.slice A0_2 l0_2.length c0_2)) (ds := []) (Cmp.bm 0 18) (by kernel_rfl) rfl rfl ⟨(Cmp.c0 D1 :), (Cmp.c1 D1 :), (Cmp.c2 D1 :)⟩ (fun hHeld => ?_); refine with_tabW spec_AddCredential.tab5 spec_AddCredential.bits5 (fun HT_ HW_ => ?_)
         generalize wc.drew = w89 at D0 D1 D3 D2 HB HR162 HR175 hHeld ⊢
         refine Cmp.pu HT_ 1 30 (Cmp.bb 18 2) ?_; refine Cmp.pu HT_ 3 32 (Cmp.bb 18 10) ?_; refine Cmp.pu HT_ 6 35 (Cmp.bb 18 74) ?_; refine Cmp.pu HT_ 7 36 (Cmp.bb 18 202) ?_; refine Cmp.pu HT_ 8 37 (Cmp.bb 18 458) ?_; refine Cmp.pu HT_ 11 40 (Cmp.bb 18 2506) ?_; refine Cmp.pu HT_ 13 42 (Cmp.bb 18 10698) ?_; refine Cmp.tk HT_ HW_ hHeld 2 31 (Cmp.bb 18 10702) ?_; refine Cmp.pu HT_ 4 33 (Cmp.bb 18 10718) ?_; refine Cmp.tk HT_ HW_ hHeld 12 41 (Cmp.bb 18 14814) ?_; refine Cmp.pu HT_ 14 43 (Cmp.bb 18 31198) ?_
         refine join_ (σ := Value × Value × Value) 4 (Cmp.bb 18 31743) (fun s_ => [(29, s_.1), (34, s_.2.1), (38, s_.2.2)]) (fun s_ w' => (w'.cell? ⟨D7, 0, none⟩ = some (.int .i64 a0_0) ∧ w'.cell? ⟨D7, 1, none⟩ = some (.int .i64 a0_1) ∧ w'.cell? ⟨D7, 2, none⟩ = some (.slice A0_2 l0_2.length c0_2)) ∧ (Kd.R k35 35 w' w.heap.size (fun k_ => some k_ ≠ (s_.2.2 : Value).ownBlock ∧ some k_ ≠ (.slice Da D8.length Db : Value).ownBlock) s_.2.1 Du) ∧ (Kd.R k35 35 w' w.heap.size (fun k_ => some k_ ≠ (s_.2.1 : Value).ownBlock ∧ some k_ ≠ (.slice Da D8.length Db : Value).ownBlock) s_.2.2 Dj) ∧ (Kd.R k35 35 w' w.heap.size (fun k_ => some k_ ≠ (s_.2.1 : Value).ownBlock ∧ some k_ ≠ (s_.2.2 : Value).ownBlock) (.slice Da D8.length Db) D8) ∧ (w'.heap[D7]? = some (.cells #[.int .i64 a0_0, .int .i64 a0_1, .slice A0_2 l0_2.length c0_2] 26 (0, 0))) ∧ (w'.heap[Di]? = some (.cells #[.int .i64 0, .int .i64 0, .slice none 0 0] 26 (0, 0))) ∧ (w'.heap[Dd]? = some (.cells #[.int .i64 Dk, .int .i64 Dl, .slice Da D8.length Db] 26 (0, 0))) ∧ (Below w.heap.size w w')) ?_ ?_
         rotate_left
         ·intro hCont
          refine two_ (i := 0) (j := 9) (Ni := some 29) (Nj := some 38) (Cmp.bb 18 31199) (Cmp.bb 18 31710) rfl rfl rfl rfl (two_of HT_.out (by kernel_rfl)) (by decide) (by decide) (fun K hK => ?_) (fun K hK => ?_)
          ·skip
           refine Kd.R_lit_step k35 _ 35 ?hg (N := 29) ?hd (xs := ([] : List (S35))) (inner := []) (ok := fun _ => True) (okp := fun _ => True) ?hr ?hp (fun _ hk => hk) trivial (Below.refl _ _) (Nat.le_refl _) (by simp) ?_; (case hd => rfl); (case hg => rfl); (case hr => first | (go_simp; done) | (go_simp; rfl)); (case hp => exact (Reps.none _ _))
           intro v157 w92 Eb hb hg_ hnew_
           clear hg_ hnew_
           (first | rw [← Dx.out] at Eb | (simp only [Int.reduceToNat] at Eb; rw [← Dx.out] at Eb))
           have n0_ := Aside0.mk (Kd.R_elder' (Cmp.rr D0.out) (Kd.R_base Eb) hb)
           have n1_ := Aside0.mk (Kd.R_lower (Kd.R_new' Eb (Kd.R_lt (Cmp.rr D0.out))) (below_size (Cmp.g HB.out)))
           have n2_ := Cmp.be D1 hb
           have n3_ := Cmp.be D3 hb
           have n4_ := Cmp.be D2 hb
           have n5_ := Aside0.mk (below_step (Cmp.g HB.out) hb)
           clear D0; clear D1; clear D3; clear D2; clear HB; have D0 := n0_; have D5 := n1_; have D1 := n2_; have D3 := n3_; have D2 := n4_; have HB := n5_; clear n0_ n1_ n2_ n3_ n4_ n5_; clear hb Eb
           refine hK.out _ _ ⟨(Cmp.c0 D1 :), (Cmp.c1 D1 :), (Cmp.c2 D1 :)⟩ (fun hHeld => ?_)
           clear hK K
           refine norm_ (a' := ?_) ?_ ?_
           rotate_left
           ·show Act.put _ (some 29) _ = _
            simp only [Act.put, Cmp.s, Cmp.z, Cmp.c, i64_w, i32_w]; rfl
           refine two_ (i := 5) (j := 9) (Ni := some 34) (Nj := some 38) (Cmp.bb 18 31231) (Cmp.bb 18 31711) rfl rfl rfl rfl (two_of HT_.out (by kernel_rfl)) (by decide) (by decide) (fun K hK => ?_) (fun K hK => ?_)
           ·skip
            refine Kd.R_append_rows_step k35 (w0 := w) w.heap.size (by rfl) (.tmp 29) (.tmp 33) 24 35 (.agg #[(.int .i64 0), (.int .i64 0), (.int .i64 0), (.bool false)]) 32 rfl Try.underlying24 info35 rfl (by decide) (by omega) v157 E7 Ds _ _ _ (fun k_ => some k_ ≠ (.slice Da D8.length Db : Value).ownBlock) (fun _ => False) rfl rfl ?aO ?aR (fun _ _ h => h) (fun _ h => h.elim) ?aF ?aB ?aS ?aL ?_
            (case aR => repeat (first | exact (Kd.C_below HR162.out HB.out) | (with_reducible refine Kd.C_alloc ?_ _) | (with_reducible refine Kd.C_drewN ?_ _) | (with_reducible refine Kd.C_drew ?_)))
            (case aB => exact (Cmp.g HB.out))
            (case aF => exact (fun k_ hk => Kd.fresh' (Kd.R_lt (Cmp.rr D0.out)) k_ hk))
            (case aO => exact (by (with_reducible repeat (first | apply Kd.R_alloc | apply Kd.R_drewN | apply Kd.R_drew)); exact Kd.R_mono D5.out (fun _ hk => hk.2)))
            (case aS => exact (below_size (Cmp.g HB.out)))
            (case aL => have := LMc30.out; omega)
            intro v164 w94 ho hb hg hat
            rw [← E8.out] at ho
            have n0_ := Aside0.mk (Kd.R_after (ok := (fun _ => True)) (Cmp.rr D0.out) hg hat)
            have n1_ := Cmp.bg D1 hg (Kd.R_ne D5.out D1.out (by decide))
            have n2_ := Cmp.bg D3 hg (Kd.R_ne D5.out D3.out (by decide))
            have n3_ := Cmp.bg D2 hg (Kd.R_ne D5.out D2.out (by decide))
            have n4_ := Aside0.mk (hb)
            have n5_ := Aside0.mk (ho)
            clear D0; clear D1; clear D3; clear D2; clear HB; clear D5; have D0 := n0_; have D1 := n1_; have D3 := n2_; have D2 := n3_; have HB := n4_; have D6 := n5_; clear n0_ n1_ n2_ n3_ n4_ n5_; clear ho hb hg hat
            refine hK.out _ _ ⟨(Cmp.c0 D1 :), (Cmp.c1 D1 :), (Cmp.c2 D1 :)⟩ (fun hHeld => ?_)
            clear hK K
            refine norm_ (a' := ?_) ?_ ?_
            rotate_left
            ·show Act.put _ (some 34) _ = _
             simp only [Act.put, Cmp.s, Cmp.z, Cmp.c, i64_w, i32_w]; rfl
            refine one_ (i := 9) (N := some 38) (Cmp.bb 18 31743) rfl rfl (one_of HT_.out (by kernel_rfl)) (by decide) (fun K hK => ?_)
            refine Kd.R_lit_step k35 _ 35 ?hg (N := 38) ?hd (xs := ([(⟨a1, a2, 0, false⟩ : S35)] : List (S35))) (inner := [.int .i64 a1, .int .i64 a2, .int .i64 0, .bool false]) (ok := fun _ => True) (okp := fun _ => True) ?hr ?hp (fun _ hk => hk) trivial (Below.refl _ _) (Nat.le_refl _) (by simp) ?_; (case hd => rfl); (case hg => rfl); (case hr => first | (go_simp; done) | (go_simp; rfl)); (case hp => exact (Reps.c4 (show Kd.M k35 _ _ _ (⟨a1, a2, 0, false⟩ : S35) [.int .i64 a1, .int .i64 a2, .int .i64 0, .bool false] from (k35_mkM _ _ _ (⟨a1, a2, 0, false⟩ : S35) )) (Reps.none _ _)))
            intro v167 w95 Ej hb hg_ hnew_
            clear hg_ hnew_
            (first | rw [← Dm.out] at Ej | (simp only [Int.reduceToNat] at Ej; rw [← Dm.out] at Ej))
            have n0_ := Aside0.mk (Kd.R_elder' (Cmp.rr D0.out) (Kd.R_base Ej) hb)
            have n1_ := Aside0.mk (Kd.R_elder' (Cmp.rr D6.out) (Kd.R_base Ej) hb)
            have n2_ := Aside0.mk (Kd.R_lower (Kd.R_new' (Kd.R_new' Ej (Kd.R_lt (Cmp.rr D0.out))) (Kd.R_lt (Cmp.rr D6.out))) (below_size (Cmp.g HB.out)))
            have n3_ := Cmp.be D1 hb
            have n4_ := Cmp.be D3 hb
            have n5_ := Cmp.be D2 hb
            have n6_ := Aside0.mk (below_step (Cmp.g HB.out) hb)
            clear D0; clear D6; clear D1; clear D3; clear D2; clear HB; have D0 := n0_; have D6 := n1_; have D4 := n2_; have D1 := n3_; have D3 := n4_; have D2 := n5_; have HB := n6_; clear n0_ n1_ n2_ n3_ n4_ n5_ n6_; clear hb Ej
            refine hK.out _ _ ⟨(Cmp.c0 D1 :), (Cmp.c1 D1 :), (Cmp.c2 D1 :)⟩ (fun hHeld => ?_)
            clear hK K
            refine norm_ (a' := ?_) ?_ ?_
            rotate_left
            ·show Act.put _ (some 38) _ = _
             simp only [Act.put, Cmp.s, Cmp.z, Cmp.c, i64_w, i32_w]; rfl
            exact norm_ (by simp only [putAll, Act.put, List.setIfInBounds_toArray, List.set_cons_zero, List.set_cons_succ]) (hCont (v157, v164, v167) _ ⟨hHeld, (by (with_reducible repeat (first | apply Kd.R_alloc | apply Kd.R_drewN | apply Kd.R_drew)); exact Kd.R_mono D6.out (fun _ hk => ⟨hk.2, hk.1⟩)), (by (with_reducible repeat (first | apply Kd.R_alloc | apply Kd.R_drewN | apply Kd.R_drew)); exact Kd.R_mono D4.out (fun _ hk => ⟨hk.2, hk.1.2⟩)), (by (with_reducible repeat (first | apply Kd.R_alloc | apply Kd.R_drewN | apply Kd.R_drew)); exact Kd.R_mono D0.out (fun _ hk => ⟨hk.1.2, hk.2⟩)), (Cmp.b D1.out), (Cmp.b D3.out), (Cmp.b D2.out), (Cmp.g HB.out)⟩)
           ·skip
            refine Kd.R_lit_step k35 _ 35 ?hg (N := 38) ?hd (xs := ([(⟨a1, a2, 0, false⟩ : S35)] : List (S35))) (inner := [.int .i64 a1, .int .i64 a2, .int .i64 0, .bool false]) (ok := fun _ => True) (okp := fun _ => True) ?hr ?hp (fun _ hk => hk) trivial (Below.refl _ _) (Nat.le_refl _) (by simp) ?_; (case hd => rfl); (case hg => rfl); (case hr => first | (go_simp; done) | (go_simp; rfl)); (case hp => exact (Reps.c4 (show Kd.M k35 _ _ _ (⟨a1, a2, 0, false⟩ : S35) [.int .i64 a1, .int .i64 a2, .int .i64 0, .bool false] from (k35_mkM _ _ _ (⟨a1, a2, 0, false⟩ : S35) )) (Reps.none _ _)))
            intro v167 w94 E4 hb hg_ hnew_
            clear hg_ hnew_
            (first | rw [← Dm.out] at E4 | (simp only [Int.reduceToNat] at E4; rw [← Dm.out] at E4))
            have n0_ := Aside0.mk (Kd.R_elder' (Cmp.rr D0.out) (Kd.R_base E4) hb)
            have n1_ := Aside0.mk (Kd.R_elder' (Cmp.rr D5.out) (Kd.R_base E4) hb)
            have n2_ := Aside0.mk (Kd.R_lower (Kd.R_new' (Kd.R_new' E4 (Kd.R_lt (Cmp.rr D0.out))) (Kd.R_lt (Cmp.rr D5.out))) (below_size (Cmp.g HB.out)))
            have n3_ := Cmp.be D1 hb
            have n4_ := Cmp.be D3 hb
            have n5_ := Cmp.be D2 hb
            have n6_ := Aside0.mk (below_step (Cmp.g HB.out) hb)
            clear D0; clear D5; clear D1; clear D3; clear D2; clear HB; have D0 := n0_; have D5 := n1_; have D4 := n2_; have D1 := n3_; have D3 := n4_; have D2 := n5_; have HB := n6_; clear n0_ n1_ n2_ n3_ n4_ n5_ n6_; clear hb E4
            refine hK.out _ _ ⟨(Cmp.c0 D1 :), (Cmp.c1 D1 :), (Cmp.c2 D1 :)⟩ (fun hHeld => ?_)
            clear hK K
            refine norm_ (a' := ?_) ?_ ?_
            rotate_left
            ·show Act.put _ (some 38) _ = _
             simp only [Act.put, Cmp.s, Cmp.z, Cmp.c, i64_w, i32_w]; rfl
            refine one_ (i := 5) (N := some 34) (Cmp.bb 18 31743) rfl rfl (one_of HT_.out (by kernel_rfl)) (by decide) (fun K hK => ?_)
            refine Kd.R_append_rows_step k35 (w0 := w) w.heap.size (by rfl) (.tmp 29) (.tmp 33) 24 35 (.agg #[(.int .i64 0), (.int .i64 0), (.int .i64 0), (.bool false)]) 32 rfl Try.underlying24 info35 rfl (by decide) (by omega) v157 E7 Ds _ _ _ (fun k_ => some k_ ≠ (.slice Da D8.length Db : Value).ownBlock ∧ some k_ ≠ (v167 : Value).ownBlock) (fun _ => False) rfl rfl ?aO ?aR (fun _ _ h => h) (fun _ h => h.elim) ?aF ?aB ?aS ?aL ?_
            (case aR => repeat (first | exact (Kd.C_below HR162.out HB.out) | (with_reducible refine Kd.C_alloc ?_ _) | (with_reducible refine Kd.C_drewN ?_ _) | (with_reducible refine Kd.C_drew ?_)))
            (case aB => exact (Cmp.g HB.out))
            (case aF => exact (fun k_ hk => ⟨Kd.fresh' (Kd.R_lt (Cmp.rr D0.out)) k_ hk, Kd.fresh' (Kd.R_lt (Cmp.rr D4.out)) k_ hk⟩))
            (case aO => exact (by (with_reducible repeat (first | apply Kd.R_alloc | apply Kd.R_drewN | apply Kd.R_drew)); exact Kd.R_mono D5.out (fun _ hk => ⟨hk.1.2, hk.2⟩)))
            (case aS => exact (below_size (Cmp.g HB.out)))
            (case aL => have := LMc30.out; omega)
            intro v164 w96 ho hb hg hat
            rw [← E8.out] at ho
            have n0_ := Aside0.mk (Kd.R_after (ok := (fun k_ => some k_ ≠ (v167 : Value).ownBlock)) (by (with_reducible repeat (first | apply Kd.R_alloc | apply Kd.R_drewN | apply Kd.R_drew)); exact Kd.R_mono D0.out (fun _ hk => ⟨hk.2, hk.1.2⟩)) hg hat)
            have n1_ := Cmp.bg D1 hg (Kd.R_ne D5.out D1.out (by decide))
            have n2_ := Cmp.bg D3 hg (Kd.R_ne D5.out D3.out (by decide))
            have n3_ := Cmp.bg D2 hg (Kd.R_ne D5.out D2.out (by decide))
            have n4_ := Aside0.mk (Kd.R_after (ok := (fun k_ => some k_ ≠ (.slice Da D8.length Db : Value).ownBlock)) (by (with_reducible repeat (first | apply Kd.R_alloc | apply Kd.R_drewN | apply Kd.R_drew)); exact Kd.R_mono D4.out (fun _ hk => ⟨hk.1.2, hk.2⟩)) hg hat)
            have n5_ := Aside0.mk (hb)
            have n6_ := Aside0.mk (ho)
            clear D0; clear D1; clear D3; clear D2; clear D4; clear HB; clear D5; have D0 := n0_; have D1 := n1_; have D3 := n2_; have D2 := n3_; have D4 := n4_; have HB := n5_; have D6 := n6_; clear n0_ n1_ n2_ n3_ n4_ n5_ n6_; clear ho hb hg hat
            refine hK.out _ _ ⟨(Cmp.c0 D1 :), (Cmp.c1 D1 :), (Cmp.c2 D1 :)⟩ (fun hHeld => ?_)
            clear hK K
            refine norm_ (a' := ?_) ?_ ?_
            rotate_left
            ·show Act.put _ (some 34) _ = _
             simp only [Act.put, Cmp.s, Cmp.z, Cmp.c, i64_w, i32_w]; rfl
            exact norm_ (by simp only [putAll, Act.put, List.setIfInBounds_toArray, List.set_cons_zero, List.set_cons_succ]) (hCont (v157, v164, v167) _ ⟨hHeld, (by (with_reducible repeat (first | apply Kd.R_alloc | apply Kd.R_drewN | apply Kd.R_drew)); exact Kd.R_mono D6.out (fun _ hk => ⟨hk.2, hk.1⟩)), (by (with_reducible repeat (first | apply Kd.R_alloc | apply Kd.R_drewN | apply Kd.R_drew)); exact Kd.R_mono D4.out (fun _ hk => ⟨hk.2, hk.1⟩)), (by (with_reducible repeat (first | apply Kd.R_alloc | apply Kd.R_drewN | apply Kd.R_drew)); exact Kd.R_mono D0.out (fun _ hk => ⟨hk.2, hk.1⟩)), (Cmp.b D1.out), (Cmp.b D3.out), (Cmp.b D2.out), (Cmp.g HB.out)⟩)
          ·skip
           refine Kd.R_lit_step k35 _ 35 ?hg (N := 38) ?hd (xs := ([(⟨a1, a2, 0, false⟩ : S35)] : List (S35))) (inner := [.int .i64 a1, .int .i64 a2, .int .i64 0, .bool false]) (ok := fun _ => True) (okp := fun _ => True) ?hr ?hp (fun _ hk => hk) trivial (Below.refl _ _) (Nat.le_refl _) (by simp) ?_; (case hd => rfl); (case hg => rfl); (case hr => first | (go_simp; done) | (go_simp; rfl)); (case hp => exact (Reps.c4 (show Kd.M k35 _ _ _ (⟨a1, a2, 0, false⟩ : S35) [.int .i64 a1, .int .i64 a2, .int .i64 0, .bool false] from (k35_mkM _ _ _ (⟨a1, a2, 0, false⟩ : S35) )) (Reps.none _ _)))
           intro v167 w92 Eb hb hg_ hnew_
           clear hg_ hnew_
           (first | rw [← Dm.out] at Eb | (simp only [Int.reduceToNat] at Eb; rw [← Dm.out] at Eb))
           have n0_ := Aside0.mk (Kd.R_elder' (Cmp.rr D0.out) (Kd.R_base Eb) hb)
           have n1_ := Aside0.mk (Kd.R_lower (Kd.R_new' Eb (Kd.R_lt (Cmp.rr D0.out))) (below_size (Cmp.g HB.out)))
           have n2_ := Cmp.be D1 hb
           have n3_ := Cmp.be D3 hb
           have n4_ := Cmp.be D2 hb
           have n5_ := Aside0.mk (below_step (Cmp.g HB.out) hb)
           clear D0; clear D1; clear D3; clear D2; clear HB; have D0 := n0_; have D4 := n1_; have D1 := n2_; have D3 := n3_; have D2 := n4_; have HB := n5_; clear n0_ n1_ n2_ n3_ n4_ n5_; clear hb Eb
           refine hK.out _ _ ⟨(Cmp.c0 D1 :), (Cmp.c1 D1 :), (Cmp.c2 D1 :)⟩ (fun hHeld => ?_)
           clear hK K
           refine norm_ (a' := ?_) ?_ ?_
           rotate_left
           ·show Act.put _ (some 38) _ = _
            simp only [Act.put, Cmp.s, Cmp.z, Cmp.c, i64_w, i32_w]; rfl
           refine one_ (i := 0) (N := some 29) (Cmp.bb 18 31711) rfl rfl (one_of HT_.out (by kernel_rfl)) (by decide) (fun K hK => ?_)
           refine Kd.R_lit_step k35 _ 35 ?hg (N := 29) ?hd (xs := ([] : List (S35))) (inner := []) (ok := fun _ => True) (okp := fun _ => True) ?hr ?hp (fun _ hk => hk) trivial (Below.refl _ _) (Nat.le_refl _) (by simp) ?_; (case hd => rfl); (case hg => rfl); (case hr => first | (go_simp; done) | (go_simp; rfl)); (case hp => exact (Reps.none _ _))
           intro v157 w94 E4 hb hg_ hnew_
           clear hg_ hnew_
           (first | rw [← Dx.out] at E4 | (simp only [Int.reduceToNat] at E4; rw [← Dx.out] at E4))
           have n0_ := Aside0.mk (Kd.R_elder' (Cmp.rr D0.out) (Kd.R_base E4) hb)
           have n1_ := Aside0.mk (Kd.R_elder' (Cmp.rr D4.out) (Kd.R_base E4) hb)
           have n2_ := Aside0.mk (Kd.R_lower (Kd.R_new' (Kd.R_new' E4 (Kd.R_lt (Cmp.rr D0.out))) (Kd.R_lt (Cmp.rr D4.out))) (below_size (Cmp.g HB.out)))
           have n3_ := Cmp.be D1 hb
           have n4_ := Cmp.be D3 hb
           have n5_ := Cmp.be D2 hb
           have n6_ := Aside0.mk (below_step (Cmp.g HB.out) hb)
           clear D0; clear D4; clear D1; clear D3; clear D2; clear HB; have D0 := n0_; have D4 := n1_; have D5 := n2_; have D1 := n3_; have D3 := n4_; have D2 := n5_; have HB := n6_; clear n0_ n1_ n2_ n3_ n4_ n5_ n6_; clear hb E4
           refine hK.out _ _ ⟨(Cmp.c0 D1 :), (Cmp.c1 D1 :), (Cmp.c2 D1 :)⟩ (fun hHeld => ?_)
           clear hK K
           refine norm_ (a' := ?_) ?_ ?_
           rotate_left
           ·show Act.put _ (some 29) _ = _
            simp only [Act.put, Cmp.s, Cmp.z, Cmp.c, i64_w, i32_w]; rfl
           refine one_ (i := 5) (N := some 34) (Cmp.bb 18 31743) rfl rfl (one_of HT_.out (by kernel_rfl)) (by decide) (fun K hK => ?_)
           refine Kd.R_append_rows_step k35 (w0 := w) w.heap.size (by rfl) (.tmp 29) (.tmp 33) 24 35 (.agg #[(.int .i64 0), (.int .i64 0), (.int .i64 0), (.bool false)]) 32 rfl Try.underlying24 info35 rfl (by decide) (by omega) v157 E7 Ds _ _ _ (fun k_ => some k_ ≠ (.slice Da D8.length Db : Value).ownBlock ∧ some k_ ≠ (v167 : Value).ownBlock) (fun _ => False) rfl rfl ?aO ?aR (fun _ _ h => h) (fun _ h => h.elim) ?aF ?aB ?aS ?aL ?_
           (case aR => repeat (first | exact (Kd.C_below HR162.out HB.out) | (with_reducible refine Kd.C_alloc ?_ _) | (with_reducible refine Kd.C_drewN ?_ _) | (with_reducible refine Kd.C_drew ?_)))
           (case aB => exact (Cmp.g HB.out))
           (case aF => exact (fun k_ hk => ⟨Kd.fresh' (Kd.R_lt (Cmp.rr D0.out)) k_ hk, Kd.fresh' (Kd.R_lt (Cmp.rr D4.out)) k_ hk⟩))
           (case aO => exact (by (with_reducible repeat (first | apply Kd.R_alloc | apply Kd.R_drewN | apply Kd.R_drew)); exact Kd.R_mono D5.out (fun _ hk => ⟨hk.1.2, hk.2⟩)))
           (case aS => exact (below_size (Cmp.g HB.out)))
           (case aL => have := LMc30.out; omega)
           intro v164 w96 ho hb hg hat
           rw [← E8.out] at ho
           have n0_ := Aside0.mk (Kd.R_after (ok := (fun k_ => some k_ ≠ (v167 : Value).ownBlock)) (by (with_reducible repeat (first | apply Kd.R_alloc | apply Kd.R_drewN | apply Kd.R_drew)); exact Kd.R_mono D0.out (fun _ hk => ⟨hk.1.2, hk.2⟩)) hg hat)
           have n1_ := Cmp.bg D1 hg (Kd.R_ne D5.out D1.out (by decide))
           have n2_ := Cmp.bg D3 hg (Kd.R_ne D5.out D3.out (by decide))
           have n3_ := Cmp.bg D2 hg (Kd.R_ne D5.out D2.out (by decide))
           have n4_ := Aside0.mk (Kd.R_after (ok := (fun k_ => some k_ ≠ (.slice Da D8.length Db : Value).ownBlock)) (by (with_reducible repeat (first | apply Kd.R_alloc | apply Kd.R_drewN | apply Kd.R_drew)); exact Kd.R_mono D4.out (fun _ hk => ⟨hk.1.2, hk.2⟩)) hg hat)
           have n5_ := Aside0.mk (hb)
           have n6_ := Aside0.mk (ho)
           clear D0; clear D1; clear D3; clear D2; clear D4; clear HB; clear D5; have D0 := n0_; have D1 := n1_; have D3 := n2_; have D2 := n3_; have D4 := n4_; have HB := n5_; have D6 := n6_; clear n0_ n1_ n2_ n3_ n4_ n5_ n6_; clear ho hb hg hat
           refine hK.out _ _ ⟨(Cmp.c0 D1 :), (Cmp.c1 D1 :), (Cmp.c2 D1 :)⟩ (fun hHeld => ?_)
           clear hK K
           refine norm_ (a' := ?_) ?_ ?_
           rotate_left
           ·show Act.put _ (some 34) _ = _
            simp only [Act.put, Cmp.s, Cmp.z, Cmp.c, i64_w, i32_w]; rfl
           exact norm_ (by simp only [putAll, Act.put, List.setIfInBounds_toArray, List.set_cons_zero, List.set_cons_succ]) (hCont (v157, v164, v167) _ ⟨hHeld, (by (with_reducible repeat (first | apply Kd.R_alloc | apply Kd.R_drewN | apply Kd.R_drew)); exact Kd.R_mono D6.out (fun _ hk => ⟨hk.2, hk.1⟩)), (by (with_reducible repeat (first | apply Kd.R_alloc | apply Kd.R_drewN | apply Kd.R_drew)); exact Kd.R_mono D4.out (fun _ hk => ⟨hk.2, hk.1⟩)), (by (with_reducible repeat (first | apply Kd.R_alloc | apply Kd.R_drewN | apply Kd.R_drew)); exact Kd.R_mono D0.out (fun _ hk => ⟨hk.2, hk.1⟩)), (Cmp.b D1.out), (Cmp.b D3.out), (Cmp.b D2.out), (Cmp.g HB.out)⟩)
         rintro ⟨v157, v164, v167⟩ w97 ⟨hS_, h0_, h1_, h2_, h3_, h4_, h5_, h6_⟩
         have n0_ : Aside0 (Kd.R k35 35 w97 w.heap.size (fun k_ => some k_ ≠ (v167 : Value).ownBlock ∧ some k_ ≠ (.slice Da D8.length Db : Value).ownBlock) v164 Du) := ⟨h0_⟩
         have n1_ : Aside0 (Kd.R k35 35 w97 w.heap.size (fun k_ => some k_ ≠ (v164 : Value).ownBlock ∧ some k_ ≠ (.slice Da D8.length Db : Value).ownBlock) v167 Dj) := ⟨h1_⟩
         have n2_ : Aside0 (Kd.R k35 35 w97 w.heap.size (fun k_ => some k_ ≠ (v164 : Value).ownBlock ∧ some k_ ≠ (v167 : Value).ownBlock) (.slice Da D8.length Db) D8) := ⟨h2_⟩
         have n3_ : Aside0 (w97.heap[D7]? = some (.cells #[.int .i64 a0_0, .int .i64 a0_1, .slice A0_2 l0_2.length c0_2] 26 (0, 0))) := ⟨h3_⟩
         have n4_ : Aside0 (w97.heap[Di]? = some (.cells #[.int .i64 0, .int .i64 0, .slice none 0 0] 26 (0, 0))) := ⟨h4_⟩
         have n5_ : Aside0 (w97.heap[Dd]? = some (.cells #[.int .i64 Dk, .int .i64 Dl, .slice Da D8.length Db] 26 (0, 0))) := ⟨h5_⟩
         have n6_ : Aside0 (Below w.heap.size w w97) := ⟨h6_⟩
         clear D0; clear D1; clear D3; clear D2; clear HB; clear h0_ h1_ h2_ h3_ h4_ h5_ h6_; have D6 := n0_; have D4 := n1_; have D0 := n2_; have D1 := n3_; have D3 := n4_; have D2 := n5_; have HB := n6_; clear n0_ n1_ n2_ n3_ n4_ n5_ n6_
         have hHeld : w97.cell? ⟨D7, 0, none⟩ = some (.int .i64 a0_0) ∧ w97.cell? ⟨D7, 1, none⟩ = some (.int .i64 a0_1) ∧ w97.cell? ⟨D7, 2, none⟩ = some (.slice A0_2 l0_2.length c0_2) := hS_
         obtain ⟨Fa, Fe, Gy⟩ := Kd.R_slice D4.out
         (first | subst Gy | (injection Gy with f1_ f2_ f3_; have f4_ := f1_.symm; have f5_ := f3_.symm; clear f1_ f2_ f3_; subst f4_; subst f5_))
         refine norm_ (a' := ?_) ?_ ?_
         rotate_left
         ·simp only [putAll, Act.put, List.setIfInBounds_toArray, List.set_cons_zero, List.set_cons_succ]; rfl
         refine one_ (i := 10) (N := some 39) (Cmp.bm 15 3) rfl rfl (one_of HT_.out (by kernel_rfl)) (by decide) (fun K hK => ?_)
         refine Kd.R_append_rows_step k35 (w0 := w) w.heap.size (by rfl) (.tmp 34) (.tmp 38) 24 35 (.agg #[(.int .i64 0), (.int .i64 0), (.int .i64 0), (.bool false)]) 32 rfl Try.underlying24 info35 rfl (by decide) (by omega) v164 Du Dj _ _ _ (fun k_ => some k_ ≠ (.slice Da D8.length Db : Value).ownBlock ∧ some k_ ≠ (.slice Fa Dj.length Fe : Value).ownBlock) (fun _ => False) rfl rfl ?aO ?aR (fun _ _ h => h) (fun _ h => h.elim) ?aF ?aB ?aS ?aL ?_
         (case aR => repeat (first | exact (Kd.R_reads' D4.out).2.2 | (with_reducible refine Kd.C_alloc ?_ _) | (with_reducible refine Kd.C_drewN ?_ _) | (with_reducible refine Kd.C_drew ?_)))
         (case aB => exact (Cmp.g HB.out))
         (case aF => exact (fun k_ hk => ⟨Kd.fresh' (Kd.R_lt (Cmp.rr D0.out)) k_ hk, Kd.fresh' (Kd.R_lt (Cmp.rr D4.out)) k_ hk⟩))
         (case aO => exact (by (with_reducible repeat (first | apply Kd.R_alloc | apply Kd.R_drewN | apply Kd.R_drew)); exact Kd.R_mono D6.out (fun _ hk => ⟨hk.2, hk.1⟩)))
         (case aS => exact (below_size (Cmp.g HB.out)))
         (case aL => have := LMc31.out; omega)
         intro v170 w98 ho hb hg hat
         rw [← Ez.out] at ho
         have n0_ := Aside0.mk (Kd.R_after (ok := (fun k_ => some k_ ≠ (.slice Fa Dj.length Fe : Value).ownBlock)) (by (with_reducible repeat (first | apply Kd.R_alloc | apply Kd.R_drewN | apply Kd.R_drew)); exact Kd.R_mono D0.out (fun _ hk => ⟨hk.2, hk.1⟩)) hg hat)
         have n1_ := Cmp.bg D1 hg (Kd.R_ne D6.out D1.out (by decide))
         have n2_ := Cmp.bg D3 hg (Kd.R_ne D6.out D3.out (by decide))
         have n3_ := Cmp.bg D2 hg (Kd.R_ne D6.out D2.out (by decide))
         have n4_ := Aside0.mk (Kd.R_after (ok := (fun k_ => some k_ ≠ (.slice Da D8.length Db : Value).ownBlock)) (by (with_reducible repeat (first | apply Kd.R_alloc | apply Kd.R_drewN | apply Kd.R_drew)); exact Kd.R_mono D4.out (fun _ hk => ⟨hk.2, hk.1⟩)) hg hat)
         have n5_ := Aside0.mk (hb)
         have n6_ := Aside0.mk (ho)
         clear D0; clear D1; clear D3; clear D2; clear D4; clear HB; clear D6; have D0 := n0_; have D1 := n1_; have D3 := n2_; have D2 := n3_; have D4 := n4_; have HB := n5_; have Dr := n6_; clear n0_ n1_ n2_ n3_ n4_ n5_ n6_; clear ho hb hg hat
         refine hK.out _ _ ⟨(Cmp.c0 D1 :), (Cmp.c1 D1 :), (Cmp.c2 D1 :)⟩ (fun hHeld => ?_)
         clear hK K
         refine norm_ (a' := ?_) ?_ ?_
         rotate_left
         ·show Act.put _ (some 39) _ = _
          simp only [Act.put, Cmp.s, Cmp.z, Cmp.c, i64_w, i32_w]; rfl
         refine one_ (i := 15) (N := some 44) (Cmp.bm 16 2) rfl rfl (one_of HT_.out (by kernel_rfl)) (by decide) (fun K hK => ?_)
         refine Kd.R_append_rows_step k35 (w0 := w) w.heap.size (by rfl) (.tmp 39) (.tmp 43) 24 35 (.agg #[(.int .i64 0), (.int .i64 0), (.int .i64 0), (.bool false)]) 32 rfl Try.underlying24 info35 rfl (by decide) (by omega) v170 Dv Dg _ _ _ (fun k_ => some k_ ≠ (.slice Da D8.length Db : Value).ownBlock ∧ some k_ ≠ (.slice Fa Dj.length Fe : Value).ownBlock) (fun _ => False) rfl rfl ?aO ?aR (fun _ _ h => h) (fun _ h => h.elim) ?aF ?aB ?aS ?aL ?_
         (case aR => repeat (first | exact (Kd.C_below HR175.out HB.out) | (with_reducible refine Kd.C_alloc ?_ _) | (with_reducible refine Kd.C_drewN ?_ _) | (with_reducible refine Kd.C_drew ?_)))
         (case aB => exact (Cmp.g HB.out))
         (case aF => exact (fun k_ hk => ⟨Kd.fresh' (Kd.R_lt (Cmp.rr D0.out)) k_ hk, Kd.fresh' (Kd.R_lt (Cmp.rr D4.out)) k_ hk⟩))
         (case aO => exact (Cmp.rr Dr.out))
         (case aS => exact (below_size (Cmp.g HB.out)))
         (case aL => have := LMc34.out; omega)
         intro v177 w100 ho hb hg hat
         rw [← F0.out] at ho
         have n0_ := Aside0.mk (Kd.R_after (ok := (fun k_ => some k_ ≠ (.slice Fa Dj.length Fe : Value).ownBlock)) (Cmp.rr D0.out) hg hat)
         have n1_ := Cmp.bg D1 hg (Kd.R_ne Dr.out D1.out (by decide))
         have n2_ := Cmp.bg D3 hg (Kd.R_ne Dr.out D3.out (by decide))
         have n3_ := Cmp.bg D2 hg (Kd.R_ne Dr.out D2.out (by decide))
         have n4_ := Aside0.mk (Kd.R_after (ok := (fun k_ => some k_ ≠ (.slice Da D8.length Db : Value).ownBlock)) (Cmp.rr D4.out) hg hat)
         have n5_ := Aside0.mk (hb)
         have n6_ := Aside0.mk (ho)
         clear D0; clear D1; clear D3; clear D2; clear D4; clear HB; clear Dr; have D0 := n0_; have D1 := n1_; have D3 := n2_; have D2 := n3_; have D4 := n4_; have HB := n5_; have De := n6_; clear n0_ n1_ n2_ n3_ n4_ n5_ n6_; clear ho hb hg hat
         obtain ⟨Ek, Em, G3⟩ := Kd.R_slice De.out
         (first | subst G3 | (injection G3 with f1_ f2_ f3_; have f4_ := f1_.symm; have f5_ := f3_.symm; clear f1_ f2_ f3_; subst f4_; subst f5_))
         refine hK.out _ _ ⟨(Cmp.c0 D1 :), (Cmp.c1 D1 :), (Cmp.c2 D1 :)⟩ (fun hHeld => ?_)
         clear hK K
         refine norm_ (a' := ?_) ?_ ?_
         rotate_left
         ·show Act.put _ (some 44) _ = _
          simp only [Act.put, Cmp.s, Cmp.z, Cmp.c, i64_w, i32_w]; rfl
         refine Cmp.pu HT_ 16 45 (Cmp.bm 17 1) ?_
         refine one_ (i := 17) (N := none) (Cmp.bm 18 0) rfl rfl (one_of HT_.out (by kernel_rfl)) (by decide) (fun K hK => ?_)
         have hs102 : w100.cell? ⟨Dd, 2, none⟩ = some (.slice Da D8.length Db) := (blk_cell D2.out 2).trans rfl
         have hfs102 := blk_frozen D2.out 2; have hns102_0 := D9.out; have hns102_1 := Dp.out; have hms102_0 := Df.out; have hms102_1 := Dq.out
         refine skip_ (w1 := ?_) (by rfl) rfl ?_ ?_
         rotate_left
         ·go_simp; rfl
         refine hK.out _ _ ⟨((cell_far (p := ⟨Dd, _, none⟩) D9.out _).trans (hHeld.1)), ((cell_far (p := ⟨Dd, _, none⟩) D9.out _).trans (hHeld.2.1)), ((cell_far (p := ⟨Dd, _, none⟩) D9.out _).trans (hHeld.2.2))⟩ (fun hHeld => ?_)
         clear hK K
         refine done_ (done_of HT_.out (by kernel_rfl)) ?_
         have L3 := Dn.out; have L6 := Do.out; have L4 := D9.out; have L7 := Df.out
         have J5 := Cmp.c0 D1
         have J6 := Cmp.c1 D1
         have J7 := Cmp.c2 D1
         have Je := blk_frozen D1.out 0; have Jf := blk_frozen D1.out 1; have Jg := blk_frozen D1.out 2
         try go_wp2_with (first | ((with_reducible refine gate_callee (f := 58) rfl ?_); refine goesL_ (some 47) rfl rfl Try.func58 (by kernel_rfl) rfl #[.agg #[.int .i64 a0_0, .int .i64 a0_1, .slice A0_2 l0_2.length c0_2]] rfl Cmp.q ?_; (with_reducible refine (spec_IsValidAccount.calls kj4 a0_0 a0_1 _ _ l0_2 false _ ?side1 ?side2 L0.out).mono ?_); (case side1 => exact Kd.C_below Dt.out (Cmp.g HB.out)); (case side2 => exact HC0_2.out); rintro e w106 ⟨rfl, hb⟩; refine ⟨_, rfl, ?_⟩; replace D0 := Aside0.mk (Kd.R_below (by (with_reducible repeat (first | apply Kd.R_alloc | apply Kd.R_drewN | apply Kd.R_drew)); exact (Kd.R_mono (Kd.R_far (p := ⟨Dd, 2, none⟩) (Kd.R_types D0.out D2.out (by decide)) (fun _ hk => hk.2) (.slice Ek Dh.length Em)) (fun _ h_ => h_.1))) hb); replace D4 := Aside0.mk (Kd.R_below (by (with_reducible repeat (first | apply Kd.R_alloc | apply Kd.R_drewN | apply Kd.R_drew)); exact (Kd.R_mono (Kd.R_far (p := ⟨Dd, 2, none⟩) (Kd.R_types D4.out D2.out (by decide)) (fun _ hk => hk.2) (.slice Ek Dh.length Em)) (fun _ h_ => h_.1))) hb); replace De := Aside0.mk (Kd.R_below (by (with_reducible repeat (first | apply Kd.R_alloc | apply Kd.R_drewN | apply Kd.R_drew)); exact (Kd.R_mono (Kd.R_far (p := ⟨Dd, 2, none⟩) (Kd.R_types De.out D2.out (by decide)) (fun _ hk => hk.2) (.slice Ek Dh.length Em)) (fun _ h_ => h_.1))) hb); replace D1 := Aside0.mk (blk_below (g := D7) (o := .cells #[.int .i64 a0_0, .int .i64 a0_1, .slice A0_2 l0_2.length c0_2] 26 (0, 0)) (Cmp.bw D1.out) hb); replace D3 := Aside0.mk (blk_below (g := Di) (o := .cells #[.int .i64 0, .int .i64 0, .slice none 0 0] 26 (0, 0)) (Cmp.bw D3.out) hb); replace D2 := Aside0.mk (blk_below (g := Dd) (o := .cells #[.int .i64 Dk, .int .i64 Dl, .slice Ek Dh.length Em] 26 (0, 0)) (Cmp.bw D2.out) hb); replace HB := Cmp.bs HB hb; (try clear hb); (try clear hb2); (try clear hk); (try clear hi); have J8 := Cmp.c0 D1; have J9 := Cmp.c1 D1; have Ja := Cmp.c2 D1; have Jh := blk_frozen D1.out 0; have Ji := blk_frozen D1.out 1; have Jj := blk_frozen D1.out 2) | ((with_reducible refine gate_callee (f := 57) rfl ?_); refine goesL_ (some 55) rfl rfl Try.func57 (by kernel_rfl) rfl #[.agg #[.int .i64 a0_0, .int .i64 a0_1, .slice A0_2 l0_2.length c0_2]] rfl Cmp.q ?_; (with_reducible refine (spec_l14Copy.calls a0_0 a0_1 _ _ l0_2 Gj Gk Gl _ ?side1 ?side2 Mc.out).mono ?_); (case side1 => exact Cmp.rc (Kd.C_below Dt.out HB.out)); (case side2 => exact HC0_2.out); rintro e w108 ⟨v189, rfl, Et, hb⟩; refine ⟨_, rfl, ?_⟩; have G1 := Aside0.mk (Kd.R_lower (Kd.R_new' (Kd.R_new' (Kd.R_new' Et (Kd.R_lt (Cmp.rr D0.out))) (Kd.R_lt (Cmp.rr D4.out))) (Kd.R_lt (Cmp.rr De.out))) (below_size (Cmp.g HB.out))); replace D0 := Aside0.mk (Kd.R_elder' (Cmp.rr D0.out) (Kd.R_base Et) hb); replace D4 := Aside0.mk (Kd.R_elder' (Cmp.rr D4.out) (Kd.R_base Et) hb); replace De := Aside0.mk (Kd.R_elder' (Cmp.rr De.out) (Kd.R_base Et) hb); replace D1 := Cmp.be D1 hb; replace D3 := Cmp.be D3 hb; replace D2 := Cmp.be D2 hb; replace HB := Cmp.bs HB hb; (try clear hb); (try clear hb2); (try clear hk); (try clear hi); (try clear Et); have L5 := Dp.out; have L8 := Dq.out; have Jb := Cmp.c0 D3; have Jc := Cmp.c1 D3; have Jd := Cmp.c2 D3; have Jk := blk_frozen D3.out 0; have Jl := blk_frozen D3.out 1; have Jm := blk_frozen D3.out 2; obtain ⟨Fx, G2, Gt⟩ := Kd.R_slice G1.out; subst Gt))
         refine bodyPost_ret (results_ct rfl _ _ Di 26 #[.int .i64 Gj, .int .i64 Gk, .slice Fx Gl.length G2] (0, 0) _ rfl (Cmp.bw D3.out) Try.underlying26 rfl (by kernel_rfl)) rfl ?_
         exact ⟨_, by first | rfl | (simp [errW_none, errW_some] <;> rfl) | (simp [*, errW_none, errW_some] <;> rfl), by (with_reducible repeat (first | apply Kd.R_alloc | apply Kd.R_drewN | apply Kd.R_drew)); exact Kd.R_mono (Kd.R_far (p := ⟨Di, 2, none⟩) (Kd.R_far (p := ⟨Di, 1, none⟩) (Kd.R_far (p := ⟨Di, 0, none⟩) (Kd.R_types G1.out D3.out (by decide)) (fun _ hk => hk.2) (.int .i64 Gj)) (fun _ hk => hk.2) (.int .i64 Gk)) (fun _ hk => hk.2) (.slice Fx Gl.length G2)) (fun _ hk => trivial), Cmp.g HB.out⟩
       ·rw [if_neg c34] at H; exact absurd H (by simp)
      ·rw [if_neg c31] at H; exact absurd H (by simp)
     ·rw [if_neg c30] at H; exact absurd H (by simp)
    ·rw [if_neg c29] at H; exact absurd H (by simp)
   ·rw [if_neg c28] at H; exact absurd H (by simp)

end Go.Proofs.Ytgcipecdaimjfaa.PFnCredentials
