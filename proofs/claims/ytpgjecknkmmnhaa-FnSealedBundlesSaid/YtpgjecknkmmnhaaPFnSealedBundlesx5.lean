/- Printed functions of the program, out of print.sh, told more shortly. No condition. -/
import Derived.Test.YtpgjecknkmmnhaaCmp
import Derived.Test.YtpgjecknkmmnhaaPFnSealedBundlesx0
import Derived.Test.YtpgjecknkmmnhaaPFnSealedBundlesx2
import Derived.Test.YtpgjecknkmmnhaaPFnSealedBundlesx4
namespace Go.Proofs.Ytpgjecknkmmnhaa.PFnSealedBundles
open Go.Proofs.Ytpgjecknkmmnhaa
open Go.RowKit Go.Proofs.YtpgjecknkmmnhaaW.PrintWords Go.Proofs.YtpgjecknkmmnhaaW.PrintLast Go.Proofs.YtpgjecknkmmnhaaW.PrintMore
attribute [local go_sem] max2_int min2_int max_two min_two max_three min_three max_four min_four   -- for this text's walks alone
set_option linter.unusedVariables false
set_option linter.unusedSimpArgs false
/-! ### spec_l17Set: function 133 -/
def spec_l17Set.l0 : Nat → Int → List (S94) → Int → Int → Int → Bool → Option ((List (S94)))
  | 0, _, _, _, _, _, _ => none
  | k + 1, x7, x157000, x158000, x158001, x158002, x158003 => if x7 < (x157000.length : Int) then (if 0 ≤ x7 then ((spec_l17Less.f ((rd_T94 x157000 x7).f0) ((rd_T94 x157000 x7).f1) ((rd_T94 x157000 x7).f2) ((rd_T94 x157000 x7).f3) x158000 x158001).bind fun t166 => (if t166 = true then (spec_l17Set.l0 k (wrap64 (x7 + 1)) x157000 x158000 x158001 x158002 x158003) else ((some (([] : List (S94)) : List (S94))).bind fun y167 => (if x7 ≤ (x157000.length : Int) then ((some (x157000.take (x7 : Int).toNat : List (S94))).bind fun y170 => (if y167.length + y170.length < 4398046511104 then ((some (y167 ++ y170 : List (S94))).bind fun y174 => ((some (([(⟨x158000, x158001, x158002, x158003⟩ : S94)] : List (S94)) : List (S94))).bind fun y177 => (if y174.length + y177.length < 4398046511104 then ((some (y174 ++ y177 : List (S94))).bind fun y180 => ((some (x157000.drop (x7 : Int).toNat : List (S94))).bind fun y183 => (if y180.length + y183.length < 4398046511104 then (some (y180 ++ y183)) else (none)))) else (none)))) else (none))) else (none))))) else (none)) else ((some (([] : List (S94)) : List (S94))).bind fun y190 => (if 0 ≤ x7 then (if x7 ≤ (x157000.length : Int) then ((some (x157000.take (x7 : Int).toNat : List (S94))).bind fun y193 => (if y190.length + y193.length < 4398046511104 then ((some (y190 ++ y193 : List (S94))).bind fun y197 => ((some (([(⟨x158000, x158001, x158002, x158003⟩ : S94)] : List (S94)) : List (S94))).bind fun y200 => (if y197.length + y200.length < 4398046511104 then ((some (y197 ++ y200 : List (S94))).bind fun y203 => ((some (x157000.drop (x7 : Int).toNat : List (S94))).bind fun y206 => (if y203.length + y206.length < 4398046511104 then (some (y203 ++ y206)) else (none)))) else (none)))) else (none))) else (none)) else (none)))
def spec_l17Set.f (k : Nat) (l0_0 : List (S94)) (a1_0 : Int) (a1_1 : Int) (a1_2 : Int) (a1_3 : Bool) : Option ((List (S94))) := (spec_l17Copy.f l0_0).bind fun t159 => ((spec_FindEntry.f k l0_0 a1_0 a1_1).bind fun t163 => (if t163 ≥ 0 then (if 0 ≤ t163 then (if t163 < (t159.length : Int) then (some (t159.set (t163 : Int).toNat (⟨a1_0, a1_1, a1_2, a1_3⟩ : S94))) else (none)) else (none)) else (spec_l17Set.l0 k 0 l0_0 a1_0 a1_1 a1_2 a1_3)))
theorem spec_l17Set.mono_l : ∀ k, (∀ y0 y1 y2 y3 y4 y5, LeO (spec_l17Set.l0 k y0 y1 y2 y3 y4 y5) (spec_l17Set.l0 (k + 1) y0 y1 y2 y3 y4 y5))
 | 0 => fun _ _ _ _ _ _ r h => by simp [spec_l17Set.l0] at h
 | k + 1 => by
    have ih0 := spec_l17Set.mono_l k
    · intro y0 y1 y2 y3 y4 y5
      unfold spec_l17Set.l0
      repeat' first
 | (with_reducible exact ih0 _ _ _ _ _ _)
 | (with_reducible exact spec_FindEntry.mono _ _ _ _)
 | (with_reducible exact LeO.refl _)
 | (with_reducible exact LeO.none _)
 | (with_reducible refine LeO.ite ?_ ?_)
 | (with_reducible refine LeO.bind ?_ (fun _ => ?_))
theorem spec_l17Set.mono : ∀ a0 a1 a2 a3 a4 k, LeO (spec_l17Set.f k a0 a1 a2 a3 a4) (spec_l17Set.f (k + 1) a0 a1 a2 a3 a4) := by
  intro a0 a1 a2 a3 a4 k
  have ih0 := spec_l17Set.mono_l k
  unfold spec_l17Set.f
  repeat' first
 | (with_reducible exact ih0 _ _ _ _ _ _)
 | (with_reducible exact spec_FindEntry.mono _ _ _ _)
 | (with_reducible exact LeO.refl _)
 | (with_reducible exact LeO.none _)
 | (with_reducible refine LeO.ite ?_ ?_)
 | (with_reducible refine LeO.bind ?_ (fun _ => ?_))
def spec_l17Set.T7 : Bool × List (List Nat × List Nat) := (true, [([], []), ([], []), ([1], [1]), ([2], [2]), ([0, 3], [0, 3]), ([4], [4]), ([5], [5]), ([6, 5], [5, 6]), ([5], [5]), ([7, 8, 5], [5, 7, 8]), ([9, 5], [5, 9]), ([5], [5]), ([11, 5], [5, 11]), ([5], [5]), ([13, 5], [5, 13]), ([10, 12, 14, 5, 5], [5, 10, 12, 14]), ([5, 15], [5, 15])])
def spec_l17Set.B7 : List Nat := [0, 0, 2, 6, 15, 31, 63, 127, 63, 511, 1023, 63, 2111, 63, 8255, 32767, 65535]
theorem spec_l17Set.tab7 : rtab .any (opsOf Try.f133 7) = spec_l17Set.T7 := by kernel_rfl
theorem spec_l17Set.bits7 : waitsOk spec_l17Set.T7.2 spec_l17Set.B7 = true := by kernel_rfl
def spec_l17Set.T9 : Bool × List (List Nat × List Nat) := (true, [([], []), ([], []), ([1], [1]), ([], []), ([2, 3], [2, 3]), ([0, 4], [0, 4]), ([], []), ([6], [6]), ([5, 7, 5], [5, 7]), ([], []), ([9], [9]), ([], []), ([10, 11], [10, 11]), ([8, 12, 8], [8, 12]), ([0, 1, 2, 3, 4, 5, 6, 7, 8, 9, 10, 11, 12, 13], []), ([14, 13, 13, 0, 1, 2, 3, 4, 5, 6, 7, 8, 9, 10, 11, 12, 13], [13, 14])])
def spec_l17Set.B9 : List Nat := [0, 0, 2, 0, 14, 31, 0, 64, 255, 0, 512, 0, 3584, 8191, 16383, 32767]
theorem spec_l17Set.tab9 : rtab .any (opsOf Try.f133 9) = spec_l17Set.T9 := by kernel_rfl
theorem spec_l17Set.bits9 : waitsOk spec_l17Set.T9.2 spec_l17Set.B9 = true := by kernel_rfl
set_option maxHeartbeats 8000000 in
set_option maxRecDepth 100000 in
theorem spec_l17Set.calls (k : Nat) (A0_0 : Option Addr) (c0_0 : Nat) (l0_0 : List (S94)) (a1_0 : Int) (a1_1 : Int) (a1_2 : Int) (a1_3 : Bool) (r : List (S94)) (w : World) (hr0_0 : Kd.C k94 w A0_0 l0_0.length l0_0) (hc0_0 : l0_0.length ≤ c0_0) (h : spec_l17Set.f k l0_0 a1_0 a1_1 a1_2 a1_3 = some r) :
    Calls Try.prog 133 #[.agg #[.slice A0_0 l0_0.length c0_0], .agg #[.int .i64 a1_0, .int .i64 a1_1, .int .i64 a1_2, .bool a1_3]] w fun e w' => ∃ v0_ : Value, e = .returned (.agg #[v0_]) ∧ Kd.R k94 94 w' w.heap.size (fun _ => True) v0_ r ∧ Below w.heap.size w w' := by
 have hu45 := Try.underlying45; have hu94 := Try.underlying94; have E7 := Cmp.A hr0_0; have HC0_0 := Cmp.A hc0_0; clear hr0_0 hc0_0
 have HB := Cmp.A (Below.refl w.heap.size w)
 have H : ((spec_l17Copy.f l0_0).bind fun D7 => ((spec_FindEntry.f k l0_0 a1_0 a1_1).bind fun Df => (if Df ≥ 0 then (if 0 ≤ Df then (if Df < (D7.length : Int) then (some (D7.set (Df : Int).toNat (⟨a1_0, a1_1, a1_2, a1_3⟩ : S94))) else (none)) else (none)) else (spec_l17Set.l0 k 0 l0_0 a1_0 a1_1 a1_2 a1_3)))) = some r := h
 clear h; replace H := Option.bind_eq_some_iff.mp H; obtain ⟨D7, Kf, H⟩ := H; (try dsimp only at H); have A3 := Cmp.A Kf; clear Kf; replace H := Option.bind_eq_some_iff.mp H; obtain ⟨Df, Kg, H⟩ := H; (try dsimp only at H); have A4 := Cmp.A Kg; clear Kg
 by_cases c5 : Df ≥ 0
 ·rw [if_pos c5] at H; have c5b0 : decide (0 ≤ Df) = true := decide_eq_true c5; clear c5
  by_cases c6 : 0 ≤ Df
  ·rw [if_pos c6] at H; have c6b0 : decide (0 ≤ Df) = true := decide_eq_true c6; clear c6
   by_cases c7 : Df < (D7.length : Int)
   ·rw [if_pos c7] at H
    have c7b0 : decide (Df < (D7.length : Int)) = true := decide_eq_true c7
    clear c7
    obtain ⟨Jw, hy164⟩ : ∃ y_ : List (S94), y_ = (D7.set (Df : Int).toNat (⟨a1_0, a1_1, a1_2, a1_3⟩ : S94)) := ⟨_, rfl⟩
    replace H : (some Jw) = some r := Cmp.hy hy164 H
    have Jc := Cmp.A hy164; clear hy164
    obtain rfl := Option.some.inj H
    go_enter Try.func133, Try.ntmps133
    go_wp2_with (first | ((with_reducible refine gate_dst (N := 2) rfl ?_); refine box_event ?hg (N := 2) ?hd (cs := #[.slice A0_0 l0_0.length c0_0]) (t := 45) ?hr ?_; (case hd => rfl); (case hg => rfl); (case hr => first | (go_simp; done) | (go_simp; rfl)); intro Dp hg w9 hbox hb; have D2 := Cmp.A (hbox); have J8 := Cmp.gw hg HB; have J4 := Cmp.gw hg HB; replace HB := Cmp.bs HB hb; clear hb hbox hg) | ((with_reducible refine gate_dst (N := 3) rfl ?_); refine box_event ?hg (N := 3) ?hd (cs := #[.int .i64 a1_0, .int .i64 a1_1, .int .i64 a1_2, .bool a1_3]) (t := 94) ?hr ?_; (case hd => rfl); (case hg => rfl); (case hr => first | (go_simp; done) | (go_simp; rfl)); intro D5 hg w10 hbox hb; have D0 := Cmp.A (hbox); have J9 := Cmp.gw hg HB; have J5 := Cmp.gw hg HB; have Eg := Cmp.nl hg D2; have Eh := Cmp.ng hg D2; replace D2 := Cmp.be D2 hb; replace HB := Cmp.bs HB hb; clear hb hbox hg) | ((with_reducible refine gate_dst (N := 4) rfl ?_); refine box_event ?hg (N := 4) ?hd (cs := #[.slice none 0 0]) (t := 45) ?hr ?_; (case hd => rfl); (case hg => rfl); (case hr => first | (go_simp; done) | (go_simp; rfl)); intro Dz hg w11 hbox hb; have D3 := Cmp.A (hbox); have Ja := Cmp.gw hg HB; have J6 := Cmp.gw hg HB; have E0 := Cmp.nl hg D2; have E2 := Cmp.ng hg D2; have E1 := Cmp.nl hg D0; have E3 := Cmp.ng hg D0; replace D2 := Cmp.be D2 hb; replace D0 := Cmp.be D0 hb; replace HB := Cmp.bs HB hb; clear hb hbox hg; have Ko := Eg.out; have L5 := Eh.out; have Kp := E0.out; have L6 := E2.out; have Fc := Cmp.c0 D2; have Fx := blk_frozen D2.out 0) | ((with_reducible refine gate_callee (f := 132) rfl ?_); refine goesL_ (some 9) rfl rfl Try.func132 (by kernel_rfl) rfl #[.agg #[.slice A0_0 l0_0.length c0_0]] rfl Cmp.q ?_; (with_reducible refine (spec_l17Copy.calls _ _ l0_0 D7 _ ?side1 ?side2 A3.out).mono ?_); (case side1 => exact Cmp.rc (Kd.C_below E7.out HB.out)); (case side2 => exact HC0_0.out); rintro e w15 ⟨v160, rfl, Jr, hb⟩; refine ⟨_, rfl, ?_⟩; have De := Cmp.A (Kd.R_lower (Kd.R_newB Jr (g := D5) (o := .cells #[.int .i64 a1_0, .int .i64 a1_1, .int .i64 a1_2, .bool a1_3] 94 (0, 0)) (Cmp.b D0.out)) (below_size (Cmp.g HB.out))); replace D2 := Cmp.be D2 hb; replace D0 := Cmp.be D0 hb; replace D3 := Cmp.be D3 hb; replace HB := Cmp.bs HB hb; (try clear hb); (try clear hb2); (try clear hk); (try clear hi); (try clear Jr)) | ((with_reducible refine gate_dst (N := 5) rfl ?_); refine box_event ?hg (N := 5) ?hd (cs := #[.slice none 0 0]) (t := 45) ?hr ?_; (case hd => rfl); (case hg => rfl); (case hr => first | (go_simp; done) | (go_simp; rfl)); intro Dg hg w16 hbox hb; have D4 := Cmp.A (hbox); have Jb := Cmp.gw hg HB; have J7 := Cmp.gw hg HB; have Dj := Cmp.nl hg D2; have Dm := Cmp.ng hg D2; have D8 := Cmp.nl hg D0; have Dn := Cmp.ng hg D0; have Dl := Cmp.nl hg D3; have Do := Cmp.ng hg D3; replace De := Cmp.A (Kd.R_below (Cmp.rr De.out) hb); replace D2 := Cmp.be D2 hb; replace D0 := Cmp.be D0 hb; replace D3 := Cmp.be D3 hb; replace HB := Cmp.bs HB hb; clear hb hbox hg; obtain ⟨J3, F1, K1⟩ := Kd.R_slice De.out; subst K1; have Kq := Dm.out; have L7 := Dj.out; have Kr := Dn.out; have L8 := D8.out; have Ks := Do.out; have L9 := Dl.out; have Fd := Cmp.c0 D4; have Fy := blk_frozen D4.out 0; have Fe := Cmp.c0 D2; have Fz := blk_frozen D2.out 0; have Kt := E1.out; have La := E3.out; obtain ⟨Ff, Fg, Fh, Fi⟩ := Cmp.q4 D0; obtain ⟨G0, G1, G2, G3⟩ := Cmp.f4 D0) | ((with_reducible refine gate_callee (f := 131) rfl ?_); refine goesL_ (some 15) rfl rfl Try.func131 (by kernel_rfl) rfl #[.agg #[.slice A0_0 l0_0.length c0_0], .int .i64 a1_0, .int .i64 a1_1] rfl Cmp.q ?_; (with_reducible refine (spec_FindEntry.calls k _ _ l0_0 a1_0 a1_1 Df _ ?side1 ?side2 A4.out).mono ?_); (case side1 => exact Kd.C_below E7.out (Cmp.g HB.out)); (case side2 => exact HC0_0.out); rintro e w25 ⟨rfl, hb⟩; refine ⟨_, rfl, ?_⟩; replace De := Cmp.A (Kd.R_below (Cmp.rm (Kd.R_far (p := ⟨Dg, 0, none⟩) (Kd.R_types De.out D4.out (by decide)) (fun _ hk => hk.2) (.slice J3 D7.length F1)) (fun _ h_ => h_.1)) hb); replace D2 := Cmp.A (blk_below (g := Dp) (o := .cells #[.slice A0_0 l0_0.length c0_0] 45 (0, 0)) (Cmp.bw D2.out) hb); replace D0 := Cmp.A (blk_below (g := D5) (o := .cells #[.int .i64 a1_0, .int .i64 a1_1, .int .i64 a1_2, .bool a1_3] 94 (0, 0)) (Cmp.bw D0.out) hb); replace D3 := Cmp.A (blk_below (g := Dz) (o := .cells #[.slice none 0 0] 45 (0, 0)) (Cmp.bw D3.out) hb); replace D4 := Cmp.A (blk_below (g := Dg) (o := .cells #[.slice J3 D7.length F1] 45 (0, 0)) (Cmp.bw D4.out) hb); replace HB := Cmp.bs HB hb; (try clear hb); (try clear hb2); (try clear hk); (try clear hi); have Fj := Cmp.c0 D4; have G4 := blk_frozen D4.out 0; obtain ⟨Fk, Fl, Fm, Fn⟩ := Cmp.q4 D0; obtain ⟨G5, G6, G7, G8⟩ := Cmp.f4 D0; have p8 : 0 ≤ (Df : Int) := of_decide_eq_true Cmp.d; have q8 : (Df : Int) < ((D7.length : Int) : Int) := of_decide_eq_true Cmp.d; obtain ⟨go8, Lo, Km, Kn, gl8, cl8, HG8⟩ := Kd.R_form De.out (by omega); (first | cases Km | (injection Km with ea_ en_ ec_; (first | subst ea_ | (injection ea_ with ea_; subst ea_)); subst ec_; clear en_)); have GB8 := Cmp.A Kn; have GG8 := Cmp.A HG8; clear Kn gl8 HG8; obtain ⟨ce8, hcl8, hM8, hcc8, hfr8⟩ := Kd.R_elem De.out z94 (Df : Int) p8 q8; obtain rfl := k94_openM hM8; have Js : w25.cell? ⟨go8, (Df : Int).toNat * 4, none⟩ = some (.int .i64 ((rd_T94 D7 Df).f0)) := hcc8 0 _ rfl; have Jt : w25.cell? ⟨go8, (Df : Int).toNat * 4 + 1, none⟩ = some (.int .i64 ((rd_T94 D7 Df).f1)) := hcc8 1 _ rfl; have Ju : w25.cell? ⟨go8, (Df : Int).toNat * 4 + 2, none⟩ = some (.int .i64 ((rd_T94 D7 Df).f2)) := hcc8 2 _ rfl; have Jv : w25.cell? ⟨go8, (Df : Int).toNat * 4 + 3, none⟩ = some (.bool ((rd_T94 D7 Df).f3)) := hcc8 3 _ rfl; have hf8_0 : w25.frozen? ⟨go8, (Df : Int).toNat * 4, none⟩ = false := hfr8 0; have hf8_1 : w25.frozen? ⟨go8, (Df : Int).toNat * 4 + 1, none⟩ = false := hfr8 1; have hf8_2 : w25.frozen? ⟨go8, (Df : Int).toNat * 4 + 2, none⟩ = false := hfr8 2; have hf8_3 : w25.frozen? ⟨go8, (Df : Int).toNat * 4 + 3, none⟩ = false := hfr8 3; clear hcl8 hcc8 hfr8 hM8; replace p8 := eq_true p8; replace q8 := eq_true q8; have n_ := Cmp.A (Kd.R_mono (ok' := (fun k_ => k_ ≠ D5)) De.out (fun k_ hk => hk.2)); clear De; have De := n_; clear n_; have HX28 := Cmp.A (show Kd.R k94 94 w25 w.heap.size (fun k_ => k_ ≠ D5) (.slice (some ⟨go8, 0, none⟩) D7.length F1) D7 from (Cmp.rr De.out)); obtain ⟨ce28, hcl28, hM28, hcc28, hfr28⟩ := Kd.R_elem HX28.out z94 (Df : Int) (of_decide_eq_true Cmp.d) (by have h_ : (Df : Int) < ((D7.length : Int) : Int) := of_decide_eq_true Cmp.d; first | exact h_ | (have e_ := (Kd.R_reads' De.out).1; omega) | simpa using h_); obtain rfl := k94_openM hM28; have HP28 := Kd.R_seg HX28.out (Df : Int) (of_decide_eq_true Cmp.d) (by have h_ : (Df : Int) < ((D7.length : Int) : Int) := of_decide_eq_true Cmp.d; first | exact h_ | (have e_ := (Kd.R_reads' De.out).1; omega) | simpa using h_) (seg := [.int .i64 a1_0, .int .i64 a1_1, .int .i64 a1_2, .bool a1_3]) (j := 0) hcl28 hcc28 (show 4 ≤ 4 from by decide) (x' := (⟨a1_0, a1_1, a1_2, a1_3⟩ : S94)) (k94_mkM _ _ _ (⟨a1_0, a1_1, a1_2, a1_3⟩ : S94) ) (fun _ hk => hk); have F6 := hcc28 0 _ rfl; (try simp only [show (k94).sz = 4 from rfl, Nat.mul_one, Nat.add_zero] at F6); have hf28_0 := hfr28 0; (try simp only [show (k94).sz = 4 from rfl, Nat.mul_one, Nat.add_zero] at hf28_0); have F7 := hcc28 1 _ rfl; (try simp only [show (k94).sz = 4 from rfl, Nat.mul_one, Nat.add_zero] at F7); have hf28_1 := hfr28 1; (try simp only [show (k94).sz = 4 from rfl, Nat.mul_one, Nat.add_zero] at hf28_1); have F8 := hcc28 2 _ rfl; (try simp only [show (k94).sz = 4 from rfl, Nat.mul_one, Nat.add_zero] at F8); have hf28_2 := hfr28 2; (try simp only [show (k94).sz = 4 from rfl, Nat.mul_one, Nat.add_zero] at hf28_2); have F9 := hcc28 3 _ rfl; (try simp only [show (k94).sz = 4 from rfl, Nat.mul_one, Nat.add_zero] at F9); have hf28_3 := hfr28 3; (try simp only [show (k94).sz = 4 from rfl, Nat.mul_one, Nat.add_zero] at hf28_3); clear hcl28 hcc28 hfr28 hM28) | ((with_reducible refine gate_store (t := 94) (p := 22) rfl ?_); refine store_event (t := 94) (p := 22) (v := ?vo_w29) (w1 := ((((w25.setCell ⟨go8, (Df : Int).toNat * 4, none⟩ (.int .i64 a1_0)).setCell ⟨go8, (Df : Int).toNat * 4 + 1, none⟩ (.int .i64 a1_1)).setCell ⟨go8, (Df : Int).toNat * 4 + 2, none⟩ (.int .i64 a1_2)).setCell ⟨go8, (Df : Int).toNat * 4 + 3, none⟩ (.bool a1_3))) ?hg ?ho ?hn ?hr ?_; (case ho => rfl); (case hg => rfl); (case hn => rfl); (case hr => first | (go_simp; done) | (go_simp; rfl)); intro w29 hw; have hg : w25.grownBy w29 (some go8) := (by rw [hw]; exact HP28.2); have hp_ : Kd.R k94 94 w29 w.heap.size (fun k_ => k_ ≠ D5) (.slice (some ⟨go8, 0, none⟩) D7.length F1) Jw := (by rw [hw, Jc.out]; exact HP28.1); clear HP28; replace D2 := Cmp.bg D2 hg (Kd.R_ne De.out D2.out (by decide)); replace D0 := Cmp.bg D0 hg (Kd.R_away De.out (fun _ hk => hk)); replace D3 := Cmp.bg D3 hg (Kd.R_ne De.out D3.out (by decide)); replace D4 := Cmp.bg D4 hg (Kd.R_ne De.out D4.out (by decide)); replace De := Cmp.A (hp_); replace HB := Cmp.A ((by rw [hw]; exact below_set (below_set (below_set (below_set (HB.out) GB8.out) GB8.out) GB8.out) GB8.out : Below w.heap.size w w29)); clear hg hw hp_; have Fo := Cmp.c0 D4; have G9 := blk_frozen D4.out 0; have Fp := Cmp.c0 D3; have Ga := blk_frozen D3.out 0))
    refine bodyPost_ret (results_cell_row rfl _ _ Dz 45 #[.slice (some ⟨go8, 0, none⟩) D7.length F1] (0, 0) _ rfl (Cmp.bw D3.out) Try.underlying45 rfl (by kernel_rfl)) rfl ?_
    exact ⟨_, by first | rfl | (simp [errW_none, errW_some] <;> rfl) | (simp [*, errW_none, errW_some] <;> rfl), by (with_reducible repeat (first | apply Kd.R_alloc | apply Kd.R_drewN | apply Kd.R_drew)); exact Kd.R_mono (Kd.R_far (p := ⟨Dz, 0, none⟩) (Kd.R_types De.out D3.out (by decide)) (fun _ hk => hk.2) (.slice (some ⟨go8, 0, none⟩) D7.length F1)) (fun _ hk => trivial), Cmp.g HB.out⟩
   ·rw [if_neg c7] at H; exact absurd H (by simp)
  ·rw [if_neg c6] at H; exact absurd H (by simp)
 ·rw [if_neg c5] at H; have c5b0 : decide (0 ≤ Df) = false := decide_eq_false c5; clear c5
  have H' := Cmp.A H
  clear H
  go_enter Try.func133, Try.ntmps133
  go_wp2_with (first | ((with_reducible refine gate_dst (N := 2) rfl ?_); refine box_event ?hg (N := 2) ?hd (cs := #[.slice A0_0 l0_0.length c0_0]) (t := 45) ?hr ?_; (case hd => rfl); (case hg => rfl); (case hr => first | (go_simp; done) | (go_simp; rfl)); intro Dp hg w32 hbox hb; have D2 := Cmp.A (hbox); have J8 := Cmp.gw hg HB; have J4 := Cmp.gw hg HB; replace HB := Cmp.bs HB hb; clear hb hbox hg) | ((with_reducible refine gate_dst (N := 3) rfl ?_); refine box_event ?hg (N := 3) ?hd (cs := #[.int .i64 a1_0, .int .i64 a1_1, .int .i64 a1_2, .bool a1_3]) (t := 94) ?hr ?_; (case hd => rfl); (case hg => rfl); (case hr => first | (go_simp; done) | (go_simp; rfl)); intro D5 hg w33 hbox hb; have D0 := Cmp.A (hbox); have J9 := Cmp.gw hg HB; have J5 := Cmp.gw hg HB; have Eg := Cmp.nl hg D2; have Eh := Cmp.ng hg D2; replace D2 := Cmp.be D2 hb; replace HB := Cmp.bs HB hb; clear hb hbox hg) | ((with_reducible refine gate_dst (N := 4) rfl ?_); refine box_event ?hg (N := 4) ?hd (cs := #[.slice none 0 0]) (t := 45) ?hr ?_; (case hd => rfl); (case hg => rfl); (case hr => first | (go_simp; done) | (go_simp; rfl)); intro Dz hg w34 hbox hb; have D3 := Cmp.A (hbox); have Ja := Cmp.gw hg HB; have J6 := Cmp.gw hg HB; have E0 := Cmp.nl hg D2; have E2 := Cmp.ng hg D2; have E1 := Cmp.nl hg D0; have E3 := Cmp.ng hg D0; replace D2 := Cmp.be D2 hb; replace D0 := Cmp.be D0 hb; replace HB := Cmp.bs HB hb; clear hb hbox hg; have Ku := Eg.out; have Lb := Eh.out; have Kv := E0.out; have Lc := E2.out; have Fq := Cmp.c0 D2; have Gb := blk_frozen D2.out 0) | ((with_reducible refine gate_callee (f := 132) rfl ?_); refine goesL_ (some 9) rfl rfl Try.func132 (by kernel_rfl) rfl #[.agg #[.slice A0_0 l0_0.length c0_0]] rfl Cmp.q ?_; (with_reducible refine (spec_l17Copy.calls _ _ l0_0 D7 _ ?side1 ?side2 A3.out).mono ?_); (case side1 => exact Cmp.rc (Kd.C_below E7.out HB.out)); (case side2 => exact HC0_0.out); rintro e w38 ⟨v160, rfl, Jr, hb⟩; refine ⟨_, rfl, ?_⟩; have De := Cmp.A (Kd.R_lower (Kd.R_newB Jr (g := D5) (o := .cells #[.int .i64 a1_0, .int .i64 a1_1, .int .i64 a1_2, .bool a1_3] 94 (0, 0)) (Cmp.b D0.out)) (below_size (Cmp.g HB.out))); replace D2 := Cmp.be D2 hb; replace D0 := Cmp.be D0 hb; replace D3 := Cmp.be D3 hb; replace HB := Cmp.bs HB hb; (try clear hb); (try clear hb2); (try clear hk); (try clear hi); (try clear Jr)) | ((with_reducible refine gate_dst (N := 5) rfl ?_); refine box_event ?hg (N := 5) ?hd (cs := #[.slice none 0 0]) (t := 45) ?hr ?_; (case hd => rfl); (case hg => rfl); (case hr => first | (go_simp; done) | (go_simp; rfl)); intro Dg hg w39 hbox hb; have D4 := Cmp.A (hbox); have Jb := Cmp.gw hg HB; have J7 := Cmp.gw hg HB; have Dj := Cmp.nl hg D2; have Dm := Cmp.ng hg D2; have D8 := Cmp.nl hg D0; have Dn := Cmp.ng hg D0; have Dl := Cmp.nl hg D3; have Do := Cmp.ng hg D3; replace De := Cmp.A (Kd.R_below (Cmp.rr De.out) hb); replace D2 := Cmp.be D2 hb; replace D0 := Cmp.be D0 hb; replace D3 := Cmp.be D3 hb; replace HB := Cmp.bs HB hb; clear hb hbox hg; obtain ⟨Dc, Dd, K2⟩ := Kd.R_slice De.out; subst K2; have Kw := Dm.out; have Ld := Dj.out; have Kx := Dn.out; have Le := D8.out; have Ky := Do.out; have Lf := Dl.out; have Fr := Cmp.c0 D4; have Gc := blk_frozen D4.out 0; have Fs := Cmp.c0 D2; have Gd := blk_frozen D2.out 0; have Kz := E1.out; have Lg := E3.out; obtain ⟨Ft, Fu, Fv, Fw⟩ := Cmp.q4 D0; obtain ⟨Ge, Gf, Gg, Gh⟩ := Cmp.f4 D0) | ((with_reducible refine gate_callee (f := 131) rfl ?_); refine goesL_ (some 15) rfl rfl Try.func131 (by kernel_rfl) rfl #[.agg #[.slice A0_0 l0_0.length c0_0], .int .i64 a1_0, .int .i64 a1_1] rfl Cmp.q ?_; (with_reducible refine (spec_FindEntry.calls k _ _ l0_0 a1_0 a1_1 Df _ ?side1 ?side2 A4.out).mono ?_); (case side1 => exact Kd.C_below E7.out (Cmp.g HB.out)); (case side2 => exact HC0_0.out); rintro e w48 ⟨rfl, hb⟩; refine ⟨_, rfl, ?_⟩; replace De := Cmp.A (Kd.R_below (Cmp.rm (Kd.R_far (p := ⟨Dg, 0, none⟩) (Kd.R_types De.out D4.out (by decide)) (fun _ hk => hk.2) (.slice Dc D7.length Dd)) (fun _ h_ => h_.1)) hb); replace D2 := Cmp.A (blk_below (g := Dp) (o := .cells #[.slice A0_0 l0_0.length c0_0] 45 (0, 0)) (Cmp.bw D2.out) hb); replace D0 := Cmp.A (blk_below (g := D5) (o := .cells #[.int .i64 a1_0, .int .i64 a1_1, .int .i64 a1_2, .bool a1_3] 94 (0, 0)) (Cmp.bw D0.out) hb); replace D3 := Cmp.A (blk_below (g := Dz) (o := .cells #[.slice none 0 0] 45 (0, 0)) (Cmp.bw D3.out) hb); replace D4 := Cmp.A (blk_below (g := Dg) (o := .cells #[.slice Dc D7.length Dd] 45 (0, 0)) (Cmp.bw D4.out) hb); replace HB := Cmp.bs HB hb; (try clear hb); (try clear hb2); (try clear hk); (try clear hi)))
  go_loopg [7] k (fun kq v7 w' => ∃ (D6 : Int), v7 = .int .i64 D6 ∧ Aside0 (spec_l17Set.l0 kq D6 l0_0 a1_0 a1_1 a1_2 a1_3 = some r) ∧ Aside0 (kq ≤ k) ∧ Aside0 (Kd.R k94 94 w' w.heap.size (fun k_ => k_ ≠ D5) (.slice Dc D7.length Dd) D7) ∧ Aside0 (w'.heap[Dp]? = some (.cells #[(.slice A0_0 l0_0.length c0_0)] 45 (0, 0))) ∧ Aside0 (w'.heap[D5]? = some (.cells #[.int .i64 a1_0, .int .i64 a1_1, .int .i64 a1_2, .bool a1_3] 94 (0, 0))) ∧ Aside0 (w'.heap[Dz]? = some (.cells #[(.slice none 0 0)] 45 (0, 0))) ∧ Aside0 (w'.heap[Dg]? = some (.cells #[(.slice Dc D7.length Dd)] 45 (0, 0))) ∧ Aside0 (Below w.heap.size w w'))
  case atStart => exact ⟨(0), (by first | rfl | simp | simp [*]), H', ⟨Nat.le_refl _⟩, ⟨Cmp.rm De.out (fun _ hk => hk.2)⟩, Cmp.bq D2, Cmp.bq D0, Cmp.bq D3, Cmp.bq D4, ⟨Cmp.g HB.out⟩⟩
  case round =>
   clear H'
   (try clear c1); (try clear c2); (try clear p2); (try clear hx2); (try clear hf2); (try clear c3); (try clear c4); (try clear c5); (try clear c5b0); (try clear c6); (try clear c6b0); (try clear c7); (try clear c7b0); (try clear c8); (try clear p8); (try clear q8); (try clear hx8); (try clear hf8); (try clear c12); (try clear c13); (try clear c18); (try clear c19); (try clear c20); (try clear c23); (try clear c28); (try clear hx28); (try clear hf28); (try clear c35); (try clear c36); (try clear c41); (try clear c42); (try clear c43); (try clear c46); (try clear Fc); (try clear Fd); (try clear Fe); (try clear Ff); (try clear Fg); (try clear Fh); (try clear Fi); (try clear Fj); (try clear Fk); (try clear Fl); (try clear Fm); (try clear Fn); (try clear Fo); (try clear Fp); (try clear Fq); (try clear Fr); (try clear Fs); (try clear Ft); (try clear Fu); (try clear Fv); (try clear Fw); (try clear Fx); (try clear Fy); (try clear Fz); (try clear G0); (try clear G1); (try clear G2); (try clear G3); (try clear G4); (try clear G5); (try clear G6); (try clear G7); (try clear G8); (try clear G9); (try clear Ga); (try clear Gb); (try clear Gc); (try clear Gd); (try clear Ge); (try clear Gf); (try clear Gg); (try clear Gh); (try clear F6); (try clear F7); (try clear F8); (try clear F9); (try clear Js); (try clear Jt); (try clear Ju); (try clear Jv); (try clear p8); (try clear q8)
   obtain ⟨D6, rfl, HA, HK1, D1, D2, D0, D3, D4, HB⟩ := hrel
   cases gk with
   | zero => exact absurd HA.out (by simp [spec_l17Set.l0])
   | succ k1 =>
    have H := HA.out; clear HA
    simp only [spec_l17Set.l0] at H
    by_cases c49 : D6 < (l0_0.length : Int)
    ·rw [if_pos c49] at H
     have c49b0 : decide (D6 < (l0_0.length : Int)) = true := decide_eq_true c49
     clear c49
     by_cases c50 : 0 ≤ D6
     ·rw [if_pos c50] at H; have c50b0 : decide (0 ≤ D6) = true := decide_eq_true c50; clear c50; replace H := Option.bind_eq_some_iff.mp H; obtain ⟨Ke, J2, H⟩ := H; (try dsimp only at H); have Kh := Cmp.A J2; clear J2
      by_cases c52 : Ke = true
      ·subst c52; rw [if_pos rfl] at H
       have H' := Cmp.A H
       clear H
       try go_wp2
       replace D1 := Cmp.A (Kd.R_drew D1.out); replace D2 := Cmp.A (blk_drew D2.out); replace D0 := Cmp.A (blk_drew D0.out); replace D3 := Cmp.A (blk_drew D3.out); replace D4 := Cmp.A (blk_drew D4.out); replace HB := Cmp.A (below_drew1 HB.out)
       have p165 : 0 ≤ (D6 : Int) := of_decide_eq_true Cmp.d
       have q165 : D6 < (l0_0.length : Int) := of_decide_eq_true Cmp.d
       obtain ⟨Db, e165, Dt, Du, Dv, Dw⟩ := at_T94 E7.out D6 p165 q165
       have Ef := Dw; have Ee := Dv; have Ed := Du; have Ec := Dt; cases e165
       replace Dt := Cmp.hc HB Dt
       replace Du := Cmp.hc HB Du
       replace Dv := Cmp.hc HB Dv
       replace Dw := Cmp.hc HB Dw
       replace p165 := eq_true p165; replace q165 := eq_true q165
       refine start_ (n := 17) (S := fun w' => w'.cell? ⟨Dp, 0, none⟩ = some (.slice (some Db) l0_0.length c0_0) ∧ w'.cell? ⟨D5, 0, none⟩ = some (.int .i64 a1_0) ∧ w'.cell? ⟨D5, 1, none⟩ = some (.int .i64 a1_1) ∧ w'.cell? ⟨D5, 2, none⟩ = some (.int .i64 a1_2) ∧ w'.cell? ⟨D5, 3, none⟩ = some (.bool a1_3) ∧ w'.cell? (Db.add ((D6).toNat * 4)) = some (.int .i64 ((rd_T94 l0_0 D6).f0)) ∧ w'.cell? ⟨(Db.add ((D6).toNat * 4)).block, (Db.add ((D6).toNat * 4)).off + 1, none⟩ = some (.int .i64 ((rd_T94 l0_0 D6).f1)) ∧ w'.cell? ⟨(Db.add ((D6).toNat * 4)).block, (Db.add ((D6).toNat * 4)).off + 2, none⟩ = some (.int .i64 ((rd_T94 l0_0 D6).f2)) ∧ w'.cell? ⟨(Db.add ((D6).toNat * 4)).block, (Db.add ((D6).toNat * 4)).off + 3, none⟩ = some (.bool ((rd_T94 l0_0 D6).f3))) (ds := []) (Cmp.bm 0 17) (by kernel_rfl) rfl rfl ⟨(Cmp.c0 D2 :), (Cmp.c0 D0 :), (Cmp.c1 D0 :), (Cmp.c2 D0 :), (Cmp.c3 D0 :), (Cmp.hc HB Ec :), (Cmp.hc HB Ed :), (Cmp.hc HB Ee :), (Cmp.hc HB Ef :)⟩ (fun hHeld => ?_); refine with_tabW spec_l17Set.tab7 spec_l17Set.bits7 (fun HT_ HW_ => ?_)
       generalize wr.drew = w53 at D1 D2 D0 D3 D4 HB Dt Du Dv Dw hHeld ⊢
       refine Cmp.pu HT_ 0 24 (Cmp.bm 1 16) ?_; refine Cmp.pu HT_ 1 25 (Cmp.bm 2 15) ?_; refine Cmp.tk HT_ HW_ hHeld 2 26 (Cmp.bm 3 14) ?_; refine Cmp.pu HT_ 3 27 (Cmp.bm 4 13) ?_; refine Cmp.pu HT_ 4 28 (Cmp.bm 5 12) ?_; refine Cmp.pu HT_ 5 29 (Cmp.bm 6 11) ?_; refine Cmp.pu HT_ 6 30 (Cmp.bm 7 10) ?_; refine Cmp.pu HT_ 8 32 (Cmp.bb 17 383) ?_; refine Cmp.pu HT_ 11 35 (Cmp.bb 17 2431) ?_; refine Cmp.pu HT_ 13 37 (Cmp.bb 17 10623) ?_; refine Cmp.tk HT_ HW_ hHeld 7 31 (Cmp.bb 17 10751) ?_; refine Cmp.pu HT_ 9 33 (Cmp.bb 17 11263) ?_; refine Cmp.tk HT_ HW_ hHeld 10 34 (Cmp.bb 17 12287) ?_; refine Cmp.tk HT_ HW_ hHeld 12 36 (Cmp.bm 14 3) ?_; refine Cmp.tk HT_ HW_ hHeld 14 38 (Cmp.bm 15 2) ?_
       refine one_ (i := 15) (N := some 39) (Cmp.bm 16 1) rfl rfl (one_of HT_.out (by kernel_rfl)) (by decide) (fun K hK => ?_)
       refine goes_ Try.func107 (by kernel_rfl) rfl #[.agg #[.int .i64 ((rd_T94 l0_0 D6).f0), .int .i64 ((rd_T94 l0_0 D6).f1), .int .i64 ((rd_T94 l0_0 D6).f2), .bool ((rd_T94 l0_0 D6).f3)], .int .i64 a1_0, .int .i64 a1_1] (by rfl) rfl rfl Cmp.q ?_
       with_reducible refine (spec_l17Less.calls ((rd_T94 l0_0 D6).f0) ((rd_T94 l0_0 D6).f1) ((rd_T94 l0_0 D6).f2) ((rd_T94 l0_0 D6).f3) a1_0 a1_1 true _ Kh.out).mono ?_
       rintro e w54 ⟨rfl, hb⟩; refine ⟨_, rfl, ?_⟩
       replace D1 := Cmp.A (Kd.R_below (Cmp.rr D1.out) hb); replace D2 := Cmp.be D2 hb; replace D0 := Cmp.be D0 hb; replace D3 := Cmp.be D3 hb; replace D4 := Cmp.be D4 hb; replace HB := Cmp.A (below_step (Cmp.g HB.out) hb); (try clear hb); (try clear hb2); (try clear hk); (try clear hi)
       refine hK.out _ _ ⟨(Cmp.c0 D2 :), (Cmp.c0 D0 :), (Cmp.c1 D0 :), (Cmp.c2 D0 :), (Cmp.c3 D0 :), (Cmp.hc HB Ec :), (Cmp.hc HB Ed :), (Cmp.hc HB Ee :), (Cmp.hc HB Ef :)⟩ (fun hHeld => ?_)
       clear hK K
       refine Cmp.no ?_
       refine Cmp.pu HT_ 16 40 (Cmp.bm 17 0) ?_
       refine done_ (done_of HT_.out (by kernel_rfl)) ?_
       try go_wp2
       go_roundg k1
       case measure => have := HK1.out; omega
       case rel => exact ⟨(wrap64 (D6 + 1)), (by first | rfl | simp | simp [*]), H', ⟨by have := HK1.out; omega⟩, ⟨Cmp.rr D1.out⟩, Cmp.bq D2, Cmp.bq D0, Cmp.bq D3, Cmp.bq D4, ⟨Cmp.g HB.out⟩⟩
      ·replace c52 := Bool.eq_false_iff.mpr c52
       subst c52
       have H1 : ((some (([] : List (S94)) : List (S94))).bind fun Ek => (if D6 ≤ (l0_0.length : Int) then ((some (l0_0.take (D6 : Int).toNat : List (S94))).bind fun Ea => (if Ek.length + Ea.length < 4398046511104 then ((some (Ek ++ Ea : List (S94))).bind fun E6 => ((some (([(⟨a1_0, a1_1, a1_2, a1_3⟩ : S94)] : List (S94)) : List (S94))).bind fun Dx => (if E6.length + Dx.length < 4398046511104 then ((some (E6 ++ Dx : List (S94))).bind fun Dy => ((some (l0_0.drop (D6 : Int).toNat : List (S94))).bind fun Dk => (if Dy.length + Dk.length < 4398046511104 then (some (Dy ++ Dk)) else (none)))) else (none)))) else (none))) else (none))) = some r := by rw [if_neg (show ¬ (false = true) by decide)] at H; exact H
       clear H; have H := H1; clear H1
       obtain ⟨Ek, hy167⟩ : ∃ y_ : List (S94), y_ = (([] : List (S94))) := ⟨_, rfl⟩
       replace H : (if D6 ≤ (l0_0.length : Int) then ((some (l0_0.take (D6 : Int).toNat : List (S94))).bind fun Ea => (if Ek.length + Ea.length < 4398046511104 then ((some (Ek ++ Ea : List (S94))).bind fun E6 => ((some (([(⟨a1_0, a1_1, a1_2, a1_3⟩ : S94)] : List (S94)) : List (S94))).bind fun Dx => (if E6.length + Dx.length < 4398046511104 then ((some (E6 ++ Dx : List (S94))).bind fun Dy => ((some (l0_0.drop (D6 : Int).toNat : List (S94))).bind fun Dk => (if Dy.length + Dk.length < 4398046511104 then (some (Dy ++ Dk)) else (none)))) else (none)))) else (none))) else (none)) = some r := Cmp.hy hy167 H
       have Ew := Cmp.A hy167; clear hy167
       have c55b0 := eq_true (of_decide_eq_true Cmp.d : 0 ≤ D6)
       by_cases c56 : D6 ≤ (l0_0.length : Int)
       ·rw [if_pos c56] at H
        have c56b0 := eq_true c56
        have c56b1 : decide (D6 ≤ (l0_0.length : Int)) = true := decide_eq_true c56
        clear c56
        obtain ⟨Ea, hy170⟩ : ∃ y_ : List (S94), y_ = (l0_0.take (D6 : Int).toNat) := ⟨_, rfl⟩
        replace H : (if Ek.length + Ea.length < 4398046511104 then ((some (Ek ++ Ea : List (S94))).bind fun E6 => ((some (([(⟨a1_0, a1_1, a1_2, a1_3⟩ : S94)] : List (S94)) : List (S94))).bind fun Dx => (if E6.length + Dx.length < 4398046511104 then ((some (E6 ++ Dx : List (S94))).bind fun Dy => ((some (l0_0.drop (D6 : Int).toNat : List (S94))).bind fun Dk => (if Dy.length + Dk.length < 4398046511104 then (some (Dy ++ Dk)) else (none)))) else (none)))) else (none)) = some r := Cmp.hy hy170 H
        have Gm := Cmp.A hy170; clear hy170
        by_cases c57 : Ek.length + Ea.length < 4398046511104
        ·rw [if_pos c57] at H; have LMc57 := Cmp.A c57; clear c57
         obtain ⟨E6, hy174⟩ : ∃ y_ : List (S94), y_ = (Ek ++ Ea) := ⟨_, rfl⟩
         replace H : ((some (([(⟨a1_0, a1_1, a1_2, a1_3⟩ : S94)] : List (S94)) : List (S94))).bind fun Dx => (if E6.length + Dx.length < 4398046511104 then ((some (E6 ++ Dx : List (S94))).bind fun Dy => ((some (l0_0.drop (D6 : Int).toNat : List (S94))).bind fun Dk => (if Dy.length + Dk.length < 4398046511104 then (some (Dy ++ Dk)) else (none)))) else (none))) = some r := Cmp.hy hy174 H
         have F3 := Cmp.A hy174; clear hy174
         obtain ⟨Dx, hy177⟩ : ∃ y_ : List (S94), y_ = (([(⟨a1_0, a1_1, a1_2, a1_3⟩ : S94)] : List (S94))) := ⟨_, rfl⟩
         replace H : (if E6.length + Dx.length < 4398046511104 then ((some (E6 ++ Dx : List (S94))).bind fun Dy => ((some (l0_0.drop (D6 : Int).toNat : List (S94))).bind fun Dk => (if Dy.length + Dk.length < 4398046511104 then (some (Dy ++ Dk)) else (none)))) else (none)) = some r := Cmp.hy hy177 H
         have Ep := Cmp.A hy177; clear hy177
         by_cases c58 : E6.length + Dx.length < 4398046511104
         ·rw [if_pos c58] at H; have LMc58 := Cmp.A c58; clear c58
          obtain ⟨Dy, hy180⟩ : ∃ y_ : List (S94), y_ = (E6 ++ Dx) := ⟨_, rfl⟩
          replace H : ((some (l0_0.drop (D6 : Int).toNat : List (S94))).bind fun Dk => (if Dy.length + Dk.length < 4398046511104 then (some (Dy ++ Dk)) else (none))) = some r := Cmp.hy hy180 H
          have Jd := Cmp.A hy180; clear hy180
          have c59b0 := eq_true (of_decide_eq_true Cmp.d : 0 ≤ D6)
          have c60b0 := eq_true (of_decide_eq_true Cmp.d : D6 ≤ (l0_0.length : Int))
          obtain ⟨Dk, hy183⟩ : ∃ y_ : List (S94), y_ = (l0_0.drop (D6 : Int).toNat) := ⟨_, rfl⟩
          replace H : (if Dy.length + Dk.length < 4398046511104 then (some (Dy ++ Dk)) else (none)) = some r := Cmp.hy hy183 H
          have Gn := Cmp.A hy183; clear hy183
          by_cases c61 : Dy.length + Dk.length < 4398046511104
          ·rw [if_pos c61] at H; have LMc61 := Cmp.A c61; clear c61
           obtain ⟨Gi, hy187⟩ : ∃ y_ : List (S94), y_ = (Dy ++ Dk) := ⟨_, rfl⟩
           replace H : (some Gi) = some r := Cmp.hy hy187 H
           have Je := Cmp.A hy187; clear hy187
           obtain rfl := Option.some.inj H
           try go_wp2
           replace D1 := Cmp.A (Kd.R_drew D1.out); replace D2 := Cmp.A (blk_drew D2.out); replace D0 := Cmp.A (blk_drew D0.out); replace D3 := Cmp.A (blk_drew D3.out); replace D4 := Cmp.A (blk_drew D4.out); replace HB := Cmp.A (below_drew1 HB.out)
           have p165 : 0 ≤ (D6 : Int) := of_decide_eq_true Cmp.d
           have q165 : D6 < (l0_0.length : Int) := of_decide_eq_true Cmp.d
           obtain ⟨Db, e165, Dt, Du, Dv, Dw⟩ := at_T94 E7.out D6 p165 q165
           have Ef := Dw; have Ee := Dv; have Ed := Du; have Ec := Dt; cases e165
           replace Dt := Cmp.hc HB Dt
           replace Du := Cmp.hc HB Du
           replace Dv := Cmp.hc HB Dv
           replace Dw := Cmp.hc HB Dw
           replace p165 := eq_true p165; replace q165 := eq_true q165
           refine start_ (n := 17) (S := fun w' => w'.cell? ⟨Dp, 0, none⟩ = some (.slice (some Db) l0_0.length c0_0) ∧ w'.cell? ⟨D5, 0, none⟩ = some (.int .i64 a1_0) ∧ w'.cell? ⟨D5, 1, none⟩ = some (.int .i64 a1_1) ∧ w'.cell? ⟨D5, 2, none⟩ = some (.int .i64 a1_2) ∧ w'.cell? ⟨D5, 3, none⟩ = some (.bool a1_3) ∧ w'.cell? (Db.add ((D6).toNat * 4)) = some (.int .i64 ((rd_T94 l0_0 D6).f0)) ∧ w'.cell? ⟨(Db.add ((D6).toNat * 4)).block, (Db.add ((D6).toNat * 4)).off + 1, none⟩ = some (.int .i64 ((rd_T94 l0_0 D6).f1)) ∧ w'.cell? ⟨(Db.add ((D6).toNat * 4)).block, (Db.add ((D6).toNat * 4)).off + 2, none⟩ = some (.int .i64 ((rd_T94 l0_0 D6).f2)) ∧ w'.cell? ⟨(Db.add ((D6).toNat * 4)).block, (Db.add ((D6).toNat * 4)).off + 3, none⟩ = some (.bool ((rd_T94 l0_0 D6).f3))) (ds := []) (Cmp.bm 0 17) (by kernel_rfl) rfl rfl ⟨(Cmp.c0 D2 :), (Cmp.c0 D0 :), (Cmp.c1 D0 :), (Cmp.c2 D0 :), (Cmp.c3 D0 :), (Cmp.hc HB Ec :), (Cmp.hc HB Ed :), (Cmp.hc HB Ee :), (Cmp.hc HB Ef :)⟩ (fun hHeld => ?_); refine with_tabW spec_l17Set.tab7 spec_l17Set.bits7 (fun HT_ HW_ => ?_)
           generalize wr.drew = w62 at D1 D2 D0 D3 D4 HB Dt Du Dv Dw hHeld ⊢
           refine Cmp.pu HT_ 0 24 (Cmp.bm 1 16) ?_; refine Cmp.pu HT_ 1 25 (Cmp.bm 2 15) ?_; refine Cmp.tk HT_ HW_ hHeld 2 26 (Cmp.bm 3 14) ?_; refine Cmp.pu HT_ 3 27 (Cmp.bm 4 13) ?_; refine Cmp.pu HT_ 4 28 (Cmp.bm 5 12) ?_; refine Cmp.pu HT_ 5 29 (Cmp.bm 6 11) ?_; refine Cmp.pu HT_ 6 30 (Cmp.bm 7 10) ?_; refine Cmp.pu HT_ 8 32 (Cmp.bb 17 383) ?_; refine Cmp.pu HT_ 11 35 (Cmp.bb 17 2431) ?_; refine Cmp.pu HT_ 13 37 (Cmp.bb 17 10623) ?_; refine Cmp.tk HT_ HW_ hHeld 7 31 (Cmp.bb 17 10751) ?_; refine Cmp.pu HT_ 9 33 (Cmp.bb 17 11263) ?_; refine Cmp.tk HT_ HW_ hHeld 10 34 (Cmp.bb 17 12287) ?_; refine Cmp.tk HT_ HW_ hHeld 12 36 (Cmp.bm 14 3) ?_; refine Cmp.tk HT_ HW_ hHeld 14 38 (Cmp.bm 15 2) ?_
           refine one_ (i := 15) (N := some 39) (Cmp.bm 16 1) rfl rfl (one_of HT_.out (by kernel_rfl)) (by decide) (fun K hK => ?_)
           refine goes_ Try.func107 (by kernel_rfl) rfl #[.agg #[.int .i64 ((rd_T94 l0_0 D6).f0), .int .i64 ((rd_T94 l0_0 D6).f1), .int .i64 ((rd_T94 l0_0 D6).f2), .bool ((rd_T94 l0_0 D6).f3)], .int .i64 a1_0, .int .i64 a1_1] (by rfl) rfl rfl Cmp.q ?_
           with_reducible refine (spec_l17Less.calls ((rd_T94 l0_0 D6).f0) ((rd_T94 l0_0 D6).f1) ((rd_T94 l0_0 D6).f2) ((rd_T94 l0_0 D6).f3) a1_0 a1_1 false _ Kh.out).mono ?_
           rintro e w63 ⟨rfl, hb⟩; refine ⟨_, rfl, ?_⟩
           replace D1 := Cmp.A (Kd.R_below (Cmp.rr D1.out) hb); replace D2 := Cmp.be D2 hb; replace D0 := Cmp.be D0 hb; replace D3 := Cmp.be D3 hb; replace D4 := Cmp.be D4 hb; replace HB := Cmp.A (below_step (Cmp.g HB.out) hb); (try clear hb); (try clear hb2); (try clear hk); (try clear hi)
           refine hK.out _ _ ⟨(Cmp.c0 D2 :), (Cmp.c0 D0 :), (Cmp.c1 D0 :), (Cmp.c2 D0 :), (Cmp.c3 D0 :), (Cmp.hc HB Ec :), (Cmp.hc HB Ed :), (Cmp.hc HB Ee :), (Cmp.hc HB Ef :)⟩ (fun hHeld => ?_)
           clear hK K
           refine Cmp.no ?_
           refine Cmp.pu HT_ 16 40 (Cmp.bm 17 0) ?_
           refine done_ (done_of HT_.out (by kernel_rfl)) ?_
           try go_wp2
           replace D1 := Cmp.A (Kd.R_drew D1.out); replace D2 := Cmp.A (blk_drew D2.out); replace D0 := Cmp.A (blk_drew D0.out); replace D3 := Cmp.A (blk_drew D3.out); replace D4 := Cmp.A (blk_drew D4.out); replace HB := Cmp.A (below_drew1 HB.out)
           have q65 : (D6 : Int) ≤ ((l0_0.length : Int) : Int) := of_decide_eq_true Cmp.d
           obtain ⟨i065, Gs, _, hsz65, _⟩ := info_parts info94
           have Ez : l0_0.length ≤ c0_0 := HC0_0.out
           have Jj : Kd.C k94 _ (some Db) l0_0.length l0_0 := E7.out
           have Gy := cut_to (P := Try.prog) 43 94 .i64 Try.underlying43 Gs (some Db) l0_0.length c0_0 D6 (of_decide_eq_true Cmp.d) q65 Ez
           have hr65 := Kd.C_take (m := (D6 : Int).toNat) Jj (by omega)
           have hy65 : Ea.length = (D6 : Int).toNat := (by rw [Gm.out, List.length_take]; omega)
           rw [← Gm.out] at hr65
           rw [← hy65] at Gy
           have HR173 := Cmp.A hr65
           have Ki := Cmp.A (show Ea.length ≤ c0_0 from by omega)
           clear hr65 Jj Ez Gs hsz65; have KY65 := Cmp.A hy65; clear hy65; replace q65 := eq_true q65
           have q66 : (D6 : Int) ≤ ((l0_0.length : Int) : Int) := of_decide_eq_true Cmp.d
           obtain ⟨i066, Gt, _, hsz66, _⟩ := info_parts info94
           have Er : l0_0.length ≤ c0_0 := HC0_0.out
           have Jk : Kd.C k94 _ (some Db) l0_0.length l0_0 := E7.out
           have q066 : (0 : Int) ≤ (D6 : Int) := of_decide_eq_true Cmp.d
           have Gz := cut_from (P := Try.prog) 43 94 .i64 Try.underlying43 Gt 4 hsz66 (some Db) l0_0.length c0_0 D6 q066 q66
           have hr66 := Kd.C_drop (m := (D6 : Int).toNat) (c := c0_0) Jk (by omega) Er
           obtain ⟨Lm, hA66⟩ : ∃ A1, A1 = (if c0_0 = (D6 : Int).toNat then (some Db) else ((some Db) : Option Addr).map (·.add ((D6 : Int).toNat * 4))) := ⟨_, rfl⟩
           obtain ⟨c66, hc66⟩ : ∃ c1, c1 = c0_0 - (D6 : Int).toNat := ⟨_, rfl⟩
           have hy66 : Dk.length = l0_0.length - (D6 : Int).toNat := (by rw [Gn.out, List.length_drop] <;> omega)
           rw [show (l0_0).drop (D6 : Int).toNat = Dk from Gn.out.symm] at hr66
           replace hr66 : Kd.C k94 _ Lm Dk.length Dk := (by rw [hA66]; exact hr66)
           rw [← hy66, ← hA66, ← hc66] at Gz
           have HR186 := Cmp.A hr66
           have Kj := Cmp.A (show Dk.length ≤ c66 from by rw [hy66, hc66]; exact Nat.sub_le_sub_right Er _)
           clear hr66 Jk Er Gt hsz66 hc66; have KY66 := Cmp.A hy66; have KA66 := Cmp.A hA66; clear hy66 hA66; replace q66 := eq_true q66
           refine start_ (n := 16) (S := fun w' => w'.cell? ⟨Dp, 0, none⟩ = some (.slice (some Db) l0_0.length c0_0) ∧ w'.cell? ⟨D5, 0, none⟩ = some (.int .i64 a1_0) ∧ w'.cell? ⟨D5, 1, none⟩ = some (.int .i64 a1_1) ∧ w'.cell? ⟨D5, 2, none⟩ = some (.int .i64 a1_2) ∧ w'.cell? ⟨D5, 3, none⟩ = some (.bool a1_3)) (ds := []) (Cmp.bm 0 16) (by kernel_rfl) rfl rfl ⟨(Cmp.c0 D2 :), (Cmp.c0 D0 :), (Cmp.c1 D0 :), (Cmp.c2 D0 :), (Cmp.c3 D0 :)⟩ (fun hHeld => ?_); refine with_tabW spec_l17Set.tab9 spec_l17Set.bits9 (fun HT_ HW_ => ?_)
           generalize w63.drew = w64 at D1 D2 D0 D3 D4 HB HR173 HR186 hHeld ⊢
           refine Cmp.pu HT_ 1 44 (Cmp.bb 16 2) ?_; refine Cmp.pu HT_ 3 46 (Cmp.bb 16 10) ?_; refine Cmp.pu HT_ 9 52 (Cmp.bb 16 522) ?_; refine Cmp.pu HT_ 11 54 (Cmp.bb 16 2570) ?_; refine Cmp.tk HT_ HW_ hHeld 2 45 (Cmp.bb 16 2574) ?_; refine Cmp.pu HT_ 4 47 (Cmp.bb 16 2590) ?_; refine Cmp.tk HT_ HW_ hHeld 6 49 (Cmp.bb 16 2654) ?_; refine Cmp.tk HT_ HW_ hHeld 10 53 (Cmp.bb 16 3678) ?_; refine Cmp.pu HT_ 12 55 (Cmp.bb 16 7774) ?_
           refine join_ (σ := Value × Value × Value) 4 (Cmp.bb 16 7935) (fun s_ => [(43, s_.1), (48, s_.2.1), (50, s_.2.2)]) (fun s_ w' => (w'.cell? ⟨Dp, 0, none⟩ = some (.slice (some Db) l0_0.length c0_0) ∧ w'.cell? ⟨D5, 0, none⟩ = some (.int .i64 a1_0) ∧ w'.cell? ⟨D5, 1, none⟩ = some (.int .i64 a1_1) ∧ w'.cell? ⟨D5, 2, none⟩ = some (.int .i64 a1_2) ∧ w'.cell? ⟨D5, 3, none⟩ = some (.bool a1_3)) ∧ (Kd.R k94 94 w' w.heap.size (fun k_ => some k_ ≠ (s_.2.2 : Value).ownBlock ∧ some k_ ≠ (.slice Dc D7.length Dd : Value).ownBlock ∧ k_ ≠ D5) s_.2.1 E6) ∧ (Kd.R k94 94 w' w.heap.size (fun k_ => some k_ ≠ (s_.2.1 : Value).ownBlock ∧ some k_ ≠ (.slice Dc D7.length Dd : Value).ownBlock ∧ k_ ≠ D5) s_.2.2 Dx) ∧ (Kd.R k94 94 w' w.heap.size (fun k_ => some k_ ≠ (s_.2.1 : Value).ownBlock ∧ some k_ ≠ (s_.2.2 : Value).ownBlock ∧ k_ ≠ D5) (.slice Dc D7.length Dd) D7) ∧ (w'.heap[Dp]? = some (.cells #[.slice (some Db) l0_0.length c0_0] 45 (0, 0))) ∧ (w'.heap[D5]? = some (.cells #[.int .i64 a1_0, .int .i64 a1_1, .int .i64 a1_2, .bool a1_3] 94 (0, 0))) ∧ (w'.heap[Dz]? = some (.cells #[.slice none 0 0] 45 (0, 0))) ∧ (w'.heap[Dg]? = some (.cells #[.slice Dc D7.length Dd] 45 (0, 0))) ∧ (Below w.heap.size w w')) ?_ ?_
           rotate_left
           ·intro hCont
            refine two_ (i := 0) (j := 7) (Ni := some 43) (Nj := some 50) (Cmp.bb 16 7775) (Cmp.bb 16 7902) rfl rfl rfl rfl (two_of HT_.out (by kernel_rfl)) (by decide) (by decide) (fun K hK => ?_) (fun K hK => ?_)
            ·skip
             refine Kd.R_lit_step k94 _ 94 ?hg (N := 43) ?hd (xs := ([] : List (S94))) (inner := []) (ok := fun _ => True) (okp := fun _ => True) ?hr ?hp (fun _ hk => hk) trivial (Below.refl _ _) (Nat.le_refl _) (by simp) ?_; (case hd => rfl); (case hg => rfl); (case hr => first | (go_simp; done) | (go_simp; rfl)); (case hp => exact (Reps.none _ _))
             intro v168 w67 Ei hb hg_ hnew_
             clear hg_ hnew_
             (first | rw [← Ew.out] at Ei | (simp only [Int.reduceToNat] at Ei; rw [← Ew.out] at Ei))
             have Dh := Cmp.A (Kd.R_lower (Kd.R_newB (Kd.R_new' Ei (Kd.R_lt (Cmp.rr D1.out))) (g := D5) (o := .cells #[.int .i64 a1_0, .int .i64 a1_1, .int .i64 a1_2, .bool a1_3] 94 (0, 0)) (Cmp.b D0.out)) (below_size (Cmp.g HB.out))); replace D1 := Cmp.A (Kd.R_elder' (Cmp.rr D1.out) (Kd.R_base Ei) hb); replace D2 := Cmp.be D2 hb; replace D0 := Cmp.be D0 hb; replace D3 := Cmp.be D3 hb; replace D4 := Cmp.be D4 hb; replace HB := Cmp.A (below_step (Cmp.g HB.out) hb); clear hb Ei
             refine hK.out _ _ ⟨(Cmp.c0 D2 :), (Cmp.c0 D0 :), (Cmp.c1 D0 :), (Cmp.c2 D0 :), (Cmp.c3 D0 :)⟩ (fun hHeld => ?_)
             clear hK K
             refine Cmp.no ?_
             refine two_ (i := 5) (j := 7) (Ni := some 48) (Nj := some 50) (Cmp.bb 16 7807) (Cmp.bb 16 7903) rfl rfl rfl rfl (two_of HT_.out (by kernel_rfl)) (by decide) (by decide) (fun K hK => ?_) (fun K hK => ?_)
             ·skip
              refine Kd.R_append_rows_step k94 (w0 := w) w.heap.size (by rfl) (.tmp 43) (.tmp 47) 43 94 (.agg #[(.int .i64 0), (.int .i64 0), (.int .i64 0), (.bool false)]) 32 rfl Try.underlying43 info94 rfl (by decide) (by omega) v168 Ek Ea _ _ _ (fun k_ => some k_ ≠ (.slice Dc D7.length Dd : Value).ownBlock ∧ k_ ≠ D5) (fun _ => False) rfl rfl ?aO ?aR (fun _ _ h => h) (fun _ h => h.elim) ?aF ?aB ?aS ?aL ?_
              (case aR => repeat (first | exact (Kd.C_below HR173.out HB.out) | (with_reducible refine Kd.C_alloc ?_ _) | (with_reducible refine Kd.C_drewN ?_ _) | (with_reducible refine Kd.C_drew ?_)))
              (case aB => exact (Cmp.g HB.out))
              (case aF => exact (fun k_ hk => ⟨Kd.fresh' (Kd.R_lt (Cmp.rr D1.out)) k_ hk, Kd.freshB (g := D5) (o := .cells #[.int .i64 a1_0, .int .i64 a1_1, .int .i64 a1_2, .bool a1_3] 94 (0, 0)) (Cmp.b D0.out) k_ hk⟩))
              (case aO => exact (Cmp.rm Dh.out (fun _ hk => ⟨hk.1.2, hk.2⟩)))
              (case aS => exact (below_size (Cmp.g HB.out)))
              (case aL => have := LMc57.out; omega)
              intro v175 w69 ho hb hg hat
              rw [← F3.out] at ho
              have Dr := Cmp.A (ho); replace D1 := Cmp.A (Kd.R_after (ok := (fun k_ => k_ ≠ D5)) (Cmp.rr D1.out) hg hat); replace D2 := Cmp.bg D2 hg (Kd.R_ne Dh.out D2.out (by decide)); replace D0 := Cmp.bg D0 hg (Kd.R_away Dh.out (fun _ hk => hk.2)); replace D3 := Cmp.bg D3 hg (Kd.R_ne Dh.out D3.out (by decide)); replace D4 := Cmp.bg D4 hg (Kd.R_ne Dh.out D4.out (by decide)); replace HB := Cmp.A (hb); clear Dh; clear ho hb hg hat
              refine hK.out _ _ ⟨(Cmp.c0 D2 :), (Cmp.c0 D0 :), (Cmp.c1 D0 :), (Cmp.c2 D0 :), (Cmp.c3 D0 :)⟩ (fun hHeld => ?_)
              clear hK K
              refine Cmp.no ?_
              refine one_ (i := 7) (N := some 50) (Cmp.bb 16 7935) rfl rfl (one_of HT_.out (by kernel_rfl)) (by decide) (fun K hK => ?_)
              refine Kd.R_lit_step k94 _ 94 ?hg (N := 50) ?hd (xs := ([(⟨a1_0, a1_1, a1_2, a1_3⟩ : S94)] : List (S94))) (inner := [.int .i64 a1_0, .int .i64 a1_1, .int .i64 a1_2, .bool a1_3]) (ok := fun _ => True) (okp := fun _ => True) ?hr ?hp (fun _ hk => hk) trivial (Below.refl _ _) (Nat.le_refl _) (by simp) ?_; (case hd => rfl); (case hg => rfl); (case hr => first | (go_simp; done) | (go_simp; rfl)); (case hp => exact (Reps.c4 (show Kd.M k94 _ _ _ (⟨a1_0, a1_1, a1_2, a1_3⟩ : S94) [.int .i64 a1_0, .int .i64 a1_1, .int .i64 a1_2, .bool a1_3] from (k94_mkM _ _ _ (⟨a1_0, a1_1, a1_2, a1_3⟩ : S94) )) (Reps.none _ _)))
              intro v178 w70 Eu hb hg_ hnew_
              clear hg_ hnew_
              (first | rw [← Ep.out] at Eu | (simp only [Int.reduceToNat] at Eu; rw [← Ep.out] at Eu))
              have D9 := Cmp.A (Kd.R_lower (Kd.R_newB (Kd.R_new' (Kd.R_new' Eu (Kd.R_lt (Cmp.rr D1.out))) (Kd.R_lt (Cmp.rr Dr.out))) (g := D5) (o := .cells #[.int .i64 a1_0, .int .i64 a1_1, .int .i64 a1_2, .bool a1_3] 94 (0, 0)) (Cmp.b D0.out)) (below_size (Cmp.g HB.out))); replace D1 := Cmp.A (Kd.R_elder' (Cmp.rr D1.out) (Kd.R_base Eu) hb); replace Dr := Cmp.A (Kd.R_elder' (Cmp.rr Dr.out) (Kd.R_base Eu) hb); replace D2 := Cmp.be D2 hb; replace D0 := Cmp.be D0 hb; replace D3 := Cmp.be D3 hb; replace D4 := Cmp.be D4 hb; replace HB := Cmp.A (below_step (Cmp.g HB.out) hb); clear hb Eu
              refine hK.out _ _ ⟨(Cmp.c0 D2 :), (Cmp.c0 D0 :), (Cmp.c1 D0 :), (Cmp.c2 D0 :), (Cmp.c3 D0 :)⟩ (fun hHeld => ?_)
              clear hK K
              refine Cmp.no ?_
              exact norm_ (by simp only [putAll, Act.put, List.setIfInBounds_toArray, List.set_cons_zero, List.set_cons_succ]) (hCont (v168, v175, v178) _ ⟨hHeld, (Cmp.rm Dr.out (fun _ hk => ⟨hk.2, ⟨hk.1.1, hk.1.2⟩⟩)), (Cmp.rm D9.out (fun _ hk => ⟨hk.1.2, ⟨hk.1.1.2, hk.2⟩⟩)), (Cmp.rm D1.out (fun _ hk => ⟨hk.1.2, ⟨hk.2, hk.1.1⟩⟩)), (Cmp.b D2.out), (Cmp.b D0.out), (Cmp.b D3.out), (Cmp.b D4.out), (Cmp.g HB.out)⟩)
             ·skip
              refine Kd.R_lit_step k94 _ 94 ?hg (N := 50) ?hd (xs := ([(⟨a1_0, a1_1, a1_2, a1_3⟩ : S94)] : List (S94))) (inner := [.int .i64 a1_0, .int .i64 a1_1, .int .i64 a1_2, .bool a1_3]) (ok := fun _ => True) (okp := fun _ => True) ?hr ?hp (fun _ hk => hk) trivial (Below.refl _ _) (Nat.le_refl _) (by simp) ?_; (case hd => rfl); (case hg => rfl); (case hr => first | (go_simp; done) | (go_simp; rfl)); (case hp => exact (Reps.c4 (show Kd.M k94 _ _ _ (⟨a1_0, a1_1, a1_2, a1_3⟩ : S94) [.int .i64 a1_0, .int .i64 a1_1, .int .i64 a1_2, .bool a1_3] from (k94_mkM _ _ _ (⟨a1_0, a1_1, a1_2, a1_3⟩ : S94) )) (Reps.none _ _)))
              intro v178 w69 E8 hb hg_ hnew_
              clear hg_ hnew_
              (first | rw [← Ep.out] at E8 | (simp only [Int.reduceToNat] at E8; rw [← Ep.out] at E8))
              have D9 := Cmp.A (Kd.R_lower (Kd.R_newB (Kd.R_new' (Kd.R_new' E8 (Kd.R_lt (Cmp.rr D1.out))) (Kd.R_lt (Cmp.rr Dh.out))) (g := D5) (o := .cells #[.int .i64 a1_0, .int .i64 a1_1, .int .i64 a1_2, .bool a1_3] 94 (0, 0)) (Cmp.b D0.out)) (below_size (Cmp.g HB.out))); replace D1 := Cmp.A (Kd.R_elder' (Cmp.rr D1.out) (Kd.R_base E8) hb); replace Dh := Cmp.A (Kd.R_elder' (Cmp.rr Dh.out) (Kd.R_base E8) hb); replace D2 := Cmp.be D2 hb; replace D0 := Cmp.be D0 hb; replace D3 := Cmp.be D3 hb; replace D4 := Cmp.be D4 hb; replace HB := Cmp.A (below_step (Cmp.g HB.out) hb); clear hb E8
              refine hK.out _ _ ⟨(Cmp.c0 D2 :), (Cmp.c0 D0 :), (Cmp.c1 D0 :), (Cmp.c2 D0 :), (Cmp.c3 D0 :)⟩ (fun hHeld => ?_)
              clear hK K
              refine Cmp.no ?_
              refine one_ (i := 5) (N := some 48) (Cmp.bb 16 7935) rfl rfl (one_of HT_.out (by kernel_rfl)) (by decide) (fun K hK => ?_)
              refine Kd.R_append_rows_step k94 (w0 := w) w.heap.size (by rfl) (.tmp 43) (.tmp 47) 43 94 (.agg #[(.int .i64 0), (.int .i64 0), (.int .i64 0), (.bool false)]) 32 rfl Try.underlying43 info94 rfl (by decide) (by omega) v168 Ek Ea _ _ _ (fun k_ => some k_ ≠ (.slice Dc D7.length Dd : Value).ownBlock ∧ some k_ ≠ (v178 : Value).ownBlock ∧ k_ ≠ D5) (fun _ => False) rfl rfl ?aO ?aR (fun _ _ h => h) (fun _ h => h.elim) ?aF ?aB ?aS ?aL ?_
              (case aR => repeat (first | exact (Kd.C_below HR173.out HB.out) | (with_reducible refine Kd.C_alloc ?_ _) | (with_reducible refine Kd.C_drewN ?_ _) | (with_reducible refine Kd.C_drew ?_)))
              (case aB => exact (Cmp.g HB.out))
              (case aF => exact (fun k_ hk => ⟨Kd.fresh' (Kd.R_lt (Cmp.rr D1.out)) k_ hk, Kd.fresh' (Kd.R_lt (Cmp.rr D9.out)) k_ hk, Kd.freshB (g := D5) (o := .cells #[.int .i64 a1_0, .int .i64 a1_1, .int .i64 a1_2, .bool a1_3] 94 (0, 0)) (Cmp.b D0.out) k_ hk⟩))
              (case aO => exact (Cmp.rm Dh.out (fun _ hk => ⟨hk.1.1.2, ⟨hk.2, hk.1.2⟩⟩)))
              (case aS => exact (below_size (Cmp.g HB.out)))
              (case aL => have := LMc57.out; omega)
              intro v175 w71 ho hb hg hat
              rw [← F3.out] at ho
              have Dr := Cmp.A (ho); replace D1 := Cmp.A (Kd.R_after (ok := (fun k_ => some k_ ≠ (v178 : Value).ownBlock ∧ k_ ≠ D5)) (Cmp.rm D1.out (fun _ hk => ⟨⟨hk.2, hk.1.1⟩, hk.1.2⟩)) hg hat); replace D2 := Cmp.bg D2 hg (Kd.R_ne Dh.out D2.out (by decide)); replace D0 := Cmp.bg D0 hg (Kd.R_away Dh.out (fun _ hk => hk.1.2)); replace D3 := Cmp.bg D3 hg (Kd.R_ne Dh.out D3.out (by decide)); replace D4 := Cmp.bg D4 hg (Kd.R_ne Dh.out D4.out (by decide)); replace D9 := Cmp.A (Kd.R_after (ok := (fun k_ => some k_ ≠ (.slice Dc D7.length Dd : Value).ownBlock ∧ k_ ≠ D5)) (Cmp.rm D9.out (fun _ hk => ⟨⟨hk.1.1.2, hk.2⟩, hk.1.2⟩)) hg hat); replace HB := Cmp.A (hb); clear Dh; clear ho hb hg hat
              refine hK.out _ _ ⟨(Cmp.c0 D2 :), (Cmp.c0 D0 :), (Cmp.c1 D0 :), (Cmp.c2 D0 :), (Cmp.c3 D0 :)⟩ (fun hHeld => ?_)
              clear hK K
              refine Cmp.no ?_
              exact norm_ (by simp only [putAll, Act.put, List.setIfInBounds_toArray, List.set_cons_zero, List.set_cons_succ]) (hCont (v168, v175, v178) _ ⟨hHeld, (Cmp.rm Dr.out (fun _ hk => ⟨hk.2.1, ⟨hk.1, hk.2.2⟩⟩)), (Cmp.rm D9.out (fun _ hk => ⟨hk.2, ⟨hk.1.1, hk.1.2⟩⟩)), (Cmp.rm D1.out (fun _ hk => ⟨hk.2, ⟨hk.1.1, hk.1.2⟩⟩)), (Cmp.b D2.out), (Cmp.b D0.out), (Cmp.b D3.out), (Cmp.b D4.out), (Cmp.g HB.out)⟩)
            ·skip
             refine Kd.R_lit_step k94 _ 94 ?hg (N := 50) ?hd (xs := ([(⟨a1_0, a1_1, a1_2, a1_3⟩ : S94)] : List (S94))) (inner := [.int .i64 a1_0, .int .i64 a1_1, .int .i64 a1_2, .bool a1_3]) (ok := fun _ => True) (okp := fun _ => True) ?hr ?hp (fun _ hk => hk) trivial (Below.refl _ _) (Nat.le_refl _) (by simp) ?_; (case hd => rfl); (case hg => rfl); (case hr => first | (go_simp; done) | (go_simp; rfl)); (case hp => exact (Reps.c4 (show Kd.M k94 _ _ _ (⟨a1_0, a1_1, a1_2, a1_3⟩ : S94) [.int .i64 a1_0, .int .i64 a1_1, .int .i64 a1_2, .bool a1_3] from (k94_mkM _ _ _ (⟨a1_0, a1_1, a1_2, a1_3⟩ : S94) )) (Reps.none _ _)))
             intro v178 w67 Ei hb hg_ hnew_
             clear hg_ hnew_
             (first | rw [← Ep.out] at Ei | (simp only [Int.reduceToNat] at Ei; rw [← Ep.out] at Ei))
             have D9 := Cmp.A (Kd.R_lower (Kd.R_newB (Kd.R_new' Ei (Kd.R_lt (Cmp.rr D1.out))) (g := D5) (o := .cells #[.int .i64 a1_0, .int .i64 a1_1, .int .i64 a1_2, .bool a1_3] 94 (0, 0)) (Cmp.b D0.out)) (below_size (Cmp.g HB.out))); replace D1 := Cmp.A (Kd.R_elder' (Cmp.rr D1.out) (Kd.R_base Ei) hb); replace D2 := Cmp.be D2 hb; replace D0 := Cmp.be D0 hb; replace D3 := Cmp.be D3 hb; replace D4 := Cmp.be D4 hb; replace HB := Cmp.A (below_step (Cmp.g HB.out) hb); clear hb Ei
             refine hK.out _ _ ⟨(Cmp.c0 D2 :), (Cmp.c0 D0 :), (Cmp.c1 D0 :), (Cmp.c2 D0 :), (Cmp.c3 D0 :)⟩ (fun hHeld => ?_)
             clear hK K
             refine Cmp.no ?_
             refine one_ (i := 0) (N := some 43) (Cmp.bb 16 7903) rfl rfl (one_of HT_.out (by kernel_rfl)) (by decide) (fun K hK => ?_)
             refine Kd.R_lit_step k94 _ 94 ?hg (N := 43) ?hd (xs := ([] : List (S94))) (inner := []) (ok := fun _ => True) (okp := fun _ => True) ?hr ?hp (fun _ hk => hk) trivial (Below.refl _ _) (Nat.le_refl _) (by simp) ?_; (case hd => rfl); (case hg => rfl); (case hr => first | (go_simp; done) | (go_simp; rfl)); (case hp => exact (Reps.none _ _))
             intro v168 w69 E8 hb hg_ hnew_
             clear hg_ hnew_
             (first | rw [← Ew.out] at E8 | (simp only [Int.reduceToNat] at E8; rw [← Ew.out] at E8))
             have Dh := Cmp.A (Kd.R_lower (Kd.R_newB (Kd.R_new' (Kd.R_new' E8 (Kd.R_lt (Cmp.rr D1.out))) (Kd.R_lt (Cmp.rr D9.out))) (g := D5) (o := .cells #[.int .i64 a1_0, .int .i64 a1_1, .int .i64 a1_2, .bool a1_3] 94 (0, 0)) (Cmp.b D0.out)) (below_size (Cmp.g HB.out))); replace D1 := Cmp.A (Kd.R_elder' (Cmp.rr D1.out) (Kd.R_base E8) hb); replace D9 := Cmp.A (Kd.R_elder' (Cmp.rr D9.out) (Kd.R_base E8) hb); replace D2 := Cmp.be D2 hb; replace D0 := Cmp.be D0 hb; replace D3 := Cmp.be D3 hb; replace D4 := Cmp.be D4 hb; replace HB := Cmp.A (below_step (Cmp.g HB.out) hb); clear hb E8
             refine hK.out _ _ ⟨(Cmp.c0 D2 :), (Cmp.c0 D0 :), (Cmp.c1 D0 :), (Cmp.c2 D0 :), (Cmp.c3 D0 :)⟩ (fun hHeld => ?_)
             clear hK K
             refine Cmp.no ?_
             refine one_ (i := 5) (N := some 48) (Cmp.bb 16 7935) rfl rfl (one_of HT_.out (by kernel_rfl)) (by decide) (fun K hK => ?_)
             refine Kd.R_append_rows_step k94 (w0 := w) w.heap.size (by rfl) (.tmp 43) (.tmp 47) 43 94 (.agg #[(.int .i64 0), (.int .i64 0), (.int .i64 0), (.bool false)]) 32 rfl Try.underlying43 info94 rfl (by decide) (by omega) v168 Ek Ea _ _ _ (fun k_ => some k_ ≠ (.slice Dc D7.length Dd : Value).ownBlock ∧ some k_ ≠ (v178 : Value).ownBlock ∧ k_ ≠ D5) (fun _ => False) rfl rfl ?aO ?aR (fun _ _ h => h) (fun _ h => h.elim) ?aF ?aB ?aS ?aL ?_
             (case aR => repeat (first | exact (Kd.C_below HR173.out HB.out) | (with_reducible refine Kd.C_alloc ?_ _) | (with_reducible refine Kd.C_drewN ?_ _) | (with_reducible refine Kd.C_drew ?_)))
             (case aB => exact (Cmp.g HB.out))
             (case aF => exact (fun k_ hk => ⟨Kd.fresh' (Kd.R_lt (Cmp.rr D1.out)) k_ hk, Kd.fresh' (Kd.R_lt (Cmp.rr D9.out)) k_ hk, Kd.freshB (g := D5) (o := .cells #[.int .i64 a1_0, .int .i64 a1_1, .int .i64 a1_2, .bool a1_3] 94 (0, 0)) (Cmp.b D0.out) k_ hk⟩))
             (case aO => exact (Cmp.rm Dh.out (fun _ hk => ⟨hk.1.1.2, ⟨hk.1.2, hk.2⟩⟩)))
             (case aS => exact (below_size (Cmp.g HB.out)))
             (case aL => have := LMc57.out; omega)
             intro v175 w71 ho hb hg hat
             rw [← F3.out] at ho
             have Dr := Cmp.A (ho); replace D1 := Cmp.A (Kd.R_after (ok := (fun k_ => some k_ ≠ (v178 : Value).ownBlock ∧ k_ ≠ D5)) (Cmp.rm D1.out (fun _ hk => ⟨⟨hk.1.2, hk.1.1⟩, hk.2⟩)) hg hat); replace D2 := Cmp.bg D2 hg (Kd.R_ne Dh.out D2.out (by decide)); replace D0 := Cmp.bg D0 hg (Kd.R_away Dh.out (fun _ hk => hk.2)); replace D3 := Cmp.bg D3 hg (Kd.R_ne Dh.out D3.out (by decide)); replace D4 := Cmp.bg D4 hg (Kd.R_ne Dh.out D4.out (by decide)); replace D9 := Cmp.A (Kd.R_after (ok := (fun k_ => some k_ ≠ (.slice Dc D7.length Dd : Value).ownBlock ∧ k_ ≠ D5)) (Cmp.rm D9.out (fun _ hk => ⟨⟨hk.1.1.2, hk.1.2⟩, hk.2⟩)) hg hat); replace HB := Cmp.A (hb); clear Dh; clear ho hb hg hat
             refine hK.out _ _ ⟨(Cmp.c0 D2 :), (Cmp.c0 D0 :), (Cmp.c1 D0 :), (Cmp.c2 D0 :), (Cmp.c3 D0 :)⟩ (fun hHeld => ?_)
             clear hK K
             refine Cmp.no ?_
             exact norm_ (by simp only [putAll, Act.put, List.setIfInBounds_toArray, List.set_cons_zero, List.set_cons_succ]) (hCont (v168, v175, v178) _ ⟨hHeld, (Cmp.rm Dr.out (fun _ hk => ⟨hk.2.1, ⟨hk.1, hk.2.2⟩⟩)), (Cmp.rm D9.out (fun _ hk => ⟨hk.2, ⟨hk.1.1, hk.1.2⟩⟩)), (Cmp.rm D1.out (fun _ hk => ⟨hk.2, ⟨hk.1.1, hk.1.2⟩⟩)), (Cmp.b D2.out), (Cmp.b D0.out), (Cmp.b D3.out), (Cmp.b D4.out), (Cmp.g HB.out)⟩)
           rintro ⟨v168, v175, v178⟩ w72 ⟨hS_, h0_, h1_, h2_, h3_, h4_, h5_, h6_, h7_⟩
           have n0_ : Aside0 (Kd.R k94 94 w72 w.heap.size (fun k_ => some k_ ≠ (v178 : Value).ownBlock ∧ some k_ ≠ (.slice Dc D7.length Dd : Value).ownBlock ∧ k_ ≠ D5) v175 E6) := ⟨h0_⟩
           have n1_ : Aside0 (Kd.R k94 94 w72 w.heap.size (fun k_ => some k_ ≠ (v175 : Value).ownBlock ∧ some k_ ≠ (.slice Dc D7.length Dd : Value).ownBlock ∧ k_ ≠ D5) v178 Dx) := ⟨h1_⟩
           have n2_ : Aside0 (Kd.R k94 94 w72 w.heap.size (fun k_ => some k_ ≠ (v175 : Value).ownBlock ∧ some k_ ≠ (v178 : Value).ownBlock ∧ k_ ≠ D5) (.slice Dc D7.length Dd) D7) := ⟨h2_⟩
           have n3_ : Aside0 (w72.heap[Dp]? = some (.cells #[.slice (some Db) l0_0.length c0_0] 45 (0, 0))) := ⟨h3_⟩
           have n4_ : Aside0 (w72.heap[D5]? = some (.cells #[.int .i64 a1_0, .int .i64 a1_1, .int .i64 a1_2, .bool a1_3] 94 (0, 0))) := ⟨h4_⟩
           have n5_ : Aside0 (w72.heap[Dz]? = some (.cells #[.slice none 0 0] 45 (0, 0))) := ⟨h5_⟩
           have n6_ : Aside0 (w72.heap[Dg]? = some (.cells #[.slice Dc D7.length Dd] 45 (0, 0))) := ⟨h6_⟩
           have n7_ : Aside0 (Below w.heap.size w w72) := ⟨h7_⟩
           clear D1; clear D2; clear D0; clear D3; clear D4; clear HB; clear h0_ h1_ h2_ h3_ h4_ h5_ h6_ h7_; have Dr := n0_; have D9 := n1_; have D1 := n2_; have D2 := n3_; have D0 := n4_; have D3 := n5_; have D4 := n6_; have HB := n7_; clear n0_ n1_ n2_ n3_ n4_ n5_ n6_ n7_
           have hHeld : w72.cell? ⟨Dp, 0, none⟩ = some (.slice (some Db) l0_0.length c0_0) ∧ w72.cell? ⟨D5, 0, none⟩ = some (.int .i64 a1_0) ∧ w72.cell? ⟨D5, 1, none⟩ = some (.int .i64 a1_1) ∧ w72.cell? ⟨D5, 2, none⟩ = some (.int .i64 a1_2) ∧ w72.cell? ⟨D5, 3, none⟩ = some (.bool a1_3) := hS_
           obtain ⟨Fa, Fb, Jh⟩ := Kd.R_slice D9.out
           (first | subst Jh | (injection Jh with f1_ f2_ f3_; have f4_ := f1_.symm; have f5_ := f3_.symm; clear f1_ f2_ f3_; subst f4_; subst f5_))
           refine norm_ (a' := ?_) ?_ ?_
           rotate_left
           ·simp only [putAll, Act.put, List.setIfInBounds_toArray, List.set_cons_zero, List.set_cons_succ]; rfl
           refine one_ (i := 8) (N := some 51) (Cmp.bm 13 3) rfl rfl (one_of HT_.out (by kernel_rfl)) (by decide) (fun K hK => ?_)
           refine Kd.R_append_rows_step k94 (w0 := w) w.heap.size (by rfl) (.tmp 48) (.tmp 50) 43 94 (.agg #[(.int .i64 0), (.int .i64 0), (.int .i64 0), (.bool false)]) 32 rfl Try.underlying43 info94 rfl (by decide) (by omega) v175 E6 Dx _ _ _ (fun k_ => some k_ ≠ (.slice Dc D7.length Dd : Value).ownBlock ∧ some k_ ≠ (.slice Fa Dx.length Fb : Value).ownBlock ∧ k_ ≠ D5) (fun _ => False) rfl rfl ?aO ?aR (fun _ _ h => h) (fun _ h => h.elim) ?aF ?aB ?aS ?aL ?_
           (case aR => repeat (first | exact (Kd.R_reads' D9.out).2.2 | (with_reducible refine Kd.C_alloc ?_ _) | (with_reducible refine Kd.C_drewN ?_ _) | (with_reducible refine Kd.C_drew ?_)))
           (case aB => exact (Cmp.g HB.out))
           (case aF => exact (fun k_ hk => ⟨Kd.fresh' (Kd.R_lt (Cmp.rr D1.out)) k_ hk, Kd.fresh' (Kd.R_lt (Cmp.rr D9.out)) k_ hk, Kd.freshB (g := D5) (o := .cells #[.int .i64 a1_0, .int .i64 a1_1, .int .i64 a1_2, .bool a1_3] 94 (0, 0)) (Cmp.b D0.out) k_ hk⟩))
           (case aO => exact (Cmp.rm Dr.out (fun _ hk => ⟨hk.2.1, ⟨hk.1, hk.2.2⟩⟩)))
           (case aS => exact (below_size (Cmp.g HB.out)))
           (case aL => have := LMc58.out; omega)
           intro v181 w73 ho hb hg hat
           rw [← Jd.out] at ho
           have En := Cmp.A (ho); replace D1 := Cmp.A (Kd.R_after (ok := (fun k_ => some k_ ≠ (.slice Fa Dx.length Fb : Value).ownBlock ∧ k_ ≠ D5)) (Cmp.rm D1.out (fun _ hk => ⟨⟨hk.2.1, hk.2.2⟩, hk.1⟩)) hg hat); replace D2 := Cmp.bg D2 hg (Kd.R_ne Dr.out D2.out (by decide)); replace D0 := Cmp.bg D0 hg (Kd.R_away Dr.out (fun _ hk => hk.2.2)); replace D3 := Cmp.bg D3 hg (Kd.R_ne Dr.out D3.out (by decide)); replace D4 := Cmp.bg D4 hg (Kd.R_ne Dr.out D4.out (by decide)); replace D9 := Cmp.A (Kd.R_after (ok := (fun k_ => some k_ ≠ (.slice Dc D7.length Dd : Value).ownBlock ∧ k_ ≠ D5)) (Cmp.rm D9.out (fun _ hk => ⟨⟨hk.2.1, hk.2.2⟩, hk.1⟩)) hg hat); replace HB := Cmp.A (hb); clear Dr; clear ho hb hg hat
           refine hK.out _ _ ⟨(Cmp.c0 D2 :), (Cmp.c0 D0 :), (Cmp.c1 D0 :), (Cmp.c2 D0 :), (Cmp.c3 D0 :)⟩ (fun hHeld => ?_)
           clear hK K
           refine Cmp.no ?_
           refine one_ (i := 13) (N := some 56) (Cmp.bm 14 2) rfl rfl (one_of HT_.out (by kernel_rfl)) (by decide) (fun K hK => ?_)
           refine Kd.R_append_rows_step k94 (w0 := w) w.heap.size (by rfl) (.tmp 51) (.tmp 55) 43 94 (.agg #[(.int .i64 0), (.int .i64 0), (.int .i64 0), (.bool false)]) 32 rfl Try.underlying43 info94 rfl (by decide) (by omega) v181 Dy Dk _ _ _ (fun k_ => some k_ ≠ (.slice Dc D7.length Dd : Value).ownBlock ∧ some k_ ≠ (.slice Fa Dx.length Fb : Value).ownBlock ∧ k_ ≠ D5) (fun _ => False) rfl rfl ?aO ?aR (fun _ _ h => h) (fun _ h => h.elim) ?aF ?aB ?aS ?aL ?_
           (case aR => repeat (first | exact (Kd.C_below HR186.out HB.out) | (with_reducible refine Kd.C_alloc ?_ _) | (with_reducible refine Kd.C_drewN ?_ _) | (with_reducible refine Kd.C_drew ?_)))
           (case aB => exact (Cmp.g HB.out))
           (case aF => exact (fun k_ hk => ⟨Kd.fresh' (Kd.R_lt (Cmp.rr D1.out)) k_ hk, Kd.fresh' (Kd.R_lt (Cmp.rr D9.out)) k_ hk, Kd.freshB (g := D5) (o := .cells #[.int .i64 a1_0, .int .i64 a1_1, .int .i64 a1_2, .bool a1_3] 94 (0, 0)) (Cmp.b D0.out) k_ hk⟩))
           (case aO => exact (Cmp.rr En.out))
           (case aS => exact (below_size (Cmp.g HB.out)))
           (case aL => have := LMc61.out; omega)
           intro v188 w75 ho hb hg hat
           rw [← Je.out] at ho
           have Gk := Cmp.A (ho); replace D1 := Cmp.A (Kd.R_after (ok := (fun k_ => some k_ ≠ (.slice Fa Dx.length Fb : Value).ownBlock ∧ k_ ≠ D5)) (Cmp.rr D1.out) hg hat); replace D2 := Cmp.bg D2 hg (Kd.R_ne En.out D2.out (by decide)); replace D0 := Cmp.bg D0 hg (Kd.R_away En.out (fun _ hk => hk.2.2)); replace D3 := Cmp.bg D3 hg (Kd.R_ne En.out D3.out (by decide)); replace D4 := Cmp.bg D4 hg (Kd.R_ne En.out D4.out (by decide)); replace D9 := Cmp.A (Kd.R_after (ok := (fun k_ => some k_ ≠ (.slice Dc D7.length Dd : Value).ownBlock ∧ k_ ≠ D5)) (Cmp.rr D9.out) hg hat); replace HB := Cmp.A (hb); clear En; clear ho hb hg hat
           obtain ⟨Gw, Gx, Ji⟩ := Kd.R_slice Gk.out
           (first | subst Ji | (injection Ji with f1_ f2_ f3_; have f4_ := f1_.symm; have f5_ := f3_.symm; clear f1_ f2_ f3_; subst f4_; subst f5_))
           refine hK.out _ _ ⟨(Cmp.c0 D2 :), (Cmp.c0 D0 :), (Cmp.c1 D0 :), (Cmp.c2 D0 :), (Cmp.c3 D0 :)⟩ (fun hHeld => ?_)
           clear hK K
           refine Cmp.no ?_
           refine Cmp.pu HT_ 14 57 (Cmp.bm 15 1) ?_
           refine one_ (i := 15) (N := none) (Cmp.bm 16 0) rfl rfl (one_of HT_.out (by kernel_rfl)) (by decide) (fun K hK => ?_)
           have hs77 : w75.cell? ⟨Dg, 0, none⟩ = some (.slice Dc D7.length Dd) := (blk_cell D4.out 0).trans rfl
           have hfs77 := blk_frozen D4.out 0; have hns77_0 := Dj.out; have hns77_1 := D8.out; have hns77_2 := Dl.out; have hms77_0 := Dm.out; have hms77_1 := Dn.out; have hms77_2 := Do.out
           refine skip_ (w1 := ?_) (by rfl) rfl ?_ ?_
           rotate_left
           ·go_simp; rfl
           refine hK.out _ _ ⟨((cell_far (p := ⟨Dg, _, none⟩) Dj.out _).trans (hHeld.1)), ((cell_far (p := ⟨Dg, _, none⟩) D8.out _).trans (hHeld.2.1)), ((cell_far (p := ⟨Dg, _, none⟩) D8.out _).trans (hHeld.2.2.1)), ((cell_far (p := ⟨Dg, _, none⟩) D8.out _).trans (hHeld.2.2.2.1)), ((cell_far (p := ⟨Dg, _, none⟩) D8.out _).trans (hHeld.2.2.2.2))⟩ (fun hHeld => ?_)
           clear hK K
           refine done_ (done_of HT_.out (by kernel_rfl)) ?_
           have L0 := Dm.out; have Lh := Dj.out; have L1 := Dn.out; have Li := D8.out; have L2 := Do.out; have Lj := Dl.out
           have Jx := Cmp.c0 D4
           have Jz := blk_frozen D4.out 0; have L3 := E2.out; have Lk := E0.out; have L4 := E3.out; have Ll := E1.out
           have Jy := Cmp.c0 D3
           have K0 := blk_frozen D3.out 0
           try go_wp2
           refine bodyPost_ret (results_cell_row rfl _ _ Dz 45 #[.slice Gw Gi.length Gx] (0, 0) _ rfl (Cmp.bw D3.out) Try.underlying45 rfl (by kernel_rfl)) rfl ?_
           exact ⟨_, by first | rfl | (simp [errW_none, errW_some] <;> rfl) | (simp [*, errW_none, errW_some] <;> rfl), by (with_reducible repeat (first | apply Kd.R_alloc | apply Kd.R_drewN | apply Kd.R_drew)); exact Kd.R_mono (Kd.R_far (p := ⟨Dz, 0, none⟩) (Kd.R_far (p := ⟨Dg, 0, none⟩) (Kd.R_types (Kd.R_types Gk.out D4.out (by decide)) D3.out (by decide)) (fun _ hk => hk.1.2) (.slice Gw Gi.length Gx)) (fun _ hk => hk.2) (.slice Gw Gi.length Gx)) (fun _ hk => trivial), Cmp.g HB.out⟩
          ·rw [if_neg c61] at H; exact absurd H (by simp)
         ·rw [if_neg c58] at H; exact absurd H (by simp)
        ·rw [if_neg c57] at H; exact absurd H (by simp)
       ·rw [if_neg c56] at H; exact absurd H (by simp)
     ·rw [if_neg c50] at H; exact absurd H (by simp)
    ·rw [if_neg c49] at H
     have c49b0 : decide (D6 < (l0_0.length : Int)) = false := decide_eq_false c49
     clear c49
     obtain ⟨Et, hy190⟩ : ∃ y_ : List (S94), y_ = (([] : List (S94))) := ⟨_, rfl⟩
     replace H : (if 0 ≤ D6 then (if D6 ≤ (l0_0.length : Int) then ((some (l0_0.take (D6 : Int).toNat : List (S94))).bind fun El => (if Et.length + El.length < 4398046511104 then ((some (Et ++ El : List (S94))).bind fun Eb => ((some (([(⟨a1_0, a1_1, a1_2, a1_3⟩ : S94)] : List (S94)) : List (S94))).bind fun E4 => (if Eb.length + E4.length < 4398046511104 then ((some (Eb ++ E4 : List (S94))).bind fun E5 => ((some (l0_0.drop (D6 : Int).toNat : List (S94))).bind fun Dq => (if E5.length + Dq.length < 4398046511104 then (some (E5 ++ Dq)) else (none)))) else (none)))) else (none))) else (none)) else (none)) = some r := Cmp.hy hy190 H
     have Ex := Cmp.A hy190; clear hy190
     by_cases c85 : 0 ≤ D6
     ·rw [if_pos c85] at H
      have c85b0 := eq_true c85
      have c85b1 : decide (0 ≤ D6) = true := decide_eq_true c85; clear c85
      by_cases c86 : D6 ≤ (l0_0.length : Int)
      ·rw [if_pos c86] at H
       have c86b0 := eq_true c86
       have c86b1 : decide (D6 ≤ (l0_0.length : Int)) = true := decide_eq_true c86
       clear c86
       obtain ⟨El, hy193⟩ : ∃ y_ : List (S94), y_ = (l0_0.take (D6 : Int).toNat) := ⟨_, rfl⟩
       replace H : (if Et.length + El.length < 4398046511104 then ((some (Et ++ El : List (S94))).bind fun Eb => ((some (([(⟨a1_0, a1_1, a1_2, a1_3⟩ : S94)] : List (S94)) : List (S94))).bind fun E4 => (if Eb.length + E4.length < 4398046511104 then ((some (Eb ++ E4 : List (S94))).bind fun E5 => ((some (l0_0.drop (D6 : Int).toNat : List (S94))).bind fun Dq => (if E5.length + Dq.length < 4398046511104 then (some (E5 ++ Dq)) else (none)))) else (none)))) else (none)) = some r := Cmp.hy hy193 H
       have Go := Cmp.A hy193; clear hy193
       by_cases c87 : Et.length + El.length < 4398046511104
       ·rw [if_pos c87] at H; have LMc87 := Cmp.A c87; clear c87
        obtain ⟨Eb, hy197⟩ : ∃ y_ : List (S94), y_ = (Et ++ El) := ⟨_, rfl⟩
        replace H : ((some (([(⟨a1_0, a1_1, a1_2, a1_3⟩ : S94)] : List (S94)) : List (S94))).bind fun E4 => (if Eb.length + E4.length < 4398046511104 then ((some (Eb ++ E4 : List (S94))).bind fun E5 => ((some (l0_0.drop (D6 : Int).toNat : List (S94))).bind fun Dq => (if E5.length + Dq.length < 4398046511104 then (some (E5 ++ Dq)) else (none)))) else (none))) = some r := Cmp.hy hy197 H
        have F4 := Cmp.A hy197; clear hy197
        obtain ⟨E4, hy200⟩ : ∃ y_ : List (S94), y_ = (([(⟨a1_0, a1_1, a1_2, a1_3⟩ : S94)] : List (S94))) := ⟨_, rfl⟩
        replace H : (if Eb.length + E4.length < 4398046511104 then ((some (Eb ++ E4 : List (S94))).bind fun E5 => ((some (l0_0.drop (D6 : Int).toNat : List (S94))).bind fun Dq => (if E5.length + Dq.length < 4398046511104 then (some (E5 ++ Dq)) else (none)))) else (none)) = some r := Cmp.hy hy200 H
        have Eq := Cmp.A hy200; clear hy200
        by_cases c88 : Eb.length + E4.length < 4398046511104
        ·rw [if_pos c88] at H; have LMc88 := Cmp.A c88; clear c88
         obtain ⟨E5, hy203⟩ : ∃ y_ : List (S94), y_ = (Eb ++ E4) := ⟨_, rfl⟩
         replace H : ((some (l0_0.drop (D6 : Int).toNat : List (S94))).bind fun Dq => (if E5.length + Dq.length < 4398046511104 then (some (E5 ++ Dq)) else (none))) = some r := Cmp.hy hy203 H
         have Jf := Cmp.A hy203; clear hy203
         have c89b0 := eq_true (of_decide_eq_true Cmp.d : 0 ≤ D6)
         have c90b0 := eq_true (of_decide_eq_true Cmp.d : D6 ≤ (l0_0.length : Int))
         obtain ⟨Dq, hy206⟩ : ∃ y_ : List (S94), y_ = (l0_0.drop (D6 : Int).toNat) := ⟨_, rfl⟩
         replace H : (if E5.length + Dq.length < 4398046511104 then (some (E5 ++ Dq)) else (none)) = some r := Cmp.hy hy206 H
         have Gp := Cmp.A hy206; clear hy206
         by_cases c91 : E5.length + Dq.length < 4398046511104
         ·rw [if_pos c91] at H; have LMc91 := Cmp.A c91; clear c91
          obtain ⟨Gj, hy210⟩ : ∃ y_ : List (S94), y_ = (E5 ++ Dq) := ⟨_, rfl⟩
          replace H : (some Gj) = some r := Cmp.hy hy210 H
          have Jg := Cmp.A hy210; clear hy210
          obtain rfl := Option.some.inj H
          try go_wp2
          replace D1 := Cmp.A (Kd.R_drew D1.out); replace D2 := Cmp.A (blk_drew D2.out); replace D0 := Cmp.A (blk_drew D0.out); replace D3 := Cmp.A (blk_drew D3.out); replace D4 := Cmp.A (blk_drew D4.out); replace HB := Cmp.A (below_drew1 HB.out)
          refine start_ (n := 17) (S := fun w' => w'.cell? ⟨Dp, 0, none⟩ = some (.slice A0_0 l0_0.length c0_0)) (ds := []) (Cmp.bm 0 17) (by kernel_rfl) rfl rfl (Cmp.c0 D2 :) (fun hHeld => ?_); refine with_tabW spec_l17Set.tab7 spec_l17Set.bits7 (fun HT_ HW_ => ?_)
          generalize wr.drew = w92 at D1 D2 D0 D3 D4 HB hHeld ⊢
          refine Cmp.pu HT_ 0 24 (Cmp.bm 1 16) ?_; refine Cmp.pu HT_ 1 25 (Cmp.bm 2 15) ?_
          refine take_ (i := 2) (N := some 26) (v := ?_) (a' := ?_) (Cmp.bm 3 14) rfl rfl (take_ofW HT_.out HW_.out (by kernel_rfl)) (fun _ _ _ h => h) (Or.inl ⟨by rfl, ?_⟩) hHeld ?_ ?_
          rotate_left
          ·intro w' s0
           go_simp; with_reducible rfl
          rotate_left
          ·simp only [Act.put, Cmp.s, Cmp.z, Cmp.c, i64_w, i32_w]; rfl
          refine Cmp.pu HT_ 3 27 (Cmp.bm 4 13) ?_; refine Cmp.pu HT_ 4 28 (Cmp.bm 5 12) ?_; refine Cmp.pu HT_ 5 29 (Cmp.bm 6 11) ?_; refine Cmp.pv HT_ 6 30 (Cmp.bm 7 10) ?_; refine Cmp.pv HT_ 7 31 (Cmp.bm 8 9) ?_; refine Cmp.pv HT_ 8 32 (Cmp.bm 9 8) ?_; refine Cmp.pv HT_ 9 33 (Cmp.bm 10 7) ?_; refine Cmp.pv HT_ 10 34 (Cmp.bm 11 6) ?_; refine Cmp.pv HT_ 11 35 (Cmp.bm 12 5) ?_; refine Cmp.pv HT_ 12 36 (Cmp.bm 13 4) ?_; refine Cmp.pv HT_ 13 37 (Cmp.bm 14 3) ?_; refine Cmp.pv HT_ 14 38 (Cmp.bm 15 2) ?_; refine Cmp.pv HT_ 15 39 (Cmp.bm 16 1) ?_; refine Cmp.pu HT_ 16 40 (Cmp.bm 17 0) ?_
          refine done_ (done_of HT_.out (by kernel_rfl)) ?_
          try go_wp2
          replace D1 := Cmp.A (Kd.R_drew D1.out); replace D2 := Cmp.A (blk_drew D2.out); replace D0 := Cmp.A (blk_drew D0.out); replace D3 := Cmp.A (blk_drew D3.out); replace D4 := Cmp.A (blk_drew D4.out); replace HB := Cmp.A (below_drew1 HB.out)
          have q94 : (D6 : Int) ≤ ((l0_0.length : Int) : Int) := of_decide_eq_true Cmp.d
          obtain ⟨i094, Gu, _, hsz94, _⟩ := info_parts info94
          have F0 : l0_0.length ≤ c0_0 := HC0_0.out
          have Jl : Kd.C k94 _ A0_0 l0_0.length l0_0 := E7.out
          have J0 := cut_to (P := Try.prog) 43 94 .i64 Try.underlying43 Gu A0_0 l0_0.length c0_0 D6 (of_decide_eq_true Cmp.d) q94 F0
          have hr94 := Kd.C_take (m := (D6 : Int).toNat) Jl (by omega)
          have hy94 : El.length = (D6 : Int).toNat := (by rw [Go.out, List.length_take]; omega)
          rw [← Go.out] at hr94
          rw [← hy94] at J0
          have HR196 := Cmp.A hr94
          have Kk := Cmp.A (show El.length ≤ c0_0 from by omega)
          clear hr94 Jl F0 Gu hsz94; have KY94 := Cmp.A hy94; clear hy94; replace q94 := eq_true q94
          have q95 : (D6 : Int) ≤ ((l0_0.length : Int) : Int) := of_decide_eq_true Cmp.d
          obtain ⟨i095, Gv, _, hsz95, _⟩ := info_parts info94
          have Es : l0_0.length ≤ c0_0 := HC0_0.out
          have Jm : Kd.C k94 _ A0_0 l0_0.length l0_0 := E7.out
          have q095 : (0 : Int) ≤ (D6 : Int) := of_decide_eq_true Cmp.d
          have J1 := cut_from (P := Try.prog) 43 94 .i64 Try.underlying43 Gv 4 hsz95 A0_0 l0_0.length c0_0 D6 q095 q95
          have hr95 := Kd.C_drop (m := (D6 : Int).toNat) (c := c0_0) Jm (by omega) Es
          obtain ⟨Ln, hA95⟩ : ∃ A1, A1 = (if c0_0 = (D6 : Int).toNat then A0_0 else (A0_0 : Option Addr).map (·.add ((D6 : Int).toNat * 4))) := ⟨_, rfl⟩
          obtain ⟨c95, hc95⟩ : ∃ c1, c1 = c0_0 - (D6 : Int).toNat := ⟨_, rfl⟩
          have hy95 : Dq.length = l0_0.length - (D6 : Int).toNat := (by rw [Gp.out, List.length_drop] <;> omega)
          rw [show (l0_0).drop (D6 : Int).toNat = Dq from Gp.out.symm] at hr95
          replace hr95 : Kd.C k94 _ Ln Dq.length Dq := (by rw [hA95]; exact hr95)
          rw [← hy95, ← hA95, ← hc95] at J1
          have HR209 := Cmp.A hr95
          have Kl := Cmp.A (show Dq.length ≤ c95 from by rw [hy95, hc95]; exact Nat.sub_le_sub_right Es _)
          clear hr95 Jm Es Gv hsz95 hc95; have KY95 := Cmp.A hy95; have KA95 := Cmp.A hA95; clear hy95 hA95; replace q95 := eq_true q95
          refine start_ (n := 16) (S := fun w' => w'.cell? ⟨Dp, 0, none⟩ = some (.slice A0_0 l0_0.length c0_0) ∧ w'.cell? ⟨D5, 0, none⟩ = some (.int .i64 a1_0) ∧ w'.cell? ⟨D5, 1, none⟩ = some (.int .i64 a1_1) ∧ w'.cell? ⟨D5, 2, none⟩ = some (.int .i64 a1_2) ∧ w'.cell? ⟨D5, 3, none⟩ = some (.bool a1_3)) (ds := []) (Cmp.bm 0 16) (by kernel_rfl) rfl rfl ⟨(Cmp.c0 D2 :), (Cmp.c0 D0 :), (Cmp.c1 D0 :), (Cmp.c2 D0 :), (Cmp.c3 D0 :)⟩ (fun hHeld => ?_); refine with_tabW spec_l17Set.tab9 spec_l17Set.bits9 (fun HT_ HW_ => ?_)
          generalize w92.drew = w93 at D1 D2 D0 D3 D4 HB HR196 HR209 hHeld ⊢
          refine Cmp.pu HT_ 1 44 (Cmp.bb 16 2) ?_; refine Cmp.pu HT_ 3 46 (Cmp.bb 16 10) ?_; refine Cmp.pu HT_ 9 52 (Cmp.bb 16 522) ?_; refine Cmp.pu HT_ 11 54 (Cmp.bb 16 2570) ?_; refine Cmp.tk HT_ HW_ hHeld 2 45 (Cmp.bb 16 2574) ?_; refine Cmp.pu HT_ 4 47 (Cmp.bb 16 2590) ?_; refine Cmp.tk HT_ HW_ hHeld 6 49 (Cmp.bb 16 2654) ?_; refine Cmp.tk HT_ HW_ hHeld 10 53 (Cmp.bb 16 3678) ?_; refine Cmp.pu HT_ 12 55 (Cmp.bb 16 7774) ?_
          refine join_ (σ := Value × Value × Value) 4 (Cmp.bb 16 7935) (fun s_ => [(43, s_.1), (48, s_.2.1), (50, s_.2.2)]) (fun s_ w' => (w'.cell? ⟨Dp, 0, none⟩ = some (.slice A0_0 l0_0.length c0_0) ∧ w'.cell? ⟨D5, 0, none⟩ = some (.int .i64 a1_0) ∧ w'.cell? ⟨D5, 1, none⟩ = some (.int .i64 a1_1) ∧ w'.cell? ⟨D5, 2, none⟩ = some (.int .i64 a1_2) ∧ w'.cell? ⟨D5, 3, none⟩ = some (.bool a1_3)) ∧ (Kd.R k94 94 w' w.heap.size (fun k_ => some k_ ≠ (s_.2.2 : Value).ownBlock ∧ some k_ ≠ (.slice Dc D7.length Dd : Value).ownBlock ∧ k_ ≠ D5) s_.2.1 Eb) ∧ (Kd.R k94 94 w' w.heap.size (fun k_ => some k_ ≠ (s_.2.1 : Value).ownBlock ∧ some k_ ≠ (.slice Dc D7.length Dd : Value).ownBlock ∧ k_ ≠ D5) s_.2.2 E4) ∧ (Kd.R k94 94 w' w.heap.size (fun k_ => some k_ ≠ (s_.2.1 : Value).ownBlock ∧ some k_ ≠ (s_.2.2 : Value).ownBlock ∧ k_ ≠ D5) (.slice Dc D7.length Dd) D7) ∧ (w'.heap[Dp]? = some (.cells #[.slice A0_0 l0_0.length c0_0] 45 (0, 0))) ∧ (w'.heap[D5]? = some (.cells #[.int .i64 a1_0, .int .i64 a1_1, .int .i64 a1_2, .bool a1_3] 94 (0, 0))) ∧ (w'.heap[Dz]? = some (.cells #[.slice none 0 0] 45 (0, 0))) ∧ (w'.heap[Dg]? = some (.cells #[.slice Dc D7.length Dd] 45 (0, 0))) ∧ (Below w.heap.size w w')) ?_ ?_
          rotate_left
          ·intro hCont
           refine two_ (i := 0) (j := 7) (Ni := some 43) (Nj := some 50) (Cmp.bb 16 7775) (Cmp.bb 16 7902) rfl rfl rfl rfl (two_of HT_.out (by kernel_rfl)) (by decide) (by decide) (fun K hK => ?_) (fun K hK => ?_)
           ·skip
            refine Kd.R_lit_step k94 _ 94 ?hg (N := 43) ?hd (xs := ([] : List (S94))) (inner := []) (ok := fun _ => True) (okp := fun _ => True) ?hr ?hp (fun _ hk => hk) trivial (Below.refl _ _) (Nat.le_refl _) (by simp) ?_; (case hd => rfl); (case hg => rfl); (case hr => first | (go_simp; done) | (go_simp; rfl)); (case hp => exact (Reps.none _ _))
            intro v191 w96 Ej hb hg_ hnew_
            clear hg_ hnew_
            (first | rw [← Ex.out] at Ej | (simp only [Int.reduceToNat] at Ej; rw [← Ex.out] at Ej))
            have Di := Cmp.A (Kd.R_lower (Kd.R_newB (Kd.R_new' Ej (Kd.R_lt (Cmp.rr D1.out))) (g := D5) (o := .cells #[.int .i64 a1_0, .int .i64 a1_1, .int .i64 a1_2, .bool a1_3] 94 (0, 0)) (Cmp.b D0.out)) (below_size (Cmp.g HB.out))); replace D1 := Cmp.A (Kd.R_elder' (Cmp.rr D1.out) (Kd.R_base Ej) hb); replace D2 := Cmp.be D2 hb; replace D0 := Cmp.be D0 hb; replace D3 := Cmp.be D3 hb; replace D4 := Cmp.be D4 hb; replace HB := Cmp.A (below_step (Cmp.g HB.out) hb); clear hb Ej
            refine hK.out _ _ ⟨(Cmp.c0 D2 :), (Cmp.c0 D0 :), (Cmp.c1 D0 :), (Cmp.c2 D0 :), (Cmp.c3 D0 :)⟩ (fun hHeld => ?_)
            clear hK K
            refine Cmp.no ?_
            refine two_ (i := 5) (j := 7) (Ni := some 48) (Nj := some 50) (Cmp.bb 16 7807) (Cmp.bb 16 7903) rfl rfl rfl rfl (two_of HT_.out (by kernel_rfl)) (by decide) (by decide) (fun K hK => ?_) (fun K hK => ?_)
            ·skip
             refine Kd.R_append_rows_step k94 (w0 := w) w.heap.size (by rfl) (.tmp 43) (.tmp 47) 43 94 (.agg #[(.int .i64 0), (.int .i64 0), (.int .i64 0), (.bool false)]) 32 rfl Try.underlying43 info94 rfl (by decide) (by omega) v191 Et El _ _ _ (fun k_ => some k_ ≠ (.slice Dc D7.length Dd : Value).ownBlock ∧ k_ ≠ D5) (fun _ => False) rfl rfl ?aO ?aR (fun _ _ h => h) (fun _ h => h.elim) ?aF ?aB ?aS ?aL ?_
             (case aR => repeat (first | exact (Kd.C_below HR196.out HB.out) | (with_reducible refine Kd.C_alloc ?_ _) | (with_reducible refine Kd.C_drewN ?_ _) | (with_reducible refine Kd.C_drew ?_)))
             (case aB => exact (Cmp.g HB.out))
             (case aF => exact (fun k_ hk => ⟨Kd.fresh' (Kd.R_lt (Cmp.rr D1.out)) k_ hk, Kd.freshB (g := D5) (o := .cells #[.int .i64 a1_0, .int .i64 a1_1, .int .i64 a1_2, .bool a1_3] 94 (0, 0)) (Cmp.b D0.out) k_ hk⟩))
             (case aO => exact (Cmp.rm Di.out (fun _ hk => ⟨hk.1.2, hk.2⟩)))
             (case aS => exact (below_size (Cmp.g HB.out)))
             (case aL => have := LMc87.out; omega)
             intro v198 w98 ho hb hg hat
             rw [← F4.out] at ho
             have Ds := Cmp.A (ho); replace D1 := Cmp.A (Kd.R_after (ok := (fun k_ => k_ ≠ D5)) (Cmp.rr D1.out) hg hat); replace D2 := Cmp.bg D2 hg (Kd.R_ne Di.out D2.out (by decide)); replace D0 := Cmp.bg D0 hg (Kd.R_away Di.out (fun _ hk => hk.2)); replace D3 := Cmp.bg D3 hg (Kd.R_ne Di.out D3.out (by decide)); replace D4 := Cmp.bg D4 hg (Kd.R_ne Di.out D4.out (by decide)); replace HB := Cmp.A (hb); clear Di; clear ho hb hg hat
             refine hK.out _ _ ⟨(Cmp.c0 D2 :), (Cmp.c0 D0 :), (Cmp.c1 D0 :), (Cmp.c2 D0 :), (Cmp.c3 D0 :)⟩ (fun hHeld => ?_)
             clear hK K
             refine Cmp.no ?_
             refine one_ (i := 7) (N := some 50) (Cmp.bb 16 7935) rfl rfl (one_of HT_.out (by kernel_rfl)) (by decide) (fun K hK => ?_)
             refine Kd.R_lit_step k94 _ 94 ?hg (N := 50) ?hd (xs := ([(⟨a1_0, a1_1, a1_2, a1_3⟩ : S94)] : List (S94))) (inner := [.int .i64 a1_0, .int .i64 a1_1, .int .i64 a1_2, .bool a1_3]) (ok := fun _ => True) (okp := fun _ => True) ?hr ?hp (fun _ hk => hk) trivial (Below.refl _ _) (Nat.le_refl _) (by simp) ?_; (case hd => rfl); (case hg => rfl); (case hr => first | (go_simp; done) | (go_simp; rfl)); (case hp => exact (Reps.c4 (show Kd.M k94 _ _ _ (⟨a1_0, a1_1, a1_2, a1_3⟩ : S94) [.int .i64 a1_0, .int .i64 a1_1, .int .i64 a1_2, .bool a1_3] from (k94_mkM _ _ _ (⟨a1_0, a1_1, a1_2, a1_3⟩ : S94) )) (Reps.none _ _)))
             intro v201 w99 Em hb hg_ hnew_
             clear hg_ hnew_
             (first | rw [← Eq.out] at Em | (simp only [Int.reduceToNat] at Em; rw [← Eq.out] at Em))
             have Da := Cmp.A (Kd.R_lower (Kd.R_newB (Kd.R_new' (Kd.R_new' Em (Kd.R_lt (Cmp.rr D1.out))) (Kd.R_lt (Cmp.rr Ds.out))) (g := D5) (o := .cells #[.int .i64 a1_0, .int .i64 a1_1, .int .i64 a1_2, .bool a1_3] 94 (0, 0)) (Cmp.b D0.out)) (below_size (Cmp.g HB.out))); replace D1 := Cmp.A (Kd.R_elder' (Cmp.rr D1.out) (Kd.R_base Em) hb); replace Ds := Cmp.A (Kd.R_elder' (Cmp.rr Ds.out) (Kd.R_base Em) hb); replace D2 := Cmp.be D2 hb; replace D0 := Cmp.be D0 hb; replace D3 := Cmp.be D3 hb; replace D4 := Cmp.be D4 hb; replace HB := Cmp.A (below_step (Cmp.g HB.out) hb); clear hb Em
             refine hK.out _ _ ⟨(Cmp.c0 D2 :), (Cmp.c0 D0 :), (Cmp.c1 D0 :), (Cmp.c2 D0 :), (Cmp.c3 D0 :)⟩ (fun hHeld => ?_)
             clear hK K
             refine Cmp.no ?_
             exact norm_ (by simp only [putAll, Act.put, List.setIfInBounds_toArray, List.set_cons_zero, List.set_cons_succ]) (hCont (v191, v198, v201) _ ⟨hHeld, (Cmp.rm Ds.out (fun _ hk => ⟨hk.2, ⟨hk.1.1, hk.1.2⟩⟩)), (Cmp.rm Da.out (fun _ hk => ⟨hk.1.2, ⟨hk.1.1.2, hk.2⟩⟩)), (Cmp.rm D1.out (fun _ hk => ⟨hk.1.2, ⟨hk.2, hk.1.1⟩⟩)), (Cmp.b D2.out), (Cmp.b D0.out), (Cmp.b D3.out), (Cmp.b D4.out), (Cmp.g HB.out)⟩)
            ·skip
             refine Kd.R_lit_step k94 _ 94 ?hg (N := 50) ?hd (xs := ([(⟨a1_0, a1_1, a1_2, a1_3⟩ : S94)] : List (S94))) (inner := [.int .i64 a1_0, .int .i64 a1_1, .int .i64 a1_2, .bool a1_3]) (ok := fun _ => True) (okp := fun _ => True) ?hr ?hp (fun _ hk => hk) trivial (Below.refl _ _) (Nat.le_refl _) (by simp) ?_; (case hd => rfl); (case hg => rfl); (case hr => first | (go_simp; done) | (go_simp; rfl)); (case hp => exact (Reps.c4 (show Kd.M k94 _ _ _ (⟨a1_0, a1_1, a1_2, a1_3⟩ : S94) [.int .i64 a1_0, .int .i64 a1_1, .int .i64 a1_2, .bool a1_3] from (k94_mkM _ _ _ (⟨a1_0, a1_1, a1_2, a1_3⟩ : S94) )) (Reps.none _ _)))
             intro v201 w98 E9 hb hg_ hnew_
             clear hg_ hnew_
             (first | rw [← Eq.out] at E9 | (simp only [Int.reduceToNat] at E9; rw [← Eq.out] at E9))
             have Da := Cmp.A (Kd.R_lower (Kd.R_newB (Kd.R_new' (Kd.R_new' E9 (Kd.R_lt (Cmp.rr D1.out))) (Kd.R_lt (Cmp.rr Di.out))) (g := D5) (o := .cells #[.int .i64 a1_0, .int .i64 a1_1, .int .i64 a1_2, .bool a1_3] 94 (0, 0)) (Cmp.b D0.out)) (below_size (Cmp.g HB.out))); replace D1 := Cmp.A (Kd.R_elder' (Cmp.rr D1.out) (Kd.R_base E9) hb); replace Di := Cmp.A (Kd.R_elder' (Cmp.rr Di.out) (Kd.R_base E9) hb); replace D2 := Cmp.be D2 hb; replace D0 := Cmp.be D0 hb; replace D3 := Cmp.be D3 hb; replace D4 := Cmp.be D4 hb; replace HB := Cmp.A (below_step (Cmp.g HB.out) hb); clear hb E9
             refine hK.out _ _ ⟨(Cmp.c0 D2 :), (Cmp.c0 D0 :), (Cmp.c1 D0 :), (Cmp.c2 D0 :), (Cmp.c3 D0 :)⟩ (fun hHeld => ?_)
             clear hK K
             refine Cmp.no ?_
             refine one_ (i := 5) (N := some 48) (Cmp.bb 16 7935) rfl rfl (one_of HT_.out (by kernel_rfl)) (by decide) (fun K hK => ?_)
             refine Kd.R_append_rows_step k94 (w0 := w) w.heap.size (by rfl) (.tmp 43) (.tmp 47) 43 94 (.agg #[(.int .i64 0), (.int .i64 0), (.int .i64 0), (.bool false)]) 32 rfl Try.underlying43 info94 rfl (by decide) (by omega) v191 Et El _ _ _ (fun k_ => some k_ ≠ (.slice Dc D7.length Dd : Value).ownBlock ∧ some k_ ≠ (v201 : Value).ownBlock ∧ k_ ≠ D5) (fun _ => False) rfl rfl ?aO ?aR (fun _ _ h => h) (fun _ h => h.elim) ?aF ?aB ?aS ?aL ?_
             (case aR => repeat (first | exact (Kd.C_below HR196.out HB.out) | (with_reducible refine Kd.C_alloc ?_ _) | (with_reducible refine Kd.C_drewN ?_ _) | (with_reducible refine Kd.C_drew ?_)))
             (case aB => exact (Cmp.g HB.out))
             (case aF => exact (fun k_ hk => ⟨Kd.fresh' (Kd.R_lt (Cmp.rr D1.out)) k_ hk, Kd.fresh' (Kd.R_lt (Cmp.rr Da.out)) k_ hk, Kd.freshB (g := D5) (o := .cells #[.int .i64 a1_0, .int .i64 a1_1, .int .i64 a1_2, .bool a1_3] 94 (0, 0)) (Cmp.b D0.out) k_ hk⟩))
             (case aO => exact (Cmp.rm Di.out (fun _ hk => ⟨hk.1.1.2, ⟨hk.2, hk.1.2⟩⟩)))
             (case aS => exact (below_size (Cmp.g HB.out)))
             (case aL => have := LMc87.out; omega)
             intro v198 w100 ho hb hg hat
             rw [← F4.out] at ho
             have Ds := Cmp.A (ho); replace D1 := Cmp.A (Kd.R_after (ok := (fun k_ => some k_ ≠ (v201 : Value).ownBlock ∧ k_ ≠ D5)) (Cmp.rm D1.out (fun _ hk => ⟨⟨hk.2, hk.1.1⟩, hk.1.2⟩)) hg hat); replace D2 := Cmp.bg D2 hg (Kd.R_ne Di.out D2.out (by decide)); replace D0 := Cmp.bg D0 hg (Kd.R_away Di.out (fun _ hk => hk.1.2)); replace D3 := Cmp.bg D3 hg (Kd.R_ne Di.out D3.out (by decide)); replace D4 := Cmp.bg D4 hg (Kd.R_ne Di.out D4.out (by decide)); replace Da := Cmp.A (Kd.R_after (ok := (fun k_ => some k_ ≠ (.slice Dc D7.length Dd : Value).ownBlock ∧ k_ ≠ D5)) (Cmp.rm Da.out (fun _ hk => ⟨⟨hk.1.1.2, hk.2⟩, hk.1.2⟩)) hg hat); replace HB := Cmp.A (hb); clear Di; clear ho hb hg hat
             refine hK.out _ _ ⟨(Cmp.c0 D2 :), (Cmp.c0 D0 :), (Cmp.c1 D0 :), (Cmp.c2 D0 :), (Cmp.c3 D0 :)⟩ (fun hHeld => ?_)
             clear hK K
             refine Cmp.no ?_
             exact norm_ (by simp only [putAll, Act.put, List.setIfInBounds_toArray, List.set_cons_zero, List.set_cons_succ]) (hCont (v191, v198, v201) _ ⟨hHeld, (Cmp.rm Ds.out (fun _ hk => ⟨hk.2.1, ⟨hk.1, hk.2.2⟩⟩)), (Cmp.rm Da.out (fun _ hk => ⟨hk.2, ⟨hk.1.1, hk.1.2⟩⟩)), (Cmp.rm D1.out (fun _ hk => ⟨hk.2, ⟨hk.1.1, hk.1.2⟩⟩)), (Cmp.b D2.out), (Cmp.b D0.out), (Cmp.b D3.out), (Cmp.b D4.out), (Cmp.g HB.out)⟩)
           ·skip
            refine Kd.R_lit_step k94 _ 94 ?hg (N := 50) ?hd (xs := ([(⟨a1_0, a1_1, a1_2, a1_3⟩ : S94)] : List (S94))) (inner := [.int .i64 a1_0, .int .i64 a1_1, .int .i64 a1_2, .bool a1_3]) (ok := fun _ => True) (okp := fun _ => True) ?hr ?hp (fun _ hk => hk) trivial (Below.refl _ _) (Nat.le_refl _) (by simp) ?_; (case hd => rfl); (case hg => rfl); (case hr => first | (go_simp; done) | (go_simp; rfl)); (case hp => exact (Reps.c4 (show Kd.M k94 _ _ _ (⟨a1_0, a1_1, a1_2, a1_3⟩ : S94) [.int .i64 a1_0, .int .i64 a1_1, .int .i64 a1_2, .bool a1_3] from (k94_mkM _ _ _ (⟨a1_0, a1_1, a1_2, a1_3⟩ : S94) )) (Reps.none _ _)))
            intro v201 w96 Ej hb hg_ hnew_
            clear hg_ hnew_
            (first | rw [← Eq.out] at Ej | (simp only [Int.reduceToNat] at Ej; rw [← Eq.out] at Ej))
            have Da := Cmp.A (Kd.R_lower (Kd.R_newB (Kd.R_new' Ej (Kd.R_lt (Cmp.rr D1.out))) (g := D5) (o := .cells #[.int .i64 a1_0, .int .i64 a1_1, .int .i64 a1_2, .bool a1_3] 94 (0, 0)) (Cmp.b D0.out)) (below_size (Cmp.g HB.out))); replace D1 := Cmp.A (Kd.R_elder' (Cmp.rr D1.out) (Kd.R_base Ej) hb); replace D2 := Cmp.be D2 hb; replace D0 := Cmp.be D0 hb; replace D3 := Cmp.be D3 hb; replace D4 := Cmp.be D4 hb; replace HB := Cmp.A (below_step (Cmp.g HB.out) hb); clear hb Ej
            refine hK.out _ _ ⟨(Cmp.c0 D2 :), (Cmp.c0 D0 :), (Cmp.c1 D0 :), (Cmp.c2 D0 :), (Cmp.c3 D0 :)⟩ (fun hHeld => ?_)
            clear hK K
            refine Cmp.no ?_
            refine one_ (i := 0) (N := some 43) (Cmp.bb 16 7903) rfl rfl (one_of HT_.out (by kernel_rfl)) (by decide) (fun K hK => ?_)
            refine Kd.R_lit_step k94 _ 94 ?hg (N := 43) ?hd (xs := ([] : List (S94))) (inner := []) (ok := fun _ => True) (okp := fun _ => True) ?hr ?hp (fun _ hk => hk) trivial (Below.refl _ _) (Nat.le_refl _) (by simp) ?_; (case hd => rfl); (case hg => rfl); (case hr => first | (go_simp; done) | (go_simp; rfl)); (case hp => exact (Reps.none _ _))
            intro v191 w98 E9 hb hg_ hnew_
            clear hg_ hnew_
            (first | rw [← Ex.out] at E9 | (simp only [Int.reduceToNat] at E9; rw [← Ex.out] at E9))
            have Di := Cmp.A (Kd.R_lower (Kd.R_newB (Kd.R_new' (Kd.R_new' E9 (Kd.R_lt (Cmp.rr D1.out))) (Kd.R_lt (Cmp.rr Da.out))) (g := D5) (o := .cells #[.int .i64 a1_0, .int .i64 a1_1, .int .i64 a1_2, .bool a1_3] 94 (0, 0)) (Cmp.b D0.out)) (below_size (Cmp.g HB.out))); replace D1 := Cmp.A (Kd.R_elder' (Cmp.rr D1.out) (Kd.R_base E9) hb); replace Da := Cmp.A (Kd.R_elder' (Cmp.rr Da.out) (Kd.R_base E9) hb); replace D2 := Cmp.be D2 hb; replace D0 := Cmp.be D0 hb; replace D3 := Cmp.be D3 hb; replace D4 := Cmp.be D4 hb; replace HB := Cmp.A (below_step (Cmp.g HB.out) hb); clear hb E9
            refine hK.out _ _ ⟨(Cmp.c0 D2 :), (Cmp.c0 D0 :), (Cmp.c1 D0 :), (Cmp.c2 D0 :), (Cmp.c3 D0 :)⟩ (fun hHeld => ?_)
            clear hK K
            refine Cmp.no ?_
            refine one_ (i := 5) (N := some 48) (Cmp.bb 16 7935) rfl rfl (one_of HT_.out (by kernel_rfl)) (by decide) (fun K hK => ?_)
            refine Kd.R_append_rows_step k94 (w0 := w) w.heap.size (by rfl) (.tmp 43) (.tmp 47) 43 94 (.agg #[(.int .i64 0), (.int .i64 0), (.int .i64 0), (.bool false)]) 32 rfl Try.underlying43 info94 rfl (by decide) (by omega) v191 Et El _ _ _ (fun k_ => some k_ ≠ (.slice Dc D7.length Dd : Value).ownBlock ∧ some k_ ≠ (v201 : Value).ownBlock ∧ k_ ≠ D5) (fun _ => False) rfl rfl ?aO ?aR (fun _ _ h => h) (fun _ h => h.elim) ?aF ?aB ?aS ?aL ?_
            (case aR => repeat (first | exact (Kd.C_below HR196.out HB.out) | (with_reducible refine Kd.C_alloc ?_ _) | (with_reducible refine Kd.C_drewN ?_ _) | (with_reducible refine Kd.C_drew ?_)))
            (case aB => exact (Cmp.g HB.out))
            (case aF => exact (fun k_ hk => ⟨Kd.fresh' (Kd.R_lt (Cmp.rr D1.out)) k_ hk, Kd.fresh' (Kd.R_lt (Cmp.rr Da.out)) k_ hk, Kd.freshB (g := D5) (o := .cells #[.int .i64 a1_0, .int .i64 a1_1, .int .i64 a1_2, .bool a1_3] 94 (0, 0)) (Cmp.b D0.out) k_ hk⟩))
            (case aO => exact (Cmp.rm Di.out (fun _ hk => ⟨hk.1.1.2, ⟨hk.1.2, hk.2⟩⟩)))
            (case aS => exact (below_size (Cmp.g HB.out)))
            (case aL => have := LMc87.out; omega)
            intro v198 w100 ho hb hg hat
            rw [← F4.out] at ho
            have Ds := Cmp.A (ho); replace D1 := Cmp.A (Kd.R_after (ok := (fun k_ => some k_ ≠ (v201 : Value).ownBlock ∧ k_ ≠ D5)) (Cmp.rm D1.out (fun _ hk => ⟨⟨hk.1.2, hk.1.1⟩, hk.2⟩)) hg hat); replace D2 := Cmp.bg D2 hg (Kd.R_ne Di.out D2.out (by decide)); replace D0 := Cmp.bg D0 hg (Kd.R_away Di.out (fun _ hk => hk.2)); replace D3 := Cmp.bg D3 hg (Kd.R_ne Di.out D3.out (by decide)); replace D4 := Cmp.bg D4 hg (Kd.R_ne Di.out D4.out (by decide)); replace Da := Cmp.A (Kd.R_after (ok := (fun k_ => some k_ ≠ (.slice Dc D7.length Dd : Value).ownBlock ∧ k_ ≠ D5)) (Cmp.rm Da.out (fun _ hk => ⟨⟨hk.1.1.2, hk.1.2⟩, hk.2⟩)) hg hat); replace HB := Cmp.A (hb); clear Di; clear ho hb hg hat
            refine hK.out _ _ ⟨(Cmp.c0 D2 :), (Cmp.c0 D0 :), (Cmp.c1 D0 :), (Cmp.c2 D0 :), (Cmp.c3 D0 :)⟩ (fun hHeld => ?_)
            clear hK K
            refine Cmp.no ?_
            exact norm_ (by simp only [putAll, Act.put, List.setIfInBounds_toArray, List.set_cons_zero, List.set_cons_succ]) (hCont (v191, v198, v201) _ ⟨hHeld, (Cmp.rm Ds.out (fun _ hk => ⟨hk.2.1, ⟨hk.1, hk.2.2⟩⟩)), (Cmp.rm Da.out (fun _ hk => ⟨hk.2, ⟨hk.1.1, hk.1.2⟩⟩)), (Cmp.rm D1.out (fun _ hk => ⟨hk.2, ⟨hk.1.1, hk.1.2⟩⟩)), (Cmp.b D2.out), (Cmp.b D0.out), (Cmp.b D3.out), (Cmp.b D4.out), (Cmp.g HB.out)⟩)
          rintro ⟨v191, v198, v201⟩ w101 ⟨hS_, h0_, h1_, h2_, h3_, h4_, h5_, h6_, h7_⟩
          have n0_ : Aside0 (Kd.R k94 94 w101 w.heap.size (fun k_ => some k_ ≠ (v201 : Value).ownBlock ∧ some k_ ≠ (.slice Dc D7.length Dd : Value).ownBlock ∧ k_ ≠ D5) v198 Eb) := ⟨h0_⟩
          have n1_ : Aside0 (Kd.R k94 94 w101 w.heap.size (fun k_ => some k_ ≠ (v198 : Value).ownBlock ∧ some k_ ≠ (.slice Dc D7.length Dd : Value).ownBlock ∧ k_ ≠ D5) v201 E4) := ⟨h1_⟩
          have n2_ : Aside0 (Kd.R k94 94 w101 w.heap.size (fun k_ => some k_ ≠ (v198 : Value).ownBlock ∧ some k_ ≠ (v201 : Value).ownBlock ∧ k_ ≠ D5) (.slice Dc D7.length Dd) D7) := ⟨h2_⟩
          have n3_ : Aside0 (w101.heap[Dp]? = some (.cells #[.slice A0_0 l0_0.length c0_0] 45 (0, 0))) := ⟨h3_⟩
          have n4_ : Aside0 (w101.heap[D5]? = some (.cells #[.int .i64 a1_0, .int .i64 a1_1, .int .i64 a1_2, .bool a1_3] 94 (0, 0))) := ⟨h4_⟩
          have n5_ : Aside0 (w101.heap[Dz]? = some (.cells #[.slice none 0 0] 45 (0, 0))) := ⟨h5_⟩
          have n6_ : Aside0 (w101.heap[Dg]? = some (.cells #[.slice Dc D7.length Dd] 45 (0, 0))) := ⟨h6_⟩
          have n7_ : Aside0 (Below w.heap.size w w101) := ⟨h7_⟩
          clear D1; clear D2; clear D0; clear D3; clear D4; clear HB; clear h0_ h1_ h2_ h3_ h4_ h5_ h6_ h7_; have Ds := n0_; have Da := n1_; have D1 := n2_; have D2 := n3_; have D0 := n4_; have D3 := n5_; have D4 := n6_; have HB := n7_; clear n0_ n1_ n2_ n3_ n4_ n5_ n6_ n7_
          have hHeld : w101.cell? ⟨Dp, 0, none⟩ = some (.slice A0_0 l0_0.length c0_0) ∧ w101.cell? ⟨D5, 0, none⟩ = some (.int .i64 a1_0) ∧ w101.cell? ⟨D5, 1, none⟩ = some (.int .i64 a1_1) ∧ w101.cell? ⟨D5, 2, none⟩ = some (.int .i64 a1_2) ∧ w101.cell? ⟨D5, 3, none⟩ = some (.bool a1_3) := hS_
          obtain ⟨Ev, Ey, Gq⟩ := Kd.R_slice Da.out
          (first | subst Gq | (injection Gq with f1_ f2_ f3_; have f4_ := f1_.symm; have f5_ := f3_.symm; clear f1_ f2_ f3_; subst f4_; subst f5_))
          refine norm_ (a' := ?_) ?_ ?_
          rotate_left
          ·simp only [putAll, Act.put, List.setIfInBounds_toArray, List.set_cons_zero, List.set_cons_succ]; rfl
          refine one_ (i := 8) (N := some 51) (Cmp.bm 13 3) rfl rfl (one_of HT_.out (by kernel_rfl)) (by decide) (fun K hK => ?_)
          refine Kd.R_append_rows_step k94 (w0 := w) w.heap.size (by rfl) (.tmp 48) (.tmp 50) 43 94 (.agg #[(.int .i64 0), (.int .i64 0), (.int .i64 0), (.bool false)]) 32 rfl Try.underlying43 info94 rfl (by decide) (by omega) v198 Eb E4 _ _ _ (fun k_ => some k_ ≠ (.slice Dc D7.length Dd : Value).ownBlock ∧ some k_ ≠ (.slice Ev E4.length Ey : Value).ownBlock ∧ k_ ≠ D5) (fun _ => False) rfl rfl ?aO ?aR (fun _ _ h => h) (fun _ h => h.elim) ?aF ?aB ?aS ?aL ?_
          (case aR => repeat (first | exact (Kd.R_reads' Da.out).2.2 | (with_reducible refine Kd.C_alloc ?_ _) | (with_reducible refine Kd.C_drewN ?_ _) | (with_reducible refine Kd.C_drew ?_)))
          (case aB => exact (Cmp.g HB.out))
          (case aF => exact (fun k_ hk => ⟨Kd.fresh' (Kd.R_lt (Cmp.rr D1.out)) k_ hk, Kd.fresh' (Kd.R_lt (Cmp.rr Da.out)) k_ hk, Kd.freshB (g := D5) (o := .cells #[.int .i64 a1_0, .int .i64 a1_1, .int .i64 a1_2, .bool a1_3] 94 (0, 0)) (Cmp.b D0.out) k_ hk⟩))
          (case aO => exact (Cmp.rm Ds.out (fun _ hk => ⟨hk.2.1, ⟨hk.1, hk.2.2⟩⟩)))
          (case aS => exact (below_size (Cmp.g HB.out)))
          (case aL => have := LMc88.out; omega)
          intro v204 w102 ho hb hg hat
          rw [← Jf.out] at ho
          have Eo := Cmp.A (ho); replace D1 := Cmp.A (Kd.R_after (ok := (fun k_ => some k_ ≠ (.slice Ev E4.length Ey : Value).ownBlock ∧ k_ ≠ D5)) (Cmp.rm D1.out (fun _ hk => ⟨⟨hk.2.1, hk.2.2⟩, hk.1⟩)) hg hat); replace D2 := Cmp.bg D2 hg (Kd.R_ne Ds.out D2.out (by decide)); replace D0 := Cmp.bg D0 hg (Kd.R_away Ds.out (fun _ hk => hk.2.2)); replace D3 := Cmp.bg D3 hg (Kd.R_ne Ds.out D3.out (by decide)); replace D4 := Cmp.bg D4 hg (Kd.R_ne Ds.out D4.out (by decide)); replace Da := Cmp.A (Kd.R_after (ok := (fun k_ => some k_ ≠ (.slice Dc D7.length Dd : Value).ownBlock ∧ k_ ≠ D5)) (Cmp.rm Da.out (fun _ hk => ⟨⟨hk.2.1, hk.2.2⟩, hk.1⟩)) hg hat); replace HB := Cmp.A (hb); clear Ds; clear ho hb hg hat
          refine hK.out _ _ ⟨(Cmp.c0 D2 :), (Cmp.c0 D0 :), (Cmp.c1 D0 :), (Cmp.c2 D0 :), (Cmp.c3 D0 :)⟩ (fun hHeld => ?_)
          clear hK K
          refine Cmp.no ?_
          refine one_ (i := 13) (N := some 56) (Cmp.bm 14 2) rfl rfl (one_of HT_.out (by kernel_rfl)) (by decide) (fun K hK => ?_)
          refine Kd.R_append_rows_step k94 (w0 := w) w.heap.size (by rfl) (.tmp 51) (.tmp 55) 43 94 (.agg #[(.int .i64 0), (.int .i64 0), (.int .i64 0), (.bool false)]) 32 rfl Try.underlying43 info94 rfl (by decide) (by omega) v204 E5 Dq _ _ _ (fun k_ => some k_ ≠ (.slice Dc D7.length Dd : Value).ownBlock ∧ some k_ ≠ (.slice Ev E4.length Ey : Value).ownBlock ∧ k_ ≠ D5) (fun _ => False) rfl rfl ?aO ?aR (fun _ _ h => h) (fun _ h => h.elim) ?aF ?aB ?aS ?aL ?_
          (case aR => repeat (first | exact (Kd.C_below HR209.out HB.out) | (with_reducible refine Kd.C_alloc ?_ _) | (with_reducible refine Kd.C_drewN ?_ _) | (with_reducible refine Kd.C_drew ?_)))
          (case aB => exact (Cmp.g HB.out))
          (case aF => exact (fun k_ hk => ⟨Kd.fresh' (Kd.R_lt (Cmp.rr D1.out)) k_ hk, Kd.fresh' (Kd.R_lt (Cmp.rr Da.out)) k_ hk, Kd.freshB (g := D5) (o := .cells #[.int .i64 a1_0, .int .i64 a1_1, .int .i64 a1_2, .bool a1_3] 94 (0, 0)) (Cmp.b D0.out) k_ hk⟩))
          (case aO => exact (Cmp.rr Eo.out))
          (case aS => exact (below_size (Cmp.g HB.out)))
          (case aL => have := LMc91.out; omega)
          intro v211 w104 ho hb hg hat
          rw [← Jg.out] at ho
          have Gl := Cmp.A (ho); replace D1 := Cmp.A (Kd.R_after (ok := (fun k_ => some k_ ≠ (.slice Ev E4.length Ey : Value).ownBlock ∧ k_ ≠ D5)) (Cmp.rr D1.out) hg hat); replace D2 := Cmp.bg D2 hg (Kd.R_ne Eo.out D2.out (by decide)); replace D0 := Cmp.bg D0 hg (Kd.R_away Eo.out (fun _ hk => hk.2.2)); replace D3 := Cmp.bg D3 hg (Kd.R_ne Eo.out D3.out (by decide)); replace D4 := Cmp.bg D4 hg (Kd.R_ne Eo.out D4.out (by decide)); replace Da := Cmp.A (Kd.R_after (ok := (fun k_ => some k_ ≠ (.slice Dc D7.length Dd : Value).ownBlock ∧ k_ ≠ D5)) (Cmp.rr Da.out) hg hat); replace HB := Cmp.A (hb); clear Eo; clear ho hb hg hat
          obtain ⟨F2, F5, Gr⟩ := Kd.R_slice Gl.out
          (first | subst Gr | (injection Gr with f1_ f2_ f3_; have f4_ := f1_.symm; have f5_ := f3_.symm; clear f1_ f2_ f3_; subst f4_; subst f5_))
          refine hK.out _ _ ⟨(Cmp.c0 D2 :), (Cmp.c0 D0 :), (Cmp.c1 D0 :), (Cmp.c2 D0 :), (Cmp.c3 D0 :)⟩ (fun hHeld => ?_)
          clear hK K
          refine Cmp.no ?_
          refine Cmp.pu HT_ 14 57 (Cmp.bm 15 1) ?_
          refine one_ (i := 15) (N := none) (Cmp.bm 16 0) rfl rfl (one_of HT_.out (by kernel_rfl)) (by decide) (fun K hK => ?_)
          have hs106 : w104.cell? ⟨Dg, 0, none⟩ = some (.slice Dc D7.length Dd) := (blk_cell D4.out 0).trans rfl
          have hfs106 := blk_frozen D4.out 0; have hns106_0 := Dj.out; have hns106_1 := D8.out; have hns106_2 := Dl.out; have hms106_0 := Dm.out; have hms106_1 := Dn.out; have hms106_2 := Do.out
          refine skip_ (w1 := ?_) (by rfl) rfl ?_ ?_
          rotate_left
          ·go_simp; rfl
          refine hK.out _ _ ⟨((cell_far (p := ⟨Dg, _, none⟩) Dj.out _).trans (hHeld.1)), ((cell_far (p := ⟨Dg, _, none⟩) D8.out _).trans (hHeld.2.1)), ((cell_far (p := ⟨Dg, _, none⟩) D8.out _).trans (hHeld.2.2.1)), ((cell_far (p := ⟨Dg, _, none⟩) D8.out _).trans (hHeld.2.2.2.1)), ((cell_far (p := ⟨Dg, _, none⟩) D8.out _).trans (hHeld.2.2.2.2))⟩ (fun hHeld => ?_)
          clear hK K
          refine done_ (done_of HT_.out (by kernel_rfl)) ?_
          have K3 := Dm.out; have K8 := Dj.out; have K4 := Dn.out; have K9 := D8.out; have K5 := Do.out; have Ka := Dl.out
          have Jn := Cmp.c0 D4
          have Jp := blk_frozen D4.out 0; have K6 := E2.out; have Kb := E0.out; have K7 := E3.out; have Kc := E1.out
          have Jo := Cmp.c0 D3
          have Jq := blk_frozen D3.out 0
          try go_wp2
          refine bodyPost_ret (results_cell_row rfl _ _ Dz 45 #[.slice F2 Gj.length F5] (0, 0) _ rfl (Cmp.bw D3.out) Try.underlying45 rfl (by kernel_rfl)) rfl ?_
          exact ⟨_, by first | rfl | (simp [errW_none, errW_some] <;> rfl) | (simp [*, errW_none, errW_some] <;> rfl), by (with_reducible repeat (first | apply Kd.R_alloc | apply Kd.R_drewN | apply Kd.R_drew)); exact Kd.R_mono (Kd.R_far (p := ⟨Dz, 0, none⟩) (Kd.R_far (p := ⟨Dg, 0, none⟩) (Kd.R_types (Kd.R_types Gl.out D4.out (by decide)) D3.out (by decide)) (fun _ hk => hk.1.2) (.slice F2 Gj.length F5)) (fun _ hk => hk.2) (.slice F2 Gj.length F5)) (fun _ hk => trivial), Cmp.g HB.out⟩
         ·rw [if_neg c91] at H; exact absurd H (by simp)
        ·rw [if_neg c88] at H; exact absurd H (by simp)
       ·rw [if_neg c87] at H; exact absurd H (by simp)
      ·rw [if_neg c86] at H; exact absurd H (by simp)
     ·rw [if_neg c85] at H; exact absurd H (by simp)
end Go.Proofs.Ytpgjecknkmmnhaa.PFnSealedBundles
