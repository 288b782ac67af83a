/- Printed functions of the program (by a changed copy of the printer). No condition. -/
import Derived.Test.YtoffbjjkegeccaaCmp
import Derived.Test.YtoffbjjkegeccaaPFnDeletionx0
import Derived.Test.YtoffbjjkegeccaaPFnDeletionx9
import Derived.Test.YtoffbjjkegeccaaPFnDeletionx10
import Derived.Test.YtoffbjjkegeccaaPFnDeletionx11
namespace Go.Proofs.Ytoffbjjkegeccaa.PFnDeletion
open Go.Proofs.Ytoffbjjkegeccaa
open Go.RowKit Go.Proofs.YtoffbjjkegeccaaW.PrintWords Go.Proofs.YtoffbjjkegeccaaW.PrintLast Go.Proofs.YtoffbjjkegeccaaW.PrintMore
attribute [local go_sem] max2_int min2_int max_two min_two max_three min_three max_four min_four   -- for this text's walks alone
set_option linter.unusedVariables false
set_option linter.unusedSimpArgs false

/-! ### impl_PutEntry: function 28 -/
mutual
def impl_PutEntry.j1 : Nat → List (S49) → List (S49) → Option ((List (S49)) × Bool)
  | 0, _, _ => none
  | k + 1, x426000, x435000 => (impl_IsBundle.f k x435000).bind fun t492 => (if t492 = true then (some (x435000, true)) else ((impl_copyBundle.f x426000).bind fun t493 => (some (t493, false))))
def impl_PutEntry.l0 : Nat → Int → List (S49) → Int → Int → Int → Bool → Option ((List (S49)) × Bool)
  | 0, _, _, _, _, _, _ => none
  | k + 1, x11, x426000, x444000, x444001, x444002, x444003 => if x11 < (x426000.length : Int) then (if 0 ≤ x11 then ((impl_entryBefore.f ((rd_T49 x426000 x11).f0) ((rd_T49 x426000 x11).f1) ((rd_T49 x426000 x11).f2) ((rd_T49 x426000 x11).f3) x444000 x444001 x444002 x444003).bind fun t445 => (if t445 = true then (impl_PutEntry.l0 k (wrap64 (x11 + 1)) x426000 x444000 x444001 x444002 x444003) else ((some (([] : List (S49)) : List (S49))).bind fun y446 => (if x11 ≤ (x426000.length : Int) then ((some (x426000.take (x11 : Int).toNat : List (S49))).bind fun y449 => (if y446.length + y449.length < 4398046511104 then ((some (y446 ++ y449 : List (S49))).bind fun y453 => ((some (([(⟨x444000, x444001, x444002, x444003⟩ : S49)] : List (S49)) : List (S49))).bind fun y456 => (if y453.length + y456.length < 4398046511104 then ((some (y453 ++ y456 : List (S49))).bind fun y459 => ((some (x426000.drop (x11 : Int).toNat : List (S49))).bind fun y462 => (if y459.length + y462.length < 4398046511104 then (impl_PutEntry.j1 k x426000 (y459 ++ y462)) else (none)))) else (none)))) else (none))) else (none))))) else (none)) else ((some (([] : List (S49)) : List (S49))).bind fun y469 => (if 0 ≤ x11 then (if x11 ≤ (x426000.length : Int) then ((some (x426000.take (x11 : Int).toNat : List (S49))).bind fun y472 => (if y469.length + y472.length < 4398046511104 then ((some (y469 ++ y472 : List (S49))).bind fun y476 => ((some (([(⟨x444000, x444001, x444002, x444003⟩ : S49)] : List (S49)) : List (S49))).bind fun y479 => (if y476.length + y479.length < 4398046511104 then ((some (y476 ++ y479 : List (S49))).bind fun y482 => ((some (x426000.drop (x11 : Int).toNat : List (S49))).bind fun y485 => (if y482.length + y485.length < 4398046511104 then (impl_PutEntry.j1 k x426000 (y482 ++ y485)) else (none)))) else (none)))) else (none))) else (none)) else (none)))
end
def impl_PutEntry.f (k : Nat) (l0_0 : List (S49)) (a1 : Int) (a2 : Int) : Option ((List (S49)) × Bool) := (impl_IsBundle.f k l0_0).bind fun t427 => (if t427 = true then ((impl_copyBundle.f l0_0).bind fun t431 => ((impl_FindEntry.f k l0_0 a1 a2).bind fun t435 => (if t435 ≥ 0 then (if 0 ≤ t435 then (if t435 < (l0_0.length : Int) then (if ((rd_T49 l0_0 t435).f3 = true) then (if t435 < (t431.length : Int) then ((some (t431.set (t435 : Int).toNat (⟨(rd_T49 t431 t435).f0, (rd_T49 t431 t435).f1, (rd_T49 t431 t435).f2, false⟩ : S49) : List (S49))).bind fun y437 => (impl_PutEntry.j1 k l0_0 (y437.set (t435 : Int).toNat (⟨(rd_T49 y437 t435).f0, (rd_T49 y437 t435).f1, wrap64 (((rd_T49 y437 t435).f2) + 1), (rd_T49 y437 t435).f3⟩ : S49)))) else (none)) else ((impl_copyBundle.f l0_0).bind fun t440 => (some (t440, false)))) else (none)) else (none)) else (impl_PutEntry.l0 k 0 l0_0 a1 a2 1 false)))) else ((impl_copyBundle.f l0_0).bind fun t428 => (some (t428, false))))
theorem impl_PutEntry.mono_l : ∀ k, (∀ y0 y1, LeO (impl_PutEntry.j1 k y0 y1) (impl_PutEntry.j1 (k + 1) y0 y1)) ∧ (∀ y0 y1 y2 y3 y4 y5, LeO (impl_PutEntry.l0 k y0 y1 y2 y3 y4 y5) (impl_PutEntry.l0 (k + 1) y0 y1 y2 y3 y4 y5))
  | 0 => ⟨fun _ _ r h => by simp [impl_PutEntry.j1] at h, fun _ _ _ _ _ _ r h => by simp [impl_PutEntry.l0] at h⟩
  | k + 1 => by
    obtain ⟨ih0, ih1⟩ := impl_PutEntry.mono_l k
    refine ⟨?_, ?_⟩
    · intro y0 y1
      unfold impl_PutEntry.j1
      repeat' first
      | (with_reducible exact ih0 _ _)
      | (with_reducible exact ih1 _ _ _ _ _ _)
      | (with_reducible exact impl_FindEntry.mono _ _ _ _)
      | (with_reducible exact impl_IsBundle.mono _ _)
      | (with_reducible exact LeO.refl _)
      | (with_reducible exact LeO.none _)
      | (with_reducible refine LeO.ite ?_ ?_)
      | (with_reducible refine LeO.bind ?_ (fun _ => ?_))
      | exact ih0 _ _
      | exact ih1 _ _ _ _ _ _
      | exact impl_FindEntry.mono _ _ _ _
      | exact impl_IsBundle.mono _ _
      | exact LeO.none _
      | refine LeO.ite ?_ ?_
      | refine LeO.bind ?_ (fun _ => ?_)
    · intro y0 y1 y2 y3 y4 y5
      unfold impl_PutEntry.l0
      repeat' first
      | (with_reducible exact ih0 _ _)
      | (with_reducible exact ih1 _ _ _ _ _ _)
      | (with_reducible exact impl_FindEntry.mono _ _ _ _)
      | (with_reducible exact impl_IsBundle.mono _ _)
      | (with_reducible exact LeO.refl _)
      | (with_reducible exact LeO.none _)
      | (with_reducible refine LeO.ite ?_ ?_)
      | (with_reducible refine LeO.bind ?_ (fun _ => ?_))
      | exact ih0 _ _
      | exact ih1 _ _ _ _ _ _
      | exact impl_FindEntry.mono _ _ _ _
      | exact impl_IsBundle.mono _ _
      | exact LeO.none _
      | refine LeO.ite ?_ ?_
      | refine LeO.bind ?_ (fun _ => ?_)
theorem impl_PutEntry.mono : ∀ a0 a1 a2 k, LeO (impl_PutEntry.f k a0 a1 a2) (impl_PutEntry.f (k + 1) a0 a1 a2) := by
  intro a0 a1 a2 k
  obtain ⟨ih0, ih1⟩ := impl_PutEntry.mono_l k
  unfold impl_PutEntry.f
  repeat' first
      | (with_reducible exact ih0 _ _)
      | (with_reducible exact ih1 _ _ _ _ _ _)
      | (with_reducible exact impl_FindEntry.mono _ _ _ _)
      | (with_reducible exact impl_IsBundle.mono _ _)
      | (with_reducible exact LeO.refl _)
      | (with_reducible exact LeO.none _)
      | (with_reducible refine LeO.ite ?_ ?_)
      | (with_reducible refine LeO.bind ?_ (fun _ => ?_))
      | exact ih0 _ _
      | exact ih1 _ _ _ _ _ _
      | exact impl_FindEntry.mono _ _ _ _
      | exact impl_IsBundle.mono _ _
      | exact LeO.none _
      | refine LeO.ite ?_ ?_
      | refine LeO.bind ?_ (fun _ => ?_)
def impl_PutEntry.T12 : Bool × List (List Nat × List Nat) := (true, [([], []), ([], []), ([1], [1]), ([2], [2]), ([0, 3], [0, 3]), ([4], [4]), ([5], [5]), ([6, 5], [5, 6]), ([5], [5]), ([7, 8, 5], [5, 7, 8]), ([9, 5], [5, 9]), ([5], [5]), ([10, 11, 5, 5], [5, 10, 11]), ([5, 12], [5, 12])])
def impl_PutEntry.B12 : List Nat := [0, 0, 2, 6, 15, 31, 63, 127, 63, 511, 1023, 63, 4095, 8191]
theorem impl_PutEntry.tab12 : rtab .any (opsOf Try.f28 12) = impl_PutEntry.T12 := by kernel_rfl
theorem impl_PutEntry.bits12 : waitsOk impl_PutEntry.T12.2 impl_PutEntry.B12 = true := by kernel_rfl
def impl_PutEntry.T14 : Bool × List (List Nat × List Nat) := (true, [([], []), ([], []), ([1], [1]), ([], []), ([2, 3], [2, 3]), ([0, 4], [0, 4]), ([], []), ([6], [6]), ([5, 7, 5], [5, 7]), ([], []), ([9], [9]), ([], []), ([10, 11], [10, 11]), ([8, 12, 8], [8, 12]), ([0, 1, 2, 3, 4, 5, 6, 7, 8, 9, 10, 11, 12, 13], []), ([14, 13, 13, 0, 1, 2, 3, 4, 5, 6, 7, 8, 9, 10, 11, 12, 13], [13, 14])])
def impl_PutEntry.B14 : List Nat := [0, 0, 2, 0, 14, 31, 0, 64, 255, 0, 512, 0, 3584, 8191, 16383, 32767]
theorem impl_PutEntry.tab14 : rtab .any (opsOf Try.f28 14) = impl_PutEntry.T14 := by kernel_rfl
theorem impl_PutEntry.bits14 : waitsOk impl_PutEntry.T14.2 impl_PutEntry.B14 = true := by kernel_rfl
set_option maxHeartbeats 8000000 in
set_option maxRecDepth 100000 in
theorem impl_PutEntry.calls (k : Nat) (A0_0 : Option Addr) (c0_0 : Nat) (l0_0 : List (S49)) (a1 : Int) (a2 : Int) (r1 : List (S49)) (r2 : Bool) (w : World) (hr0_0 : Kd.C k49 w A0_0 l0_0.length l0_0) (hc0_0 : l0_0.length ≤ c0_0) (h : impl_PutEntry.f k l0_0 a1 a2 = some (r1, r2)) :
    Calls Try.prog 28 #[.agg #[.slice A0_0 l0_0.length c0_0], .int .i64 a1, .int .i64 a2] w fun e w' => ∃ v0_ : Value, e = .returned (.tuple #[.agg #[v0_], .bool r2]) ∧ Kd.R k49 49 w' w.heap.size (fun _ => True) v0_ r1 ∧ Below w.heap.size w w' := by
 have hu41 := Try.underlying41; have hu49 := Try.underlying49; have E1 := Aside0.mk hr0_0; have HC0_0 := Aside0.mk hc0_0; clear hr0_0 hc0_0
 have HB := Aside0.mk (Below.refl w.heap.size w)
 have H : ((impl_IsBundle.f k l0_0).bind fun Ji => (if Ji = true then ((impl_copyBundle.f l0_0).bind fun D8 => ((impl_FindEntry.f k l0_0 a1 a2).bind fun D7 => (if D7 ≥ 0 then (if 0 ≤ D7 then (if D7 < (l0_0.length : Int) then (if ((rd_T49 l0_0 D7).f3 = true) then (if D7 < (D8.length : Int) then ((some (D8.set (D7 : Int).toNat (⟨(rd_T49 D8 D7).f0, (rd_T49 D8 D7).f1, (rd_T49 D8 D7).f2, false⟩ : S49) : List (S49))).bind fun Dg => (impl_PutEntry.j1 k l0_0 (Dg.set (D7 : Int).toNat (⟨(rd_T49 Dg D7).f0, (rd_T49 Dg D7).f1, wrap64 (((rd_T49 Dg D7).f2) + 1), (rd_T49 Dg D7).f3⟩ : S49)))) else (none)) else ((impl_copyBundle.f l0_0).bind fun Ez => (some (Ez, false)))) else (none)) else (none)) else (impl_PutEntry.l0 k 0 l0_0 a1 a2 1 false)))) else ((impl_copyBundle.f l0_0).bind fun F3 => (some (F3, false))))) = some (r1, r2) := h
 clear h; replace H := Option.bind_eq_some_iff.mp H; obtain ⟨Ji, Li, H⟩ := H; (try dsimp only at H); have A4 := Aside0.mk Li; clear Li
 by_cases c5 : Ji = true
 ·subst c5; rw [if_pos rfl] at H; replace H := Option.bind_eq_some_iff.mp H; obtain ⟨D8, Lk, H⟩ := H; (try dsimp only at H); have A6 := Aside0.mk Lk; clear Lk; replace H := Option.bind_eq_some_iff.mp H; obtain ⟨D7, Ll, H⟩ := H; (try dsimp only at H); have A7 := Aside0.mk Ll; clear Ll; have HC8 := Aside0.mk H; clear H
  go_enter Try.func28, Try.ntmps28
  go_upto_if 24 with (first | ((with_reducible refine gate_dst (N := 3) rfl ?_); refine box_event ?hg (N := 3) ?hd (cs := #[.slice A0_0 l0_0.length c0_0]) (t := 41) ?hr ?_; (case hd => rfl); (case hg => rfl); (case hr => first | (go_simp; done) | (go_simp; rfl)); intro Ds hg w9 hbox hb; have D2 := Aside0.mk (hbox); have Js := Cmp.gw hg HB; have Jq := Cmp.gw hg HB; replace HB := Cmp.bs HB hb; clear hb hbox hg) | ((with_reducible refine gate_dst (N := 6) rfl ?_); refine box_event ?hg (N := 6) ?hd (cs := #[.slice none 0 0]) (t := 41) ?hr ?_; (case hd => rfl); (case hg => rfl); (case hr => first | (go_simp; done) | (go_simp; rfl)); intro Dw hg w10 hbox hb; have D3 := Aside0.mk (hbox); have Jt := Cmp.gw hg HB; have Jr := Cmp.gw hg HB; have Dn := Cmp.nl hg D2; have Do := Cmp.ng hg D2; replace D2 := Cmp.be D2 hb; replace HB := Cmp.bs HB hb; clear hb hbox hg; have Lu := Dn.out; have M6 := Do.out; have Fo := Cmp.c0 D2; have G1 := blk_frozen D2.out 0) | ((with_reducible refine gate_callee (f := 57) rfl ?_); refine goesL_ (some 13) rfl rfl Try.func57 (by kernel_rfl) rfl #[.agg #[.slice A0_0 l0_0.length c0_0]] rfl Cmp.q ?_; (with_reducible refine (impl_IsBundle.calls k _ _ l0_0 true _ ?side1 ?side2 A4.out).mono ?_); (case side1 => exact Cmp.rc (Kd.C_below E1.out HB.out)); (case side2 => exact HC0_0.out); rintro e w13 ⟨rfl, hb⟩; refine ⟨_, rfl, ?_⟩; replace D2 := Cmp.be D2 hb; replace D3 := Cmp.be D3 hb; replace HB := Cmp.bs HB hb; (try clear hb); (try clear hb2); (try clear hk); (try clear hi); have Fp := Cmp.c0 D2; have G2 := blk_frozen D2.out 0) | ((with_reducible refine gate_callee (f := 58) rfl ?_); refine goesL_ (some 18) rfl rfl Try.func58 (by kernel_rfl) rfl #[.agg #[.slice A0_0 l0_0.length c0_0]] rfl Cmp.q ?_; (with_reducible refine (impl_copyBundle.calls _ _ l0_0 D8 _ ?side1 ?side2 A6.out).mono ?_); (case side1 => exact Cmp.rc (Kd.C_below E1.out HB.out)); (case side2 => exact HC0_0.out); rintro e w15 ⟨v432, rfl, Fe, hb⟩; refine ⟨_, rfl, ?_⟩; have D9 := Aside0.mk (Kd.R_lower Fe (below_size (Cmp.g HB.out))); replace D2 := Cmp.be D2 hb; replace D3 := Cmp.be D3 hb; replace HB := Cmp.bs HB hb; (try clear hb); (try clear hb2); (try clear hk); (try clear hi); (try clear Fe)) | ((with_reducible refine gate_dst (N := 8) rfl ?_); refine box_event ?hg (N := 8) ?hd (cs := #[.slice none 0 0]) (t := 41) ?hr ?_; (case hd => rfl); (case hg => rfl); (case hr => first | (go_simp; done) | (go_simp; rfl)); intro Dh hg w16 hbox hb; have D4 := Aside0.mk (hbox); have Lo := Cmp.gw hg HB; have Lm := Cmp.gw hg HB; have Dk := Cmp.nl hg D2; have Dq := Cmp.ng hg D2; have Dp := Cmp.nl hg D3; have Dr := Cmp.ng hg D3; replace D9 := Aside0.mk (Kd.R_below (Cmp.rr D9.out) hb); replace D2 := Cmp.be D2 hb; replace D3 := Cmp.be D3 hb; replace HB := Cmp.bs HB hb; clear hb hbox hg; obtain ⟨Df, Da, L0⟩ := Kd.R_slice D9.out; subst L0; have Lv := Dq.out; have M7 := Dk.out; have Lw := Dr.out; have M8 := Dp.out; have Fq := Cmp.c0 D4; have G3 := blk_frozen D4.out 0; have Fr := Cmp.c0 D2; have G4 := blk_frozen D2.out 0) | ((with_reducible refine gate_callee (f := 25) rfl ?_); refine goesL_ (some 22) rfl rfl Try.func25 (by kernel_rfl) rfl #[.agg #[.slice A0_0 l0_0.length c0_0], .int .i64 a1, .int .i64 a2] rfl Cmp.q ?_; (with_reducible refine (impl_FindEntry.calls k _ _ l0_0 a1 a2 D7 _ ?side1 ?side2 A7.out).mono ?_); (case side1 => exact Kd.C_below E1.out (Cmp.g HB.out)); (case side2 => exact HC0_0.out); rintro e w22 ⟨rfl, hb⟩; refine ⟨_, rfl, ?_⟩; replace D9 := Aside0.mk (Kd.R_below (by (with_reducible repeat (first | apply Kd.R_alloc | apply Kd.R_drewN | apply Kd.R_drew)); exact (Kd.R_mono (Kd.R_far (p := ⟨Dh, 0, none⟩) (Kd.R_types D9.out D4.out (by decide)) (fun _ hk => hk.2) (.slice Df D8.length Da)) (fun _ h_ => h_.1))) hb); replace D2 := Aside0.mk (blk_below (g := Ds) (o := .cells #[.slice A0_0 l0_0.length c0_0] 41 (0, 0)) (Cmp.bw D2.out) hb); replace D3 := Aside0.mk (blk_below (g := Dw) (o := .cells #[.slice none 0 0] 41 (0, 0)) (Cmp.bw D3.out) hb); replace D4 := Aside0.mk (blk_below (g := Dh) (o := .cells #[.slice Df D8.length Da] 41 (0, 0)) (Cmp.bw D4.out) hb); replace HB := Cmp.bs HB hb; (try clear hb); (try clear hb2); (try clear hk); (try clear hi)))
  (try simp only [Act.put, List.setIfInBounds_toArray, List.set_cons_zero, List.set_cons_succ])
  go_cut [] (fun wc => ∃ (kq : Nat) (Dl : List (S49)) (Ek : Value), Aside0 (impl_PutEntry.j1 kq l0_0 Dl = some (r1, r2)) ∧ Aside0 (kq ≤ k) ∧ Aside0 (Kd.R k49 49 wc w.heap.size (fun _ => True) Ek Dl) ∧ Aside0 (wc.heap[Ds]? = some (.cells #[(.slice A0_0 l0_0.length c0_0)] 41 (0, 0))) ∧ Aside0 (wc.heap[Dw]? = some (.cells #[(.slice none 0 0)] 41 (0, 0))) ∧ Aside0 (wc.heap[Dh]? = some (.cells #[Ek] 41 (0, 0))) ∧ Aside0 (Below w.heap.size w wc))
  case first =>
   have H := HC8.out; clear HC8
   by_cases c23 : D7 ≥ 0
   ·rw [if_pos c23] at H; have c23b0 : decide (0 ≤ D7) = true := decide_eq_true c23; clear c23
    (first | rw [c23b0] | (simp only [i64_w, i32_w]; rw [c23b0]) | skip)
    by_cases c24 : 0 ≤ D7
    ·rw [if_pos c24] at H; have c24b0 : decide (0 ≤ D7) = true := decide_eq_true c24; clear c24
     by_cases c25 : D7 < (l0_0.length : Int)
     ·rw [if_pos c25] at H
      have c25b0 : decide (D7 < (l0_0.length : Int)) = true := decide_eq_true c25
      clear c25
      obtain ⟨bq26, hbq26⟩ : ∃ b_ : Bool, b_ = ((rd_T49 l0_0 D7).f3) := ⟨_, rfl⟩
      replace H : (if (bq26 = true) then (if D7 < (D8.length : Int) then ((some (D8.set (D7 : Int).toNat (⟨(rd_T49 D8 D7).f0, (rd_T49 D8 D7).f1, (rd_T49 D8 D7).f2, false⟩ : S49) : List (S49))).bind fun Dg => (impl_PutEntry.j1 k l0_0 (Dg.set (D7 : Int).toNat (⟨(rd_T49 Dg D7).f0, (rd_T49 Dg D7).f1, wrap64 (((rd_T49 Dg D7).f2) + 1), (rd_T49 Dg D7).f3⟩ : S49)))) else (none)) else ((impl_copyBundle.f l0_0).bind fun Ez => (some (Ez, false)))) = some (r1, r2) := by rw [← hbq26] at H; exact H
      have Nbq26 := Aside0.mk hbq26; clear hbq26
      by_cases c27 : (bq26 = true)
      ·subst c27; rw [if_pos rfl] at H
       by_cases c28 : D7 < (D8.length : Int)
       ·rw [if_pos c28] at H
        have c28b0 : decide (D7 < (D8.length : Int)) = true := decide_eq_true c28
        clear c28
        obtain ⟨Dg, hy437⟩ : ∃ y_ : List (S49), y_ = (D8.set (D7 : Int).toNat (⟨(rd_T49 D8 D7).f0, (rd_T49 D8 D7).f1, (rd_T49 D8 D7).f2, false⟩ : S49)) := ⟨_, rfl⟩
        replace H : (impl_PutEntry.j1 k l0_0 (Dg.set (D7 : Int).toNat (⟨(rd_T49 Dg D7).f0, (rd_T49 Dg D7).f1, wrap64 (((rd_T49 Dg D7).f2) + 1), (rd_T49 Dg D7).f3⟩ : S49))) = some (r1, r2) := by first | (rw [hy437]; with_reducible exact H) | (have H2_ := (Option.bind_some _ _).symm.trans H; rw [hy437]; with_reducible exact H2_) | (have H2_ := (Option.bind_some _ _).symm.trans H; with_reducible exact H2_) | with_reducible exact H | (rw [hy437]; exact H) | exact H
        have Gr := Aside0.mk hy437; clear hy437
        obtain ⟨Jj, hy439⟩ : ∃ y_ : List (S49), y_ = (Dg.set (D7 : Int).toNat (⟨(rd_T49 Dg D7).f0, (rd_T49 Dg D7).f1, wrap64 (((rd_T49 Dg D7).f2) + 1), (rd_T49 Dg D7).f3⟩ : S49)) := ⟨_, rfl⟩
        replace H : (impl_PutEntry.j1 k l0_0 Jj) = some (r1, r2) := by first | (rw [hy439]; with_reducible exact H) | (have H2_ := (Option.bind_some _ _).symm.trans H; rw [hy439]; with_reducible exact H2_) | (have H2_ := (Option.bind_some _ _).symm.trans H; with_reducible exact H2_) | with_reducible exact H | (rw [hy439]; exact H) | exact H
        have Ju := Aside0.mk hy439; clear hy439
        have H' := Aside0.mk H
        clear H; have Lx := Dn.out; have M9 := Do.out; have Ly := Dk.out; have Ma := Dq.out
        have Fs := Cmp.c0 D2
        have G5 := blk_frozen D2.out 0
        have p436 : 0 ≤ (D7 : Int) := of_decide_eq_true Cmp.d
        have q436 : D7 < (l0_0.length : Int) := of_decide_eq_true Cmp.d
        obtain ⟨Gw, e436, E8, E9, Ea, E4⟩ := at_T49 E1.out D7 p436 q436
        (try rw [← Nbq26.out] at E4)
        cases e436
        replace E8 := Cmp.hc HB E8
        replace E9 := Cmp.hc HB E9
        replace Ea := Cmp.hc HB Ea
        replace E4 := Cmp.hc HB E4
        replace p436 := eq_true p436; replace q436 := eq_true q436; have Lz := Dr.out; have Mb := Dp.out
        have Ft := Cmp.c0 D4
        have G6 := blk_frozen D4.out 0
        have p29 : 0 ≤ (D7 : Int) := of_decide_eq_true Cmp.d
        have q29 : (D7 : Int) < ((D8.length : Int) : Int) := of_decide_eq_true Cmp.d
        obtain ⟨go29, Ml, K7, Ka, gl29, cl29, HG29⟩ := Kd.R_form D9.out (by omega)
        (first | cases K7 | (injection K7 with ea_ en_ ec_; (first | subst ea_ | (injection ea_ with ea_; subst ea_)); subst ec_; clear en_))
        have GB29 := Aside0.mk Ka; have GG29 := Aside0.mk HG29; clear Ka gl29 HG29
        obtain ⟨ce29, hcl29, hM29, hcc29, hfr29⟩ := Kd.R_elem D9.out z49 (D7 : Int) p29 q29
        obtain rfl := k49_openM hM29
        have Ja : w22.cell? ⟨go29, (D7 : Int).toNat * 4, none⟩ = some (.int .i64 ((rd_T49 D8 D7).f0)) := hcc29 0 _ rfl
        have Jb : w22.cell? ⟨go29, (D7 : Int).toNat * 4 + 1, none⟩ = some (.int .i64 ((rd_T49 D8 D7).f1)) := hcc29 1 _ rfl
        have Jc : w22.cell? ⟨go29, (D7 : Int).toNat * 4 + 2, none⟩ = some (.int .i64 ((rd_T49 D8 D7).f2)) := hcc29 2 _ rfl
        have Jd : w22.cell? ⟨go29, (D7 : Int).toNat * 4 + 3, none⟩ = some (.bool ((rd_T49 D8 D7).f3)) := hcc29 3 _ rfl
        have hf29_0 : w22.frozen? ⟨go29, (D7 : Int).toNat * 4, none⟩ = false := hfr29 0
        have hf29_1 : w22.frozen? ⟨go29, (D7 : Int).toNat * 4 + 1, none⟩ = false := hfr29 1
        have hf29_2 : w22.frozen? ⟨go29, (D7 : Int).toNat * 4 + 2, none⟩ = false := hfr29 2
        have hf29_3 : w22.frozen? ⟨go29, (D7 : Int).toNat * 4 + 3, none⟩ = false := hfr29 3
        clear hcl29 hcc29 hfr29 hM29; replace p29 := eq_true p29; replace q29 := eq_true q29
        have HX36 := Aside0.mk (show Kd.R k49 49 w22 w.heap.size (fun _ => True) (.slice (some ⟨go29, 0, none⟩) D8.length Da) D8 from (Cmp.rr D9.out))
        obtain ⟨ce36, hcl36, hM36, hcc36, hfr36⟩ := Kd.R_elem HX36.out z49 (D7 : Int) (of_decide_eq_true Cmp.d) (by have h_ : (D7 : Int) < ((D8.length : Int) : Int) := of_decide_eq_true Cmp.d; first | exact h_ | (have e_ := (Kd.R_reads' D9.out).1; omega) | simpa using h_)
        obtain rfl := k49_openM hM36
        have HP36 := Kd.R_seg HX36.out (D7 : Int) (of_decide_eq_true Cmp.d) (by have h_ : (D7 : Int) < ((D8.length : Int) : Int) := of_decide_eq_true Cmp.d; first | exact h_ | (have e_ := (Kd.R_reads' D9.out).1; omega) | simpa using h_) (seg := [.bool false]) (j := 3) hcl36 hcc36 (show 4 ≤ 4 from by decide) (x' := (⟨(rd_T49 D8 D7).f0, (rd_T49 D8 D7).f1, (rd_T49 D8 D7).f2, false⟩ : S49)) (k49_mkM _ _ _ (⟨(rd_T49 D8 D7).f0, (rd_T49 D8 D7).f1, (rd_T49 D8 D7).f2, false⟩ : S49) ) (fun _ hk => hk)
        have Fj := hcc36 3 _ rfl
        (try simp only [show (k49).sz = 4 from rfl, Nat.mul_one, Nat.add_zero] at Fj)
        have hf36_3 := hfr36 3
        (try simp only [show (k49).sz = 4 from rfl, Nat.mul_one, Nat.add_zero] at hf36_3)
        clear hcl36 hcc36 hfr36 hM36
        go_wp2_with (first | ((with_reducible refine gate_store (t := 4) (p := 38) rfl ?_); refine store_event (t := 4) (p := 38) (v := ?vo_w37) (w1 := (w22.setCell ⟨go29, (D7 : Int).toNat * 4 + 3, none⟩ (.bool false))) ?hg ?ho ?hn ?hr ?_; (case ho => rfl); (case hg => rfl); (case hn => rfl); (case hr => first | (go_simp; done) | (go_simp; rfl)); intro w37 hw; have hg : w22.grownBy w37 (some go29) := (by rw [hw]; exact HP36.2); have hp_ : Kd.R k49 49 w37 w.heap.size (fun _ => True) (.slice (some ⟨go29, 0, none⟩) D8.length Da) Dg := (by rw [hw, Gr.out]; exact HP36.1); clear HP36; replace D2 := Cmp.bg D2 hg (Kd.R_ne D9.out D2.out (by decide)); replace D3 := Cmp.bg D3 hg (Kd.R_ne D9.out D3.out (by decide)); replace D4 := Cmp.bg D4 hg (Kd.R_ne D9.out D4.out (by decide)); replace D9 := Aside0.mk (hp_); replace HB := Aside0.mk ((by rw [hw]; exact below_set (HB.out) GB29.out : Below w.heap.size w w37)); clear hg hw hp_; have Fu := Cmp.c0 D4; have G7 := blk_frozen D4.out 0; have p438 : 0 ≤ (D7 : Int) := of_decide_eq_true Cmp.d; have q438 : D7 < (Dg.length : Int) := (by have h_ : (D7 : Int) < ((D8.length : Int) : Int) := of_decide_eq_true Cmp.d; first | (have e_ := (Kd.R_reads' D9.out).1; omega) | simpa only [Gr.out, List.length_set] using h_); have ql438 : ((D7 : Int) < ((D8.length : Int) : Int)) = True := eq_true (of_decide_eq_true Cmp.d); obtain ⟨Jz, e438, Eq, Er, Es, Ej⟩ := at_T49 (Kd.R_reads' D9.out).2.2 D7 p438 q438; (try rw [← Nbq26.out] at Ej); obtain rfl : (⟨go29, 0, none⟩ : Addr) = Jz := (by injection e438); (first | simp only [add_plain] at Eq | simp only [add_at] at Eq | simp only [Addr.add, Nat.zero_add] at Eq | skip); (first | simp only [add_plain] at Er | simp only [add_at] at Er | simp only [Addr.add, Nat.zero_add] at Er | skip); (first | simp only [add_plain] at Es | simp only [add_at] at Es | simp only [Addr.add, Nat.zero_add] at Es | skip); (first | simp only [add_plain] at Ej | simp only [add_at] at Ej | simp only [Addr.add, Nat.zero_add] at Ej | skip); replace p438 := eq_true p438; replace q438 := eq_true q438; have p30 : 0 ≤ (D7 : Int) := of_decide_eq_true Cmp.d; have q30 : (D7 : Int) < ((D8.length : Int) : Int) := of_decide_eq_true Cmp.d; obtain ⟨ce30, hcl30, hM30, hcc30, hfr30⟩ := Kd.R_elem D9.out z49 (D7 : Int) p30 q30; obtain rfl := k49_openM hM30; have Je : w37.cell? ⟨go29, (D7 : Int).toNat * 4, none⟩ = some (.int .i64 ((rd_T49 Dg D7).f0)) := hcc30 0 _ rfl; have Jf : w37.cell? ⟨go29, (D7 : Int).toNat * 4 + 1, none⟩ = some (.int .i64 ((rd_T49 Dg D7).f1)) := hcc30 1 _ rfl; have Jg : w37.cell? ⟨go29, (D7 : Int).toNat * 4 + 2, none⟩ = some (.int .i64 ((rd_T49 Dg D7).f2)) := hcc30 2 _ rfl; have Jh : w37.cell? ⟨go29, (D7 : Int).toNat * 4 + 3, none⟩ = some (.bool ((rd_T49 Dg D7).f3)) := hcc30 3 _ rfl; have hf30_0 : w37.frozen? ⟨go29, (D7 : Int).toNat * 4, none⟩ = false := hfr30 0; have hf30_1 : w37.frozen? ⟨go29, (D7 : Int).toNat * 4 + 1, none⟩ = false := hfr30 1; have hf30_2 : w37.frozen? ⟨go29, (D7 : Int).toNat * 4 + 2, none⟩ = false := hfr30 2; have hf30_3 : w37.frozen? ⟨go29, (D7 : Int).toNat * 4 + 3, none⟩ = false := hfr30 3; clear hcl30 hcc30 hfr30 hM30; replace p30 := eq_true p30; replace q30 := eq_true q30; have HX39 := Aside0.mk (show Kd.R k49 49 w37 w.heap.size (fun _ => True) (.slice (some ⟨go29, 0, none⟩) D8.length Da) Dg from (Cmp.rr D9.out)); obtain ⟨ce39, hcl39, hM39, hcc39, hfr39⟩ := Kd.R_elem HX39.out z49 (D7 : Int) (of_decide_eq_true Cmp.d) (by have h_ : (D7 : Int) < ((D8.length : Int) : Int) := of_decide_eq_true Cmp.d; first | exact h_ | (have e_ := (Kd.R_reads' D9.out).1; omega) | simpa using h_); obtain rfl := k49_openM hM39; have HP39 := Kd.R_seg HX39.out (D7 : Int) (of_decide_eq_true Cmp.d) (by have h_ : (D7 : Int) < ((D8.length : Int) : Int) := of_decide_eq_true Cmp.d; first | exact h_ | (have e_ := (Kd.R_reads' D9.out).1; omega) | simpa using h_) (seg := [.int .i64 (wrap64 (((rd_T49 Dg D7).f2) + 1))]) (j := 2) hcl39 hcc39 (show 3 ≤ 4 from by decide) (x' := (⟨(rd_T49 Dg D7).f0, (rd_T49 Dg D7).f1, wrap64 (((rd_T49 Dg D7).f2) + 1), (rd_T49 Dg D7).f3⟩ : S49)) (k49_mkM _ _ _ (⟨(rd_T49 Dg D7).f0, (rd_T49 Dg D7).f1, wrap64 (((rd_T49 Dg D7).f2) + 1), (rd_T49 Dg D7).f3⟩ : S49) ) (fun _ hk => hk); have Fk := hcc39 2 _ rfl; (try simp only [show (k49).sz = 4 from rfl, Nat.mul_one, Nat.add_zero] at Fk); have hf39_2 := hfr39 2; (try simp only [show (k49).sz = 4 from rfl, Nat.mul_one, Nat.add_zero] at hf39_2); clear hcl39 hcc39 hfr39 hM39) | ((with_reducible refine gate_store (t := 3) (p := 47) rfl ?_); refine store_event (t := 3) (p := 47) (v := ?vo_w40) (w1 := (w37.setCell ⟨go29, (D7 : Int).toNat * 4 + 2, none⟩ (.int .i64 (wrap64 (((rd_T49 Dg D7).f2) + 1))))) ?hg ?ho ?hn ?hr ?_; (case ho => rfl); (case hg => rfl); (case hn => rfl); (case hr => first | (go_simp; done) | (go_simp; rfl)); intro w40 hw; have hg : w37.grownBy w40 (some go29) := (by rw [hw]; exact HP39.2); have hp_ : Kd.R k49 49 w40 w.heap.size (fun _ => True) (.slice (some ⟨go29, 0, none⟩) D8.length Da) Jj := (by rw [hw, Ju.out]; exact HP39.1); clear HP39; replace D2 := Cmp.bg D2 hg (Kd.R_ne D9.out D2.out (by decide)); replace D3 := Cmp.bg D3 hg (Kd.R_ne D9.out D3.out (by decide)); replace D4 := Cmp.bg D4 hg (Kd.R_ne D9.out D4.out (by decide)); replace D9 := Aside0.mk (hp_); replace HB := Aside0.mk ((by rw [hw]; exact below_set (HB.out) GB29.out : Below w.heap.size w w40)); clear hg hw hp_))
        go_meet
        case rel => exact ⟨_, (Jj), (.slice (some ⟨go29, 0, none⟩) D8.length Da), H', ⟨by first | omega | exact Nat.le_refl _⟩, ⟨Cmp.rr D9.out⟩, Cmp.bq D2, Cmp.bq D3, Cmp.bq D4, ⟨Cmp.g HB.out⟩⟩
       ·rw [if_neg c28] at H; exact absurd H (by simp)
      ·replace c27 := Bool.eq_false_iff.mpr c27
       subst c27
       have H1 : ((impl_copyBundle.f l0_0).bind fun Ez => (some (Ez, false))) = some (r1, r2) := by rw [if_neg (show ¬ (false = true) by decide)] at H; exact H
       clear H; have H := H1; clear H1; replace H := Option.bind_eq_some_iff.mp H; obtain ⟨Ez, Jl, H⟩ := H; (try dsimp only at H); have Mi := Aside0.mk Jl; clear Jl
       simp only [Option.some.injEq, Prod.mk.injEq] at H
       obtain ⟨rfl, rfl⟩ := H; have M0 := Dn.out; have Mc := Do.out; have M1 := Dk.out; have Md := Dq.out
       have Fv := Cmp.c0 D2
       have G8 := blk_frozen D2.out 0
       have p436 : 0 ≤ (D7 : Int) := of_decide_eq_true Cmp.d
       have q436 : D7 < (l0_0.length : Int) := of_decide_eq_true Cmp.d
       obtain ⟨Gw, e436, E8, E9, Ea, E4⟩ := at_T49 E1.out D7 p436 q436
       (try rw [← Nbq26.out] at E4)
       cases e436
       replace E8 := Cmp.hc HB E8
       replace E9 := Cmp.hc HB E9
       replace Ea := Cmp.hc HB Ea
       replace E4 := Cmp.hc HB E4
       replace p436 := eq_true p436; replace q436 := eq_true q436
       go_wp2_with (first | ((with_reducible refine gate_callee (f := 58) rfl ?_); refine goesL_ (some 33) rfl rfl Try.func58 (by kernel_rfl) rfl #[.agg #[.slice (some Gw) l0_0.length c0_0]] rfl Cmp.q ?_; (with_reducible refine (impl_copyBundle.calls _ _ l0_0 Ez _ ?side1 ?side2 Mi.out).mono ?_); (case side1 => exact Cmp.rc (Kd.C_below E1.out HB.out)); (case side2 => exact HC0_0.out); rintro e w45 ⟨v441, rfl, Fe, hb⟩; refine ⟨_, rfl, ?_⟩; have Gn := Aside0.mk (Kd.R_lower (Kd.R_new' Fe (Kd.R_lt (Cmp.rr D9.out))) (below_size (Cmp.g HB.out))); replace D9 := Aside0.mk (Kd.R_elder' (Cmp.rr D9.out) (Kd.R_base Fe) hb); replace D2 := Cmp.be D2 hb; replace D3 := Cmp.be D3 hb; replace D4 := Cmp.be D4 hb; replace HB := Cmp.bs HB hb; (try clear hb); (try clear hb2); (try clear hk); (try clear hi); (try clear Fe); obtain ⟨Jo, K1, L1⟩ := Kd.R_slice Gn.out; subst L1; have M2 := Dp.out; have Me := Dr.out; have Fw := Cmp.c0 D3; have G9 := blk_frozen D3.out 0))
       refine bodyPost_ret (results_ct rfl _ _ Dw 41 #[.slice Jo Ez.length K1] (0, 0) _ rfl (Cmp.bw D3.out) Try.underlying41 rfl (by kernel_rfl)) rfl ?_
       exact ⟨_, by first | rfl | (simp [errW_none, errW_some] <;> rfl) | (simp [*, errW_none, errW_some] <;> rfl), by (with_reducible repeat (first | apply Kd.R_alloc | apply Kd.R_drewN | apply Kd.R_drew)); exact Kd.R_mono (Kd.R_far (p := ⟨Dw, 0, none⟩) (Kd.R_types Gn.out D3.out (by decide)) (fun _ hk => hk.2) (.slice Jo Ez.length K1)) (fun _ hk => trivial), Cmp.g HB.out⟩
     ·rw [if_neg c25] at H; exact absurd H (by simp)
    ·rw [if_neg c24] at H; exact absurd H (by simp)
   ·rw [if_neg c23] at H; have c23b0 : decide (0 ≤ D7) = false := decide_eq_false c23; clear c23
    (first | rw [c23b0] | (simp only [i64_w, i32_w]; rw [c23b0]) | skip)
    have H' := Aside0.mk H
    clear H
    go_wp2_with (first | ((with_reducible refine gate_dst (N := 10) rfl ?_); refine box_event ?hg (N := 10) ?hd (cs := #[.int .i64 0, .int .i64 0, .int .i64 0, .bool false]) (t := 49) ?hr ?_; (case hd => rfl); (case hg => rfl); (case hr => first | (go_simp; done) | (go_simp; rfl)); intro D6 hg w49 hbox hb; have D1 := Aside0.mk (hbox); have Lp := Cmp.gw hg HB; have Ln := Cmp.gw hg HB; have Fa := Cmp.nl hg D2; have Fc := Cmp.ng hg D2; have Fb := Cmp.nl hg D3; have Fd := Cmp.ng hg D3; have El := Cmp.nl hg D4; have De := Cmp.ng hg D4; replace D9 := Aside0.mk (Kd.R_below (Kd.R_elderB (Cmp.rr D9.out) D6 (Nat.le_of_eq hg.symm)) hb); replace D2 := Cmp.be D2 hb; replace D3 := Cmp.be D3 hb; replace D4 := Cmp.be D4 hb; replace HB := Cmp.bs HB hb; clear hb hbox hg; have M3 := Fc.out; have Mf := Fa.out; have M4 := Fd.out; have Mg := Fb.out; have M5 := De.out; have Mh := El.out; have Fx := Cmp.c0 D1; have Fy := Cmp.c1 D1; have Fz := Cmp.c2 D1; have G0 := Cmp.c3 D1; have Ga := blk_frozen D1.out 0; have Gb := blk_frozen D1.out 1; have Gc := blk_frozen D1.out 2; have Gd := blk_frozen D1.out 3))
    go_loopg [11] k (fun kq v11 w' => ∃ (D5 : Int), v11 = .int .i64 D5 ∧ Aside0 (impl_PutEntry.l0 kq D5 l0_0 a1 a2 1 false = some (r1, r2)) ∧ Aside0 (kq ≤ k) ∧ Aside0 (Kd.R k49 49 w' w.heap.size (fun k_ => k_ ≠ D6) (.slice Df D8.length Da) D8) ∧ Aside0 (w'.heap[Ds]? = some (.cells #[(.slice A0_0 l0_0.length c0_0)] 41 (0, 0))) ∧ Aside0 (w'.heap[Dw]? = some (.cells #[(.slice none 0 0)] 41 (0, 0))) ∧ Aside0 (w'.heap[Dh]? = some (.cells #[(.slice Df D8.length Da)] 41 (0, 0))) ∧ Aside0 (w'.heap[D6]? = some (.cells #[.int .i64 a1, .int .i64 a2, .int .i64 1, .bool false] 49 (0, 0))) ∧ Aside0 (Below w.heap.size w w'))
    case atStart => exact ⟨(0), (by first | rfl | simp | simp [*]), H', ⟨Nat.le_refl _⟩, ⟨by (with_reducible repeat (first | apply Kd.R_alloc | apply Kd.R_drewN | apply Kd.R_drew)); exact Kd.R_mono (Kd.R_far (p := ⟨D6, 3, none⟩) (Kd.R_far (p := ⟨D6, 2, none⟩) (Kd.R_far (p := ⟨D6, 1, none⟩) (Kd.R_far (p := ⟨D6, 0, none⟩) (Kd.R_mono D9.out (fun k_ hk => (⟨hk, hk.2⟩ : _ ∧ k_ ≠ D6))) (fun _ hk => hk.2) (.int .i64 a1)) (fun _ hk => hk.2) (.int .i64 a2)) (fun _ hk => hk.2) (.int .i64 1)) (fun _ hk => hk.2) (.bool false)) (fun _ hk => hk.1.2)⟩, ⟨Cmp.bw D2.out⟩, ⟨Cmp.bw D3.out⟩, ⟨Cmp.bw D4.out⟩, ⟨Cmp.bw D1.out⟩, ⟨Cmp.g HB.out⟩⟩
    case round =>
     clear H'
     (try clear c1); (try clear c2); (try clear p2); (try clear q2); (try clear hx2); (try clear c3); (try clear p3); (try clear q3); (try clear hx3); (try clear hf3); (try clear c4); (try clear p4); (try clear q4); (try clear hx4); (try clear c5); (try clear p6); (try clear c11); (try clear c18); (try clear c19); (try clear c23); (try clear c23b0); (try clear c24); (try clear c24b0); (try clear c25); (try clear c25b0); (try clear q26); (try clear c27); (try clear c28); (try clear c28b0); (try clear c29); (try clear p29); (try clear q29); (try clear hx29); (try clear hf29); (try clear c30); (try clear p30); (try clear q30); (try clear hx30); (try clear hf30); (try clear c31); (try clear c32); (try clear c34); (try clear c36); (try clear hx36); (try clear hf36); (try clear c39); (try clear hx39); (try clear hf39); (try clear c42); (try clear c43); (try clear p43); (try clear q43); (try clear hx43); (try clear c47); (try clear c50); (try clear c51); (try clear c52); (try clear Fo); (try clear Fp); (try clear Fq); (try clear Fr); (try clear Fs); (try clear Ft); (try clear Fu); (try clear Fv); (try clear Fw); (try clear Fx); (try clear Fy); (try clear Fz); (try clear G0); (try clear G1); (try clear G2); (try clear G3); (try clear G4); (try clear G5); (try clear G6); (try clear G7); (try clear G8); (try clear G9); (try clear Ga); (try clear Gb); (try clear Gc); (try clear Gd); (try clear Ja); (try clear Jb); (try clear Jc); (try clear Jd); (try clear Je); (try clear Jf); (try clear Jg); (try clear Jh); (try clear Fj); (try clear Fk); (try clear E8); (try clear E9); (try clear Ea); (try clear E4); (try clear Eq); (try clear Er); (try clear Es); (try clear Ej); (try clear p29); (try clear p30); (try clear p436); (try clear p438); (try clear q29); (try clear q30); (try clear q436); (try clear q438)
     obtain ⟨D5, rfl, HA, HK1, D0, D2, D3, D4, D1, HB⟩ := hrel
     cases gk with
     | zero => exact absurd HA.out (by simp [impl_PutEntry.l0])
     | succ k1 =>
      have H := HA.out; clear HA
      simp only [impl_PutEntry.l0] at H
      by_cases c54 : D5 < (l0_0.length : Int)
      ·rw [if_pos c54] at H
       have c54b0 : decide (D5 < (l0_0.length : Int)) = true := decide_eq_true c54
       clear c54
       by_cases c55 : 0 ≤ D5
       ·rw [if_pos c55] at H; have c55b0 : decide (0 ≤ D5) = true := decide_eq_true c55; clear c55; replace H := Option.bind_eq_some_iff.mp H; obtain ⟨Lg, Jm, H⟩ := H; (try dsimp only at H); have Lj := Aside0.mk Jm; clear Jm
        by_cases c57 : Lg = true
        ·subst c57; rw [if_pos rfl] at H
         have H' := Aside0.mk H
         clear H
         try go_wp2
         replace D0 := Aside0.mk (Kd.R_drew D0.out); replace D2 := Aside0.mk (blk_drew D2.out); replace D3 := Aside0.mk (blk_drew D3.out); replace D4 := Aside0.mk (blk_drew D4.out); replace D1 := Aside0.mk (blk_drew D1.out); replace HB := Aside0.mk (below_drew1 HB.out)
         have p444 : 0 ≤ (D5 : Int) := of_decide_eq_true Cmp.d
         have q444 : D5 < (l0_0.length : Int) := of_decide_eq_true Cmp.d
         obtain ⟨Dd, e444, Dx, Dy, Dz, E0⟩ := at_T49 E1.out D5 p444 q444
         have Ei := E0; have Eh := Dz; have Eg := Dy; have Ef := Dx; cases e444
         replace Dx := Cmp.hc HB Dx
         replace Dy := Cmp.hc HB Dy
         replace Dz := Cmp.hc HB Dz
         replace E0 := Cmp.hc HB E0
         replace p444 := eq_true p444; replace q444 := eq_true q444
         refine start_ (n := 14) (S := fun w' => w'.cell? ⟨Ds, 0, none⟩ = some (.slice (some Dd) l0_0.length c0_0) ∧ w'.cell? ⟨D6, 0, none⟩ = some (.int .i64 a1) ∧ w'.cell? ⟨D6, 1, none⟩ = some (.int .i64 a2) ∧ w'.cell? ⟨D6, 2, none⟩ = some (.int .i64 1) ∧ w'.cell? ⟨D6, 3, none⟩ = some (.bool false) ∧ w'.cell? (Dd.add ((D5).toNat * 4)) = some (.int .i64 ((rd_T49 l0_0 D5).f0)) ∧ w'.cell? ⟨(Dd.add ((D5).toNat * 4)).block, (Dd.add ((D5).toNat * 4)).off + 1, none⟩ = some (.int .i64 ((rd_T49 l0_0 D5).f1)) ∧ w'.cell? ⟨(Dd.add ((D5).toNat * 4)).block, (Dd.add ((D5).toNat * 4)).off + 2, none⟩ = some (.int .i64 ((rd_T49 l0_0 D5).f2)) ∧ w'.cell? ⟨(Dd.add ((D5).toNat * 4)).block, (Dd.add ((D5).toNat * 4)).off + 3, none⟩ = some (.bool ((rd_T49 l0_0 D5).f3))) (ds := []) (Cmp.bm 0 14) (by kernel_rfl) rfl rfl ⟨(Cmp.c0 D2 :), (Cmp.c0 D1 :), (Cmp.c1 D1 :), (Cmp.c2 D1 :), (Cmp.c3 D1 :), (Cmp.hc HB Ef :), (Cmp.hc HB Eg :), (Cmp.hc HB Eh :), (Cmp.hc HB Ei :)⟩ (fun hHeld => ?_); refine with_tabW impl_PutEntry.tab12 impl_PutEntry.bits12 (fun HT_ HW_ => ?_)
         generalize wr.drew = w58 at D0 D2 D3 D4 D1 HB Dx Dy Dz E0 hHeld ⊢
         refine Cmp.pu HT_ 0 51 (Cmp.bm 1 13) ?_; refine Cmp.pu HT_ 1 52 (Cmp.bm 2 12) ?_; refine Cmp.tk HT_ HW_ hHeld 2 53 (Cmp.bm 3 11) ?_; refine Cmp.pu HT_ 3 54 (Cmp.bm 4 10) ?_; refine Cmp.pu HT_ 4 55 (Cmp.bm 5 9) ?_; refine Cmp.pu HT_ 5 56 (Cmp.bm 6 8) ?_; refine Cmp.pu HT_ 6 57 (Cmp.bm 7 7) ?_; refine Cmp.pu HT_ 8 59 (Cmp.bb 14 383) ?_; refine Cmp.tk HT_ HW_ hHeld 7 58 (Cmp.bm 9 5) ?_; refine Cmp.pu HT_ 9 60 (Cmp.bm 10 4) ?_; refine Cmp.tk HT_ HW_ hHeld 10 61 (Cmp.bm 11 3) ?_; refine Cmp.tk HT_ HW_ hHeld 11 62 (Cmp.bm 12 2) ?_
         refine one_ (i := 12) (N := some 63) (Cmp.bm 13 1) rfl rfl (one_of HT_.out (by kernel_rfl)) (by decide) (fun K hK => ?_)
         refine goes_ Try.func63 (by kernel_rfl) rfl #[.agg #[.int .i64 ((rd_T49 l0_0 D5).f0), .int .i64 ((rd_T49 l0_0 D5).f1), .int .i64 ((rd_T49 l0_0 D5).f2), .bool ((rd_T49 l0_0 D5).f3)], .agg #[.int .i64 a1, .int .i64 a2, .int .i64 1, .bool false]] (by rfl) rfl rfl Cmp.q ?_
         with_reducible refine (impl_entryBefore.calls ((rd_T49 l0_0 D5).f0) ((rd_T49 l0_0 D5).f1) ((rd_T49 l0_0 D5).f2) ((rd_T49 l0_0 D5).f3) a1 a2 1 false true _ Lj.out).mono ?_
         rintro e w59 ⟨rfl, hb⟩; refine ⟨_, rfl, ?_⟩
         have n0_ := Aside0.mk (Kd.R_below (Cmp.rr D0.out) hb)
         have n1_ := Cmp.be D2 hb
         have n2_ := Cmp.be D3 hb
         have n3_ := Cmp.be D4 hb
         have n4_ := Cmp.be D1 hb
         have n5_ := Aside0.mk (below_step (Cmp.g HB.out) hb)
         clear D0; clear D2; clear D3; clear D4; clear D1; clear HB; have D0 := n0_; have D2 := n1_; have D3 := n2_; have D4 := n3_; have D1 := n4_; have HB := n5_; clear n0_ n1_ n2_ n3_ n4_ n5_; (try clear hb); (try clear hb2); (try clear hk); (try clear hi)
         refine hK.out _ _ ⟨(Cmp.c0 D2 :), (Cmp.c0 D1 :), (Cmp.c1 D1 :), (Cmp.c2 D1 :), (Cmp.c3 D1 :), (Cmp.hc HB Ef :), (Cmp.hc HB Eg :), (Cmp.hc HB Eh :), (Cmp.hc HB Ei :)⟩ (fun hHeld => ?_)
         clear hK K
         refine norm_ (a' := ?_) ?_ ?_
         rotate_left
         ·show Act.put _ (some 63) _ = _
          simp only [Act.put, Cmp.s, Cmp.z, Cmp.c, i64_w, i32_w]; rfl
         refine Cmp.pu HT_ 13 64 (Cmp.bm 14 0) ?_
         refine done_ (done_of HT_.out (by kernel_rfl)) ?_
         try go_wp2
         go_roundg k1
         case measure => have := HK1.out; omega
         case rel => exact ⟨(wrap64 (D5 + 1)), (by first | rfl | simp | simp [*]), H', ⟨by have := HK1.out; omega⟩, ⟨Cmp.rr D0.out⟩, Cmp.bq D2, Cmp.bq D3, Cmp.bq D4, Cmp.bq D1, ⟨Cmp.g HB.out⟩⟩
        ·replace c57 := Bool.eq_false_iff.mpr c57
         subst c57
         have H1 : ((some (([] : List (S49)) : List (S49))).bind fun Eo => (if D5 ≤ (l0_0.length : Int) then ((some (l0_0.take (D5 : Int).toNat : List (S49))).bind fun Ed => (if Eo.length + Ed.length < 4398046511104 then ((some (Eo ++ Ed : List (S49))).bind fun E7 => ((some (([(⟨a1, a2, 1, false⟩ : S49)] : List (S49)) : List (S49))).bind fun E2 => (if E7.length + E2.length < 4398046511104 then ((some (E7 ++ E2 : List (S49))).bind fun E3 => ((some (l0_0.drop (D5 : Int).toNat : List (S49))).bind fun Dm => (if E3.length + Dm.length < 4398046511104 then (impl_PutEntry.j1 k1 l0_0 (E3 ++ Dm)) else (none)))) else (none)))) else (none))) else (none))) = some (r1, r2) := by rw [if_neg (show ¬ (false = true) by decide)] at H; exact H
         clear H; have H := H1; clear H1
         obtain ⟨Eo, hy446⟩ : ∃ y_ : List (S49), y_ = (([] : List (S49))) := ⟨_, rfl⟩
         replace H : (if D5 ≤ (l0_0.length : Int) then ((some (l0_0.take (D5 : Int).toNat : List (S49))).bind fun Ed => (if Eo.length + Ed.length < 4398046511104 then ((some (Eo ++ Ed : List (S49))).bind fun E7 => ((some (([(⟨a1, a2, 1, false⟩ : S49)] : List (S49)) : List (S49))).bind fun E2 => (if E7.length + E2.length < 4398046511104 then ((some (E7 ++ E2 : List (S49))).bind fun E3 => ((some (l0_0.drop (D5 : Int).toNat : List (S49))).bind fun Dm => (if E3.length + Dm.length < 4398046511104 then (impl_PutEntry.j1 k1 l0_0 (E3 ++ Dm)) else (none)))) else (none)))) else (none))) else (none)) = some (r1, r2) := by first | (rw [hy446]; with_reducible exact H) | (have H2_ := (Option.bind_some _ _).symm.trans H; rw [hy446]; with_reducible exact H2_) | (have H2_ := (Option.bind_some _ _).symm.trans H; with_reducible exact H2_) | with_reducible exact H | (rw [hy446]; exact H) | exact H
         have F5 := Aside0.mk hy446; clear hy446
         have c60b0 := eq_true (of_decide_eq_true Cmp.d : 0 ≤ D5)
         by_cases c61 : D5 ≤ (l0_0.length : Int)
         ·rw [if_pos c61] at H
          have c61b0 := eq_true c61
          have c61b1 : decide (D5 ≤ (l0_0.length : Int)) = true := decide_eq_true c61
          clear c61
          obtain ⟨Ed, hy449⟩ : ∃ y_ : List (S49), y_ = (l0_0.take (D5 : Int).toNat) := ⟨_, rfl⟩
          replace H : (if Eo.length + Ed.length < 4398046511104 then ((some (Eo ++ Ed : List (S49))).bind fun E7 => ((some (([(⟨a1, a2, 1, false⟩ : S49)] : List (S49)) : List (S49))).bind fun E2 => (if E7.length + E2.length < 4398046511104 then ((some (E7 ++ E2 : List (S49))).bind fun E3 => ((some (l0_0.drop (D5 : Int).toNat : List (S49))).bind fun Dm => (if E3.length + Dm.length < 4398046511104 then (impl_PutEntry.j1 k1 l0_0 (E3 ++ Dm)) else (none)))) else (none)))) else (none)) = some (r1, r2) := by first | (rw [hy449]; with_reducible exact H) | (have H2_ := (Option.bind_some _ _).symm.trans H; rw [hy449]; with_reducible exact H2_) | (have H2_ := (Option.bind_some _ _).symm.trans H; with_reducible exact H2_) | with_reducible exact H | (rw [hy449]; exact H) | exact H
          have Gs := Aside0.mk hy449; clear hy449
          by_cases c62 : Eo.length + Ed.length < 4398046511104
          ·rw [if_pos c62] at H; have LMc62 := Aside0.mk c62; clear c62
           obtain ⟨E7, hy453⟩ : ∃ y_ : List (S49), y_ = (Eo ++ Ed) := ⟨_, rfl⟩
           replace H : ((some (([(⟨a1, a2, 1, false⟩ : S49)] : List (S49)) : List (S49))).bind fun E2 => (if E7.length + E2.length < 4398046511104 then ((some (E7 ++ E2 : List (S49))).bind fun E3 => ((some (l0_0.drop (D5 : Int).toNat : List (S49))).bind fun Dm => (if E3.length + Dm.length < 4398046511104 then (impl_PutEntry.j1 k1 l0_0 (E3 ++ Dm)) else (none)))) else (none))) = some (r1, r2) := by first | (rw [hy453]; with_reducible exact H) | (have H2_ := (Option.bind_some _ _).symm.trans H; rw [hy453]; with_reducible exact H2_) | (have H2_ := (Option.bind_some _ _).symm.trans H; with_reducible exact H2_) | with_reducible exact H | (rw [hy453]; exact H) | exact H
           have Fg := Aside0.mk hy453; clear hy453
           obtain ⟨E2, hy456⟩ : ∃ y_ : List (S49), y_ = (([(⟨a1, a2, 1, false⟩ : S49)] : List (S49))) := ⟨_, rfl⟩
           replace H : (if E7.length + E2.length < 4398046511104 then ((some (E7 ++ E2 : List (S49))).bind fun E3 => ((some (l0_0.drop (D5 : Int).toNat : List (S49))).bind fun Dm => (if E3.length + Dm.length < 4398046511104 then (impl_PutEntry.j1 k1 l0_0 (E3 ++ Dm)) else (none)))) else (none)) = some (r1, r2) := by first | (rw [hy456]; with_reducible exact H) | (have H2_ := (Option.bind_some _ _).symm.trans H; rw [hy456]; with_reducible exact H2_) | (have H2_ := (Option.bind_some _ _).symm.trans H; with_reducible exact H2_) | with_reducible exact H | (rw [hy456]; exact H) | exact H
           have Ev := Aside0.mk hy456; clear hy456
           by_cases c63 : E7.length + E2.length < 4398046511104
           ·rw [if_pos c63] at H; have LMc63 := Aside0.mk c63; clear c63
            obtain ⟨E3, hy459⟩ : ∃ y_ : List (S49), y_ = (E7 ++ E2) := ⟨_, rfl⟩
            replace H : ((some (l0_0.drop (D5 : Int).toNat : List (S49))).bind fun Dm => (if E3.length + Dm.length < 4398046511104 then (impl_PutEntry.j1 k1 l0_0 (E3 ++ Dm)) else (none))) = some (r1, r2) := by first | (rw [hy459]; with_reducible exact H) | (have H2_ := (Option.bind_some _ _).symm.trans H; rw [hy459]; with_reducible exact H2_) | (have H2_ := (Option.bind_some _ _).symm.trans H; with_reducible exact H2_) | with_reducible exact H | (rw [hy459]; exact H) | exact H
            have Jv := Aside0.mk hy459; clear hy459
            have c64b0 := eq_true (of_decide_eq_true Cmp.d : 0 ≤ D5)
            have c65b0 := eq_true (of_decide_eq_true Cmp.d : D5 ≤ (l0_0.length : Int))
            obtain ⟨Dm, hy462⟩ : ∃ y_ : List (S49), y_ = (l0_0.drop (D5 : Int).toNat) := ⟨_, rfl⟩
            replace H : (if E3.length + Dm.length < 4398046511104 then (impl_PutEntry.j1 k1 l0_0 (E3 ++ Dm)) else (none)) = some (r1, r2) := by first | (rw [hy462]; with_reducible exact H) | (have H2_ := (Option.bind_some _ _).symm.trans H; rw [hy462]; with_reducible exact H2_) | (have H2_ := (Option.bind_some _ _).symm.trans H; with_reducible exact H2_) | with_reducible exact H | (rw [hy462]; exact H) | exact H
            have Gt := Aside0.mk hy462; clear hy462
            by_cases c66 : E3.length + Dm.length < 4398046511104
            ·rw [if_pos c66] at H; have LMc66 := Aside0.mk c66; clear c66
             obtain ⟨Ge, hy466⟩ : ∃ y_ : List (S49), y_ = (E3 ++ Dm) := ⟨_, rfl⟩
             replace H : (impl_PutEntry.j1 k1 l0_0 Ge) = some (r1, r2) := by first | (rw [hy466]; with_reducible exact H) | (have H2_ := (Option.bind_some _ _).symm.trans H; rw [hy466]; with_reducible exact H2_) | (have H2_ := (Option.bind_some _ _).symm.trans H; with_reducible exact H2_) | with_reducible exact H | (rw [hy466]; exact H) | exact H
             have Jw := Aside0.mk hy466; clear hy466
             have H' := Aside0.mk H
             clear H
             try go_wp2
             replace D0 := Aside0.mk (Kd.R_drew D0.out); replace D2 := Aside0.mk (blk_drew D2.out); replace D3 := Aside0.mk (blk_drew D3.out); replace D4 := Aside0.mk (blk_drew D4.out); replace D1 := Aside0.mk (blk_drew D1.out); replace HB := Aside0.mk (below_drew1 HB.out)
             have p444 : 0 ≤ (D5 : Int) := of_decide_eq_true Cmp.d
             have q444 : D5 < (l0_0.length : Int) := of_decide_eq_true Cmp.d
             obtain ⟨Dd, e444, Dx, Dy, Dz, E0⟩ := at_T49 E1.out D5 p444 q444
             have Ei := E0; have Eh := Dz; have Eg := Dy; have Ef := Dx; cases e444
             replace Dx := Cmp.hc HB Dx
             replace Dy := Cmp.hc HB Dy
             replace Dz := Cmp.hc HB Dz
             replace E0 := Cmp.hc HB E0
             replace p444 := eq_true p444; replace q444 := eq_true q444
             refine start_ (n := 14) (S := fun w' => w'.cell? ⟨Ds, 0, none⟩ = some (.slice (some Dd) l0_0.length c0_0) ∧ w'.cell? ⟨D6, 0, none⟩ = some (.int .i64 a1) ∧ w'.cell? ⟨D6, 1, none⟩ = some (.int .i64 a2) ∧ w'.cell? ⟨D6, 2, none⟩ = some (.int .i64 1) ∧ w'.cell? ⟨D6, 3, none⟩ = some (.bool false) ∧ w'.cell? (Dd.add ((D5).toNat * 4)) = some (.int .i64 ((rd_T49 l0_0 D5).f0)) ∧ w'.cell? ⟨(Dd.add ((D5).toNat * 4)).block, (Dd.add ((D5).toNat * 4)).off + 1, none⟩ = some (.int .i64 ((rd_T49 l0_0 D5).f1)) ∧ w'.cell? ⟨(Dd.add ((D5).toNat * 4)).block, (Dd.add ((D5).toNat * 4)).off + 2, none⟩ = some (.int .i64 ((rd_T49 l0_0 D5).f2)) ∧ w'.cell? ⟨(Dd.add ((D5).toNat * 4)).block, (Dd.add ((D5).toNat * 4)).off + 3, none⟩ = some (.bool ((rd_T49 l0_0 D5).f3))) (ds := []) (Cmp.bm 0 14) (by kernel_rfl) rfl rfl ⟨(Cmp.c0 D2 :), (Cmp.c0 D1 :), (Cmp.c1 D1 :), (Cmp.c2 D1 :), (Cmp.c3 D1 :), (Cmp.hc HB Ef :), (Cmp.hc HB Eg :), (Cmp.hc HB Eh :), (Cmp.hc HB Ei :)⟩ (fun hHeld => ?_); refine with_tabW impl_PutEntry.tab12 impl_PutEntry.bits12 (fun HT_ HW_ => ?_)
             generalize wr.drew = w67 at D0 D2 D3 D4 D1 HB Dx Dy Dz E0 hHeld ⊢
             refine Cmp.pu HT_ 0 51 (Cmp.bm 1 13) ?_; refine Cmp.pu HT_ 1 52 (Cmp.bm 2 12) ?_; refine Cmp.tk HT_ HW_ hHeld 2 53 (Cmp.bm 3 11) ?_; refine Cmp.pu HT_ 3 54 (Cmp.bm 4 10) ?_; refine Cmp.pu HT_ 4 55 (Cmp.bm 5 9) ?_; refine Cmp.pu HT_ 5 56 (Cmp.bm 6 8) ?_; refine Cmp.pu HT_ 6 57 (Cmp.bm 7 7) ?_; refine Cmp.pu HT_ 8 59 (Cmp.bb 14 383) ?_; refine Cmp.tk HT_ HW_ hHeld 7 58 (Cmp.bm 9 5) ?_; refine Cmp.pu HT_ 9 60 (Cmp.bm 10 4) ?_; refine Cmp.tk HT_ HW_ hHeld 10 61 (Cmp.bm 11 3) ?_; refine Cmp.tk HT_ HW_ hHeld 11 62 (Cmp.bm 12 2) ?_
             refine one_ (i := 12) (N := some 63) (Cmp.bm 13 1) rfl rfl (one_of HT_.out (by kernel_rfl)) (by decide) (fun K hK => ?_)
             refine goes_ Try.func63 (by kernel_rfl) rfl #[.agg #[.int .i64 ((rd_T49 l0_0 D5).f0), .int .i64 ((rd_T49 l0_0 D5).f1), .int .i64 ((rd_T49 l0_0 D5).f2), .bool ((rd_T49 l0_0 D5).f3)], .agg #[.int .i64 a1, .int .i64 a2, .int .i64 1, .bool false]] (by rfl) rfl rfl Cmp.q ?_
             with_reducible refine (impl_entryBefore.calls ((rd_T49 l0_0 D5).f0) ((rd_T49 l0_0 D5).f1) ((rd_T49 l0_0 D5).f2) ((rd_T49 l0_0 D5).f3) a1 a2 1 false false _ Lj.out).mono ?_
             rintro e w68 ⟨rfl, hb⟩; refine ⟨_, rfl, ?_⟩
             have n0_ := Aside0.mk (Kd.R_below (Cmp.rr D0.out) hb)
             have n1_ := Cmp.be D2 hb
             have n2_ := Cmp.be D3 hb
             have n3_ := Cmp.be D4 hb
             have n4_ := Cmp.be D1 hb
             have n5_ := Aside0.mk (below_step (Cmp.g HB.out) hb)
             clear D0; clear D2; clear D3; clear D4; clear D1; clear HB; have D0 := n0_; have D2 := n1_; have D3 := n2_; have D4 := n3_; have D1 := n4_; have HB := n5_; clear n0_ n1_ n2_ n3_ n4_ n5_; (try clear hb); (try clear hb2); (try clear hk); (try clear hi)
             refine hK.out _ _ ⟨(Cmp.c0 D2 :), (Cmp.c0 D1 :), (Cmp.c1 D1 :), (Cmp.c2 D1 :), (Cmp.c3 D1 :), (Cmp.hc HB Ef :), (Cmp.hc HB Eg :), (Cmp.hc HB Eh :), (Cmp.hc HB Ei :)⟩ (fun hHeld => ?_)
             clear hK K
             refine norm_ (a' := ?_) ?_ ?_
             rotate_left
             ·show Act.put _ (some 63) _ = _
              simp only [Act.put, Cmp.s, Cmp.z, Cmp.c, i64_w, i32_w]; rfl
             refine Cmp.pu HT_ 13 64 (Cmp.bm 14 0) ?_
             refine done_ (done_of HT_.out (by kernel_rfl)) ?_
             try go_wp2
             replace D0 := Aside0.mk (Kd.R_drew D0.out); replace D2 := Aside0.mk (blk_drew D2.out); replace D3 := Aside0.mk (blk_drew D3.out); replace D4 := Aside0.mk (blk_drew D4.out); replace D1 := Aside0.mk (blk_drew D1.out); replace HB := Aside0.mk (below_drew1 HB.out)
             have q70 : (D5 : Int) ≤ ((l0_0.length : Int) : Int) := of_decide_eq_true Cmp.d
             obtain ⟨i070, J2, _, hsz70, _⟩ := info_parts info49
             have F8 : l0_0.length ≤ c0_0 := HC0_0.out
             have Kb : Kd.C k49 _ (some Dd) l0_0.length l0_0 := E1.out
             have J6 := cut_to (P := Try.prog) 39 49 .i64 Try.underlying39 J2 (some Dd) l0_0.length c0_0 D5 (of_decide_eq_true Cmp.d) q70 F8
             have hr70 := Kd.C_take (m := (D5 : Int).toNat) Kb (by omega)
             have hy70 : Ed.length = (D5 : Int).toNat := (by rw [Gs.out, List.length_take]; omega)
             rw [← Gs.out] at hr70
             rw [← hy70] at J6
             have HR452 := Aside0.mk hr70
             have Lq := Aside0.mk (show Ed.length ≤ c0_0 from by omega)
             clear hr70 Kb F8 J2 hsz70; have KY70 := Aside0.mk hy70; clear hy70; replace q70 := eq_true q70
             have q71 : (D5 : Int) ≤ ((l0_0.length : Int) : Int) := of_decide_eq_true Cmp.d
             obtain ⟨i071, J3, _, hsz71, _⟩ := info_parts info49
             have Ex : l0_0.length ≤ c0_0 := HC0_0.out
             have Kc : Kd.C k49 _ (some Dd) l0_0.length l0_0 := E1.out
             have q071 : (0 : Int) ≤ (D5 : Int) := of_decide_eq_true Cmp.d
             have J7 := cut_from (P := Try.prog) 39 49 .i64 Try.underlying39 J3 4 hsz71 (some Dd) l0_0.length c0_0 D5 q071 q71
             have hr71 := Kd.C_drop (m := (D5 : Int).toNat) (c := c0_0) Kc (by omega) Ex
             obtain ⟨Mj, hA71⟩ : ∃ A1, A1 = (if c0_0 = (D5 : Int).toNat then (some Dd) else ((some Dd) : Option Addr).map (·.add ((D5 : Int).toNat * 4))) := ⟨_, rfl⟩
             obtain ⟨c71, hc71⟩ : ∃ c1, c1 = c0_0 - (D5 : Int).toNat := ⟨_, rfl⟩
             have hy71 : Dm.length = l0_0.length - (D5 : Int).toNat := (by rw [Gt.out, List.length_drop] <;> omega)
             rw [show (l0_0).drop (D5 : Int).toNat = Dm from Gt.out.symm] at hr71
             replace hr71 : Kd.C k49 _ Mj Dm.length Dm := (by rw [hA71]; exact hr71)
             rw [← hy71, ← hA71, ← hc71] at J7
             have HR465 := Aside0.mk hr71
             have Lr := Aside0.mk (show Dm.length ≤ c71 from by rw [hy71, hc71]; exact Nat.sub_le_sub_right Ex _)
             clear hr71 Kc Ex J3 hsz71 hc71; have KY71 := Aside0.mk hy71; have KA71 := Aside0.mk hA71; clear hy71 hA71; replace q71 := eq_true q71
             refine start_ (n := 16) (S := fun w' => w'.cell? ⟨Ds, 0, none⟩ = some (.slice (some Dd) l0_0.length c0_0) ∧ w'.cell? ⟨D6, 0, none⟩ = some (.int .i64 a1) ∧ w'.cell? ⟨D6, 1, none⟩ = some (.int .i64 a2) ∧ w'.cell? ⟨D6, 2, none⟩ = some (.int .i64 1) ∧ w'.cell? ⟨D6, 3, none⟩ = some (.bool false)) (ds := []) (Cmp.bm 0 16) (by kernel_rfl) rfl rfl ⟨(Cmp.c0 D2 :), (Cmp.c0 D1 :), (Cmp.c1 D1 :), (Cmp.c2 D1 :), (Cmp.c3 D1 :)⟩ (fun hHeld => ?_); refine with_tabW impl_PutEntry.tab14 impl_PutEntry.bits14 (fun HT_ HW_ => ?_)
             generalize w68.drew = w69 at D0 D2 D3 D4 D1 HB HR452 HR465 hHeld ⊢
             refine Cmp.pu HT_ 1 68 (Cmp.bb 16 2) ?_; refine Cmp.pu HT_ 3 70 (Cmp.bb 16 10) ?_; refine Cmp.pu HT_ 9 76 (Cmp.bb 16 522) ?_; refine Cmp.pu HT_ 11 78 (Cmp.bb 16 2570) ?_; refine Cmp.tk HT_ HW_ hHeld 2 69 (Cmp.bb 16 2574) ?_; refine Cmp.pu HT_ 4 71 (Cmp.bb 16 2590) ?_; refine Cmp.tk HT_ HW_ hHeld 6 73 (Cmp.bb 16 2654) ?_; refine Cmp.tk HT_ HW_ hHeld 10 77 (Cmp.bb 16 3678) ?_; refine Cmp.pu HT_ 12 79 (Cmp.bb 16 7774) ?_
             refine join_ (σ := Value × Value × Value) 4 (Cmp.bb 16 7935) (fun s_ => [(67, s_.1), (72, s_.2.1), (74, s_.2.2)]) (fun s_ w' => (w'.cell? ⟨Ds, 0, none⟩ = some (.slice (some Dd) l0_0.length c0_0) ∧ w'.cell? ⟨D6, 0, none⟩ = some (.int .i64 a1) ∧ w'.cell? ⟨D6, 1, none⟩ = some (.int .i64 a2) ∧ w'.cell? ⟨D6, 2, none⟩ = some (.int .i64 1) ∧ w'.cell? ⟨D6, 3, none⟩ = some (.bool false)) ∧ (Kd.R k49 49 w' w.heap.size (fun k_ => some k_ ≠ (s_.2.2 : Value).ownBlock ∧ some k_ ≠ (.slice Df D8.length Da : Value).ownBlock ∧ k_ ≠ D6) s_.2.1 E7) ∧ (Kd.R k49 49 w' w.heap.size (fun k_ => some k_ ≠ (s_.2.1 : Value).ownBlock ∧ some k_ ≠ (.slice Df D8.length Da : Value).ownBlock ∧ k_ ≠ D6) s_.2.2 E2) ∧ (Kd.R k49 49 w' w.heap.size (fun k_ => some k_ ≠ (s_.2.1 : Value).ownBlock ∧ some k_ ≠ (s_.2.2 : Value).ownBlock ∧ k_ ≠ D6) (.slice Df D8.length Da) D8) ∧ (w'.heap[Ds]? = some (.cells #[.slice (some Dd) l0_0.length c0_0] 41 (0, 0))) ∧ (w'.heap[Dw]? = some (.cells #[.slice none 0 0] 41 (0, 0))) ∧ (w'.heap[Dh]? = some (.cells #[.slice Df D8.length Da] 41 (0, 0))) ∧ (w'.heap[D6]? = some (.cells #[.int .i64 a1, .int .i64 a2, .int .i64 1, .bool false] 49 (0, 0))) ∧ (Below w.heap.size w w')) ?_ ?_
             rotate_left
             ·intro hCont
              refine two_ (i := 0) (j := 7) (Ni := some 67) (Nj := some 74) (Cmp.bb 16 7775) (Cmp.bb 16 7902) rfl rfl rfl rfl (two_of HT_.out (by kernel_rfl)) (by decide) (by decide) (fun K hK => ?_) (fun K hK => ?_)
              ·skip
               refine Kd.R_lit_step k49 _ 49 ?hg (N := 67) ?hd (xs := ([] : List (S49))) (inner := []) (ok := fun _ => True) (okp := fun _ => True) ?hr ?hp (fun _ hk => hk) trivial (Below.refl _ _) (Nat.le_refl _) (by simp) ?_; (case hd => rfl); (case hg => rfl); (case hr => first | (go_simp; done) | (go_simp; rfl)); (case hp => exact (Reps.none _ _))
               intro v447 w72 Em hb hg_ hnew_
               clear hg_ hnew_
               (first | rw [← F5.out] at Em | (simp only [Int.reduceToNat] at Em; rw [← F5.out] at Em))
               have n0_ := Aside0.mk (Kd.R_elder' (Cmp.rr D0.out) (Kd.R_base Em) hb)
               have n1_ := Aside0.mk (Kd.R_lower (Kd.R_newB (Kd.R_new' Em (Kd.R_lt (Cmp.rr D0.out))) (g := D6) (o := .cells #[.int .i64 a1, .int .i64 a2, .int .i64 1, .bool false] 49 (0, 0)) (Cmp.b D1.out)) (below_size (Cmp.g HB.out)))
               have n2_ := Cmp.be D2 hb
               have n3_ := Cmp.be D3 hb
               have n4_ := Cmp.be D4 hb
               have n5_ := Cmp.be D1 hb
               have n6_ := Aside0.mk (below_step (Cmp.g HB.out) hb)
               clear D0; clear D2; clear D3; clear D4; clear D1; clear HB; have D0 := n0_; have Di := n1_; have D2 := n2_; have D3 := n3_; have D4 := n4_; have D1 := n5_; have HB := n6_; clear n0_ n1_ n2_ n3_ n4_ n5_ n6_; clear hb Em
               refine hK.out _ _ ⟨(Cmp.c0 D2 :), (Cmp.c0 D1 :), (Cmp.c1 D1 :), (Cmp.c2 D1 :), (Cmp.c3 D1 :)⟩ (fun hHeld => ?_)
               clear hK K
               refine norm_ (a' := ?_) ?_ ?_
               rotate_left
               ·show Act.put _ (some 67) _ = _
                simp only [Act.put, Cmp.s, Cmp.z, Cmp.c, i64_w, i32_w]; rfl
               refine two_ (i := 5) (j := 7) (Ni := some 72) (Nj := some 74) (Cmp.bb 16 7807) (Cmp.bb 16 7903) rfl rfl rfl rfl (two_of HT_.out (by kernel_rfl)) (by decide) (by decide) (fun K hK => ?_) (fun K hK => ?_)
               ·skip
                refine Kd.R_append_rows_step k49 (w0 := w) w.heap.size (by rfl) (.tmp 67) (.tmp 71) 39 49 (.agg #[(.int .i64 0), (.int .i64 0), (.int .i64 0), (.bool false)]) 32 rfl Try.underlying39 info49 rfl (by decide) (by omega) v447 Eo Ed _ _ _ (fun k_ => some k_ ≠ (.slice Df D8.length Da : Value).ownBlock ∧ k_ ≠ D6) (fun _ => False) rfl rfl ?aO ?aR (fun _ _ h => h) (fun _ h => h.elim) ?aF ?aB ?aS ?aL ?_
                (case aR => repeat (first | exact (Kd.C_below HR452.out HB.out) | (with_reducible refine Kd.C_alloc ?_ _) | (with_reducible refine Kd.C_drewN ?_ _) | (with_reducible refine Kd.C_drew ?_)))
                (case aB => exact (Cmp.g HB.out))
                (case aF => exact (fun k_ hk => ⟨Kd.fresh' (Kd.R_lt (Cmp.rr D0.out)) k_ hk, Kd.freshB (g := D6) (o := .cells #[.int .i64 a1, .int .i64 a2, .int .i64 1, .bool false] 49 (0, 0)) (Cmp.b D1.out) k_ hk⟩))
                (case aO => exact (by (with_reducible repeat (first | apply Kd.R_alloc | apply Kd.R_drewN | apply Kd.R_drew)); exact Kd.R_mono Di.out (fun _ hk => ⟨hk.1.2, hk.2⟩)))
                (case aS => exact (below_size (Cmp.g HB.out)))
                (case aL => have := LMc62.out; omega)
                intro v454 w74 ho hb hg hat
                rw [← Fg.out] at ho
                have n0_ := Aside0.mk (Kd.R_after (ok := (fun k_ => k_ ≠ D6)) (Cmp.rr D0.out) hg hat)
                have n1_ := Cmp.bg D2 hg (Kd.R_ne Di.out D2.out (by decide))
                have n2_ := Cmp.bg D3 hg (Kd.R_ne Di.out D3.out (by decide))
                have n3_ := Cmp.bg D4 hg (Kd.R_ne Di.out D4.out (by decide))
                have n4_ := Cmp.bg D1 hg (Kd.R_away Di.out (fun _ hk => hk.2))
                have n5_ := Aside0.mk (hb)
                have n6_ := Aside0.mk (ho)
                clear D0; clear D2; clear D3; clear D4; clear D1; clear HB; clear Di; have D0 := n0_; have D2 := n1_; have D3 := n2_; have D4 := n3_; have D1 := n4_; have HB := n5_; have Du := n6_; clear n0_ n1_ n2_ n3_ n4_ n5_ n6_; clear ho hb hg hat
                refine hK.out _ _ ⟨(Cmp.c0 D2 :), (Cmp.c0 D1 :), (Cmp.c1 D1 :), (Cmp.c2 D1 :), (Cmp.c3 D1 :)⟩ (fun hHeld => ?_)
                clear hK K
                refine norm_ (a' := ?_) ?_ ?_
                rotate_left
                ·show Act.put _ (some 72) _ = _
                 simp only [Act.put, Cmp.s, Cmp.z, Cmp.c, i64_w, i32_w]; rfl
                refine one_ (i := 7) (N := some 74) (Cmp.bb 16 7935) rfl rfl (one_of HT_.out (by kernel_rfl)) (by decide) (fun K hK => ?_)
                refine Kd.R_lit_step k49 _ 49 ?hg (N := 74) ?hd (xs := ([(⟨a1, a2, 1, false⟩ : S49)] : List (S49))) (inner := [.int .i64 a1, .int .i64 a2, .int .i64 1, .bool false]) (ok := fun _ => True) (okp := fun _ => True) ?hr ?hp (fun _ hk => hk) trivial (Below.refl _ _) (Nat.le_refl _) (by simp) ?_; (case hd => rfl); (case hg => rfl); (case hr => first | (go_simp; done) | (go_simp; rfl)); (case hp => exact (Reps.c4 (show Kd.M k49 _ _ _ (⟨a1, a2, 1, false⟩ : S49) [.int .i64 a1, .int .i64 a2, .int .i64 1, .bool false] from (k49_mkM _ _ _ (⟨a1, a2, 1, false⟩ : S49) )) (Reps.none _ _)))
                intro v457 w75 F1 hb hg_ hnew_
                clear hg_ hnew_
                (first | rw [← Ev.out] at F1 | (simp only [Int.reduceToNat] at F1; rw [← Ev.out] at F1))
                have n0_ := Aside0.mk (Kd.R_elder' (Cmp.rr D0.out) (Kd.R_base F1) hb)
                have n1_ := Aside0.mk (Kd.R_elder' (Cmp.rr Du.out) (Kd.R_base F1) hb)
                have n2_ := Aside0.mk (Kd.R_lower (Kd.R_newB (Kd.R_new' (Kd.R_new' F1 (Kd.R_lt (Cmp.rr D0.out))) (Kd.R_lt (Cmp.rr Du.out))) (g := D6) (o := .cells #[.int .i64 a1, .int .i64 a2, .int .i64 1, .bool false] 49 (0, 0)) (Cmp.b D1.out)) (below_size (Cmp.g HB.out)))
                have n3_ := Cmp.be D2 hb
                have n4_ := Cmp.be D3 hb
                have n5_ := Cmp.be D4 hb
                have n6_ := Cmp.be D1 hb
                have n7_ := Aside0.mk (below_step (Cmp.g HB.out) hb)
                clear D0; clear Du; clear D2; clear D3; clear D4; clear D1; clear HB; have D0 := n0_; have Du := n1_; have Db := n2_; have D2 := n3_; have D3 := n4_; have D4 := n5_; have D1 := n6_; have HB := n7_; clear n0_ n1_ n2_ n3_ n4_ n5_ n6_ n7_; clear hb F1
                refine hK.out _ _ ⟨(Cmp.c0 D2 :), (Cmp.c0 D1 :), (Cmp.c1 D1 :), (Cmp.c2 D1 :), (Cmp.c3 D1 :)⟩ (fun hHeld => ?_)
                clear hK K
                refine norm_ (a' := ?_) ?_ ?_
                rotate_left
                ·show Act.put _ (some 74) _ = _
                 simp only [Act.put, Cmp.s, Cmp.z, Cmp.c, i64_w, i32_w]; rfl
                exact norm_ (by simp only [putAll, Act.put, List.setIfInBounds_toArray, List.set_cons_zero, List.set_cons_succ]) (hCont (v447, v454, v457) _ ⟨hHeld, (by (with_reducible repeat (first | apply Kd.R_alloc | apply Kd.R_drewN | apply Kd.R_drew)); exact Kd.R_mono Du.out (fun _ hk => ⟨hk.2, ⟨hk.1.1, hk.1.2⟩⟩)), (by (with_reducible repeat (first | apply Kd.R_alloc | apply Kd.R_drewN | apply Kd.R_drew)); exact Kd.R_mono Db.out (fun _ hk => ⟨hk.1.2, ⟨hk.1.1.2, hk.2⟩⟩)), (by (with_reducible repeat (first | apply Kd.R_alloc | apply Kd.R_drewN | apply Kd.R_drew)); exact Kd.R_mono D0.out (fun _ hk => ⟨hk.1.2, ⟨hk.2, hk.1.1⟩⟩)), (Cmp.b D2.out), (Cmp.b D3.out), (Cmp.b D4.out), (Cmp.b D1.out), (Cmp.g HB.out)⟩)
               ·skip
                refine Kd.R_lit_step k49 _ 49 ?hg (N := 74) ?hd (xs := ([(⟨a1, a2, 1, false⟩ : S49)] : List (S49))) (inner := [.int .i64 a1, .int .i64 a2, .int .i64 1, .bool false]) (ok := fun _ => True) (okp := fun _ => True) ?hr ?hp (fun _ hk => hk) trivial (Below.refl _ _) (Nat.le_refl _) (by simp) ?_; (case hd => rfl); (case hg => rfl); (case hr => first | (go_simp; done) | (go_simp; rfl)); (case hp => exact (Reps.c4 (show Kd.M k49 _ _ _ (⟨a1, a2, 1, false⟩ : S49) [.int .i64 a1, .int .i64 a2, .int .i64 1, .bool false] from (k49_mkM _ _ _ (⟨a1, a2, 1, false⟩ : S49) )) (Reps.none _ _)))
                intro v457 w74 Eb hb hg_ hnew_
                clear hg_ hnew_
                (first | rw [← Ev.out] at Eb | (simp only [Int.reduceToNat] at Eb; rw [← Ev.out] at Eb))
                have n0_ := Aside0.mk (Kd.R_elder' (Cmp.rr D0.out) (Kd.R_base Eb) hb)
                have n1_ := Aside0.mk (Kd.R_elder' (Cmp.rr Di.out) (Kd.R_base Eb) hb)
                have n2_ := Aside0.mk (Kd.R_lower (Kd.R_newB (Kd.R_new' (Kd.R_new' Eb (Kd.R_lt (Cmp.rr D0.out))) (Kd.R_lt (Cmp.rr Di.out))) (g := D6) (o := .cells #[.int .i64 a1, .int .i64 a2, .int .i64 1, .bool false] 49 (0, 0)) (Cmp.b D1.out)) (below_size (Cmp.g HB.out)))
                have n3_ := Cmp.be D2 hb
                have n4_ := Cmp.be D3 hb
                have n5_ := Cmp.be D4 hb
                have n6_ := Cmp.be D1 hb
                have n7_ := Aside0.mk (below_step (Cmp.g HB.out) hb)
                clear D0; clear Di; clear D2; clear D3; clear D4; clear D1; clear HB; have D0 := n0_; have Di := n1_; have Db := n2_; have D2 := n3_; have D3 := n4_; have D4 := n5_; have D1 := n6_; have HB := n7_; clear n0_ n1_ n2_ n3_ n4_ n5_ n6_ n7_; clear hb Eb
                refine hK.out _ _ ⟨(Cmp.c0 D2 :), (Cmp.c0 D1 :), (Cmp.c1 D1 :), (Cmp.c2 D1 :), (Cmp.c3 D1 :)⟩ (fun hHeld => ?_)
                clear hK K
                refine norm_ (a' := ?_) ?_ ?_
                rotate_left
                ·show Act.put _ (some 74) _ = _
                 simp only [Act.put, Cmp.s, Cmp.z, Cmp.c, i64_w, i32_w]; rfl
                refine one_ (i := 5) (N := some 72) (Cmp.bb 16 7935) rfl rfl (one_of HT_.out (by kernel_rfl)) (by decide) (fun K hK => ?_)
                refine Kd.R_append_rows_step k49 (w0 := w) w.heap.size (by rfl) (.tmp 67) (.tmp 71) 39 49 (.agg #[(.int .i64 0), (.int .i64 0), (.int .i64 0), (.bool false)]) 32 rfl Try.underlying39 info49 rfl (by decide) (by omega) v447 Eo Ed _ _ _ (fun k_ => some k_ ≠ (.slice Df D8.length Da : Value).ownBlock ∧ some k_ ≠ (v457 : Value).ownBlock ∧ k_ ≠ D6) (fun _ => False) rfl rfl ?aO ?aR (fun _ _ h => h) (fun _ h => h.elim) ?aF ?aB ?aS ?aL ?_
                (case aR => repeat (first | exact (Kd.C_below HR452.out HB.out) | (with_reducible refine Kd.C_alloc ?_ _) | (with_reducible refine Kd.C_drewN ?_ _) | (with_reducible refine Kd.C_drew ?_)))
                (case aB => exact (Cmp.g HB.out))
                (case aF => exact (fun k_ hk => ⟨Kd.fresh' (Kd.R_lt (Cmp.rr D0.out)) k_ hk, Kd.fresh' (Kd.R_lt (Cmp.rr Db.out)) k_ hk, Kd.freshB (g := D6) (o := .cells #[.int .i64 a1, .int .i64 a2, .int .i64 1, .bool false] 49 (0, 0)) (Cmp.b D1.out) k_ hk⟩))
                (case aO => exact (by (with_reducible repeat (first | apply Kd.R_alloc | apply Kd.R_drewN | apply Kd.R_drew)); exact Kd.R_mono Di.out (fun _ hk => ⟨hk.1.1.2, ⟨hk.2, hk.1.2⟩⟩)))
                (case aS => exact (below_size (Cmp.g HB.out)))
                (case aL => have := LMc62.out; omega)
                intro v454 w76 ho hb hg hat
                rw [← Fg.out] at ho
                have n0_ := Aside0.mk (Kd.R_after (ok := (fun k_ => some k_ ≠ (v457 : Value).ownBlock ∧ k_ ≠ D6)) (by (with_reducible repeat (first | apply Kd.R_alloc | apply Kd.R_drewN | apply Kd.R_drew)); exact Kd.R_mono D0.out (fun _ hk => ⟨⟨hk.2, hk.1.1⟩, hk.1.2⟩)) hg hat)
                have n1_ := Cmp.bg D2 hg (Kd.R_ne Di.out D2.out (by decide))
                have n2_ := Cmp.bg D3 hg (Kd.R_ne Di.out D3.out (by decide))
                have n3_ := Cmp.bg D4 hg (Kd.R_ne Di.out D4.out (by decide))
                have n4_ := Cmp.bg D1 hg (Kd.R_away Di.out (fun _ hk => hk.1.2))
                have n5_ := Aside0.mk (Kd.R_after (ok := (fun k_ => some k_ ≠ (.slice Df D8.length Da : Value).ownBlock ∧ k_ ≠ D6)) (by (with_reducible repeat (first | apply Kd.R_alloc | apply Kd.R_drewN | apply Kd.R_drew)); exact Kd.R_mono Db.out (fun _ hk => ⟨⟨hk.1.1.2, hk.2⟩, hk.1.2⟩)) hg hat)
                have n6_ := Aside0.mk (hb)
                have n7_ := Aside0.mk (ho)
                clear D0; clear D2; clear D3; clear D4; clear D1; clear Db; clear HB; clear Di; have D0 := n0_; have D2 := n1_; have D3 := n2_; have D4 := n3_; have D1 := n4_; have Db := n5_; have HB := n6_; have Du := n7_; clear n0_ n1_ n2_ n3_ n4_ n5_ n6_ n7_; clear ho hb hg hat
                refine hK.out _ _ ⟨(Cmp.c0 D2 :), (Cmp.c0 D1 :), (Cmp.c1 D1 :), (Cmp.c2 D1 :), (Cmp.c3 D1 :)⟩ (fun hHeld => ?_)
                clear hK K
                refine norm_ (a' := ?_) ?_ ?_
                rotate_left
                ·show Act.put _ (some 72) _ = _
                 simp only [Act.put, Cmp.s, Cmp.z, Cmp.c, i64_w, i32_w]; rfl
                exact norm_ (by simp only [putAll, Act.put, List.setIfInBounds_toArray, List.set_cons_zero, List.set_cons_succ]) (hCont (v447, v454, v457) _ ⟨hHeld, (by (with_reducible repeat (first | apply Kd.R_alloc | apply Kd.R_drewN | apply Kd.R_drew)); exact Kd.R_mono Du.out (fun _ hk => ⟨hk.2.1, ⟨hk.1, hk.2.2⟩⟩)), (by (with_reducible repeat (first | apply Kd.R_alloc | apply Kd.R_drewN | apply Kd.R_drew)); exact Kd.R_mono Db.out (fun _ hk => ⟨hk.2, ⟨hk.1.1, hk.1.2⟩⟩)), (by (with_reducible repeat (first | apply Kd.R_alloc | apply Kd.R_drewN | apply Kd.R_drew)); exact Kd.R_mono D0.out (fun _ hk => ⟨hk.2, ⟨hk.1.1, hk.1.2⟩⟩)), (Cmp.b D2.out), (Cmp.b D3.out), (Cmp.b D4.out), (Cmp.b D1.out), (Cmp.g HB.out)⟩)
              ·skip
               refine Kd.R_lit_step k49 _ 49 ?hg (N := 74) ?hd (xs := ([(⟨a1, a2, 1, false⟩ : S49)] : List (S49))) (inner := [.int .i64 a1, .int .i64 a2, .int .i64 1, .bool false]) (ok := fun _ => True) (okp := fun _ => True) ?hr ?hp (fun _ hk => hk) trivial (Below.refl _ _) (Nat.le_refl _) (by simp) ?_; (case hd => rfl); (case hg => rfl); (case hr => first | (go_simp; done) | (go_simp; rfl)); (case hp => exact (Reps.c4 (show Kd.M k49 _ _ _ (⟨a1, a2, 1, false⟩ : S49) [.int .i64 a1, .int .i64 a2, .int .i64 1, .bool false] from (k49_mkM _ _ _ (⟨a1, a2, 1, false⟩ : S49) )) (Reps.none _ _)))
               intro v457 w72 Em hb hg_ hnew_
               clear hg_ hnew_
               (first | rw [← Ev.out] at Em | (simp only [Int.reduceToNat] at Em; rw [← Ev.out] at Em))
               have n0_ := Aside0.mk (Kd.R_elder' (Cmp.rr D0.out) (Kd.R_base Em) hb)
               have n1_ := Aside0.mk (Kd.R_lower (Kd.R_newB (Kd.R_new' Em (Kd.R_lt (Cmp.rr D0.out))) (g := D6) (o := .cells #[.int .i64 a1, .int .i64 a2, .int .i64 1, .bool false] 49 (0, 0)) (Cmp.b D1.out)) (below_size (Cmp.g HB.out)))
               have n2_ := Cmp.be D2 hb
               have n3_ := Cmp.be D3 hb
               have n4_ := Cmp.be D4 hb
               have n5_ := Cmp.be D1 hb
               have n6_ := Aside0.mk (below_step (Cmp.g HB.out) hb)
               clear D0; clear D2; clear D3; clear D4; clear D1; clear HB; have D0 := n0_; have Db := n1_; have D2 := n2_; have D3 := n3_; have D4 := n4_; have D1 := n5_; have HB := n6_; clear n0_ n1_ n2_ n3_ n4_ n5_ n6_; clear hb Em
               refine hK.out _ _ ⟨(Cmp.c0 D2 :), (Cmp.c0 D1 :), (Cmp.c1 D1 :), (Cmp.c2 D1 :), (Cmp.c3 D1 :)⟩ (fun hHeld => ?_)
               clear hK K
               refine norm_ (a' := ?_) ?_ ?_
               rotate_left
               ·show Act.put _ (some 74) _ = _
                simp only [Act.put, Cmp.s, Cmp.z, Cmp.c, i64_w, i32_w]; rfl
               refine one_ (i := 0) (N := some 67) (Cmp.bb 16 7903) rfl rfl (one_of HT_.out (by kernel_rfl)) (by decide) (fun K hK => ?_)
               refine Kd.R_lit_step k49 _ 49 ?hg (N := 67) ?hd (xs := ([] : List (S49))) (inner := []) (ok := fun _ => True) (okp := fun _ => True) ?hr ?hp (fun _ hk => hk) trivial (Below.refl _ _) (Nat.le_refl _) (by simp) ?_; (case hd => rfl); (case hg => rfl); (case hr => first | (go_simp; done) | (go_simp; rfl)); (case hp => exact (Reps.none _ _))
               intro v447 w74 Eb hb hg_ hnew_
               clear hg_ hnew_
               (first | rw [← F5.out] at Eb | (simp only [Int.reduceToNat] at Eb; rw [← F5.out] at Eb))
               have n0_ := Aside0.mk (Kd.R_elder' (Cmp.rr D0.out) (Kd.R_base Eb) hb)
               have n1_ := Aside0.mk (Kd.R_elder' (Cmp.rr Db.out) (Kd.R_base Eb) hb)
               have n2_ := Aside0.mk (Kd.R_lower (Kd.R_newB (Kd.R_new' (Kd.R_new' Eb (Kd.R_lt (Cmp.rr D0.out))) (Kd.R_lt (Cmp.rr Db.out))) (g := D6) (o := .cells #[.int .i64 a1, .int .i64 a2, .int .i64 1, .bool false] 49 (0, 0)) (Cmp.b D1.out)) (below_size (Cmp.g HB.out)))
               have n3_ := Cmp.be D2 hb
               have n4_ := Cmp.be D3 hb
               have n5_ := Cmp.be D4 hb
               have n6_ := Cmp.be D1 hb
               have n7_ := Aside0.mk (below_step (Cmp.g HB.out) hb)
               clear D0; clear Db; clear D2; clear D3; clear D4; clear D1; clear HB; have D0 := n0_; have Db := n1_; have Di := n2_; have D2 := n3_; have D3 := n4_; have D4 := n5_; have D1 := n6_; have HB := n7_; clear n0_ n1_ n2_ n3_ n4_ n5_ n6_ n7_; clear hb Eb
               refine hK.out _ _ ⟨(Cmp.c0 D2 :), (Cmp.c0 D1 :), (Cmp.c1 D1 :), (Cmp.c2 D1 :), (Cmp.c3 D1 :)⟩ (fun hHeld => ?_)
               clear hK K
               refine norm_ (a' := ?_) ?_ ?_
               rotate_left
               ·show Act.put _ (some 67) _ = _
                simp only [Act.put, Cmp.s, Cmp.z, Cmp.c, i64_w, i32_w]; rfl
               refine one_ (i := 5) (N := some 72) (Cmp.bb 16 7935) rfl rfl (one_of HT_.out (by kernel_rfl)) (by decide) (fun K hK => ?_)
               refine Kd.R_append_rows_step k49 (w0 := w) w.heap.size (by rfl) (.tmp 67) (.tmp 71) 39 49 (.agg #[(.int .i64 0), (.int .i64 0), (.int .i64 0), (.bool false)]) 32 rfl Try.underlying39 info49 rfl (by decide) (by omega) v447 Eo Ed _ _ _ (fun k_ => some k_ ≠ (.slice Df D8.length Da : Value).ownBlock ∧ some k_ ≠ (v457 : Value).ownBlock ∧ k_ ≠ D6) (fun _ => False) rfl rfl ?aO ?aR (fun _ _ h => h) (fun _ h => h.elim) ?aF ?aB ?aS ?aL ?_
               (case aR => repeat (first | exact (Kd.C_below HR452.out HB.out) | (with_reducible refine Kd.C_alloc ?_ _) | (with_reducible refine Kd.C_drewN ?_ _) | (with_reducible refine Kd.C_drew ?_)))
               (case aB => exact (Cmp.g HB.out))
               (case aF => exact (fun k_ hk => ⟨Kd.fresh' (Kd.R_lt (Cmp.rr D0.out)) k_ hk, Kd.fresh' (Kd.R_lt (Cmp.rr Db.out)) k_ hk, Kd.freshB (g := D6) (o := .cells #[.int .i64 a1, .int .i64 a2, .int .i64 1, .bool false] 49 (0, 0)) (Cmp.b D1.out) k_ hk⟩))
               (case aO => exact (by (with_reducible repeat (first | apply Kd.R_alloc | apply Kd.R_drewN | apply Kd.R_drew)); exact Kd.R_mono Di.out (fun _ hk => ⟨hk.1.1.2, ⟨hk.1.2, hk.2⟩⟩)))
               (case aS => exact (below_size (Cmp.g HB.out)))
               (case aL => have := LMc62.out; omega)
               intro v454 w76 ho hb hg hat
               rw [← Fg.out] at ho
               have n0_ := Aside0.mk (Kd.R_after (ok := (fun k_ => some k_ ≠ (v457 : Value).ownBlock ∧ k_ ≠ D6)) (by (with_reducible repeat (first | apply Kd.R_alloc | apply Kd.R_drewN | apply Kd.R_drew)); exact Kd.R_mono D0.out (fun _ hk => ⟨⟨hk.1.2, hk.1.1⟩, hk.2⟩)) hg hat)
               have n1_ := Cmp.bg D2 hg (Kd.R_ne Di.out D2.out (by decide))
               have n2_ := Cmp.bg D3 hg (Kd.R_ne Di.out D3.out (by decide))
               have n3_ := Cmp.bg D4 hg (Kd.R_ne Di.out D4.out (by decide))
               have n4_ := Cmp.bg D1 hg (Kd.R_away Di.out (fun _ hk => hk.2))
               have n5_ := Aside0.mk (Kd.R_after (ok := (fun k_ => some k_ ≠ (.slice Df D8.length Da : Value).ownBlock ∧ k_ ≠ D6)) (by (with_reducible repeat (first | apply Kd.R_alloc | apply Kd.R_drewN | apply Kd.R_drew)); exact Kd.R_mono Db.out (fun _ hk => ⟨⟨hk.1.1.2, hk.1.2⟩, hk.2⟩)) hg hat)
               have n6_ := Aside0.mk (hb)
               have n7_ := Aside0.mk (ho)
               clear D0; clear D2; clear D3; clear D4; clear D1; clear Db; clear HB; clear Di; have D0 := n0_; have D2 := n1_; have D3 := n2_; have D4 := n3_; have D1 := n4_; have Db := n5_; have HB := n6_; have Du := n7_; clear n0_ n1_ n2_ n3_ n4_ n5_ n6_ n7_; clear ho hb hg hat
               refine hK.out _ _ ⟨(Cmp.c0 D2 :), (Cmp.c0 D1 :), (Cmp.c1 D1 :), (Cmp.c2 D1 :), (Cmp.c3 D1 :)⟩ (fun hHeld => ?_)
               clear hK K
               refine norm_ (a' := ?_) ?_ ?_
               rotate_left
               ·show Act.put _ (some 72) _ = _
                simp only [Act.put, Cmp.s, Cmp.z, Cmp.c, i64_w, i32_w]; rfl
               exact norm_ (by simp only [putAll, Act.put, List.setIfInBounds_toArray, List.set_cons_zero, List.set_cons_succ]) (hCont (v447, v454, v457) _ ⟨hHeld, (by (with_reducible repeat (first | apply Kd.R_alloc | apply Kd.R_drewN | apply Kd.R_drew)); exact Kd.R_mono Du.out (fun _ hk => ⟨hk.2.1, ⟨hk.1, hk.2.2⟩⟩)), (by (with_reducible repeat (first | apply Kd.R_alloc | apply Kd.R_drewN | apply Kd.R_drew)); exact Kd.R_mono Db.out (fun _ hk => ⟨hk.2, ⟨hk.1.1, hk.1.2⟩⟩)), (by (with_reducible repeat (first | apply Kd.R_alloc | apply Kd.R_drewN | apply Kd.R_drew)); exact Kd.R_mono D0.out (fun _ hk => ⟨hk.2, ⟨hk.1.1, hk.1.2⟩⟩)), (Cmp.b D2.out), (Cmp.b D3.out), (Cmp.b D4.out), (Cmp.b D1.out), (Cmp.g HB.out)⟩)
             rintro ⟨v447, v454, v457⟩ w77 ⟨hS_, h0_, h1_, h2_, h3_, h4_, h5_, h6_, h7_⟩
             have n0_ : Aside0 (Kd.R k49 49 w77 w.heap.size (fun k_ => some k_ ≠ (v457 : Value).ownBlock ∧ some k_ ≠ (.slice Df D8.length Da : Value).ownBlock ∧ k_ ≠ D6) v454 E7) := ⟨h0_⟩
             have n1_ : Aside0 (Kd.R k49 49 w77 w.heap.size (fun k_ => some k_ ≠ (v454 : Value).ownBlock ∧ some k_ ≠ (.slice Df D8.length Da : Value).ownBlock ∧ k_ ≠ D6) v457 E2) := ⟨h1_⟩
             have n2_ : Aside0 (Kd.R k49 49 w77 w.heap.size (fun k_ => some k_ ≠ (v454 : Value).ownBlock ∧ some k_ ≠ (v457 : Value).ownBlock ∧ k_ ≠ D6) (.slice Df D8.length Da) D8) := ⟨h2_⟩
             have n3_ : Aside0 (w77.heap[Ds]? = some (.cells #[.slice (some Dd) l0_0.length c0_0] 41 (0, 0))) := ⟨h3_⟩
             have n4_ : Aside0 (w77.heap[Dw]? = some (.cells #[.slice none 0 0] 41 (0, 0))) := ⟨h4_⟩
             have n5_ : Aside0 (w77.heap[Dh]? = some (.cells #[.slice Df D8.length Da] 41 (0, 0))) := ⟨h5_⟩
             have n6_ : Aside0 (w77.heap[D6]? = some (.cells #[.int .i64 a1, .int .i64 a2, .int .i64 1, .bool false] 49 (0, 0))) := ⟨h6_⟩
             have n7_ : Aside0 (Below w.heap.size w w77) := ⟨h7_⟩
             clear D0; clear D2; clear D3; clear D4; clear D1; clear HB; clear h0_ h1_ h2_ h3_ h4_ h5_ h6_ h7_; have Du := n0_; have Db := n1_; have D0 := n2_; have D2 := n3_; have D3 := n4_; have D4 := n5_; have D1 := n6_; have HB := n7_; clear n0_ n1_ n2_ n3_ n4_ n5_ n6_ n7_
             have hHeld : w77.cell? ⟨Ds, 0, none⟩ = some (.slice (some Dd) l0_0.length c0_0) ∧ w77.cell? ⟨D6, 0, none⟩ = some (.int .i64 a1) ∧ w77.cell? ⟨D6, 1, none⟩ = some (.int .i64 a2) ∧ w77.cell? ⟨D6, 2, none⟩ = some (.int .i64 1) ∧ w77.cell? ⟨D6, 3, none⟩ = some (.bool false) := hS_
             obtain ⟨Fm, Fn, K8⟩ := Kd.R_slice Db.out
             (first | subst K8 | (injection K8 with f1_ f2_ f3_; have f4_ := f1_.symm; have f5_ := f3_.symm; clear f1_ f2_ f3_; subst f4_; subst f5_))
             refine norm_ (a' := ?_) ?_ ?_
             rotate_left
             ·simp only [putAll, Act.put, List.setIfInBounds_toArray, List.set_cons_zero, List.set_cons_succ]; rfl
             refine one_ (i := 8) (N := some 75) (Cmp.bm 13 3) rfl rfl (one_of HT_.out (by kernel_rfl)) (by decide) (fun K hK => ?_)
             refine Kd.R_append_rows_step k49 (w0 := w) w.heap.size (by rfl) (.tmp 72) (.tmp 74) 39 49 (.agg #[(.int .i64 0), (.int .i64 0), (.int .i64 0), (.bool false)]) 32 rfl Try.underlying39 info49 rfl (by decide) (by omega) v454 E7 E2 _ _ _ (fun k_ => some k_ ≠ (.slice Df D8.length Da : Value).ownBlock ∧ some k_ ≠ (.slice Fm E2.length Fn : Value).ownBlock ∧ k_ ≠ D6) (fun _ => False) rfl rfl ?aO ?aR (fun _ _ h => h) (fun _ h => h.elim) ?aF ?aB ?aS ?aL ?_
             (case aR => repeat (first | exact (Kd.R_reads' Db.out).2.2 | (with_reducible refine Kd.C_alloc ?_ _) | (with_reducible refine Kd.C_drewN ?_ _) | (with_reducible refine Kd.C_drew ?_)))
             (case aB => exact (Cmp.g HB.out))
             (case aF => exact (fun k_ hk => ⟨Kd.fresh' (Kd.R_lt (Cmp.rr D0.out)) k_ hk, Kd.fresh' (Kd.R_lt (Cmp.rr Db.out)) k_ hk, Kd.freshB (g := D6) (o := .cells #[.int .i64 a1, .int .i64 a2, .int .i64 1, .bool false] 49 (0, 0)) (Cmp.b D1.out) k_ hk⟩))
             (case aO => exact (by (with_reducible repeat (first | apply Kd.R_alloc | apply Kd.R_drewN | apply Kd.R_drew)); exact Kd.R_mono Du.out (fun _ hk => ⟨hk.2.1, ⟨hk.1, hk.2.2⟩⟩)))
             (case aS => exact (below_size (Cmp.g HB.out)))
             (case aL => have := LMc63.out; omega)
             intro v460 w78 ho hb hg hat
             rw [← Jv.out] at ho
             have n0_ := Aside0.mk (Kd.R_after (ok := (fun k_ => some k_ ≠ (.slice Fm E2.length Fn : Value).ownBlock ∧ k_ ≠ D6)) (by (with_reducible repeat (first | apply Kd.R_alloc | apply Kd.R_drewN | apply Kd.R_drew)); exact Kd.R_mono D0.out (fun _ hk => ⟨⟨hk.2.1, hk.2.2⟩, hk.1⟩)) hg hat)
             have n1_ := Cmp.bg D2 hg (Kd.R_ne Du.out D2.out (by decide))
             have n2_ := Cmp.bg D3 hg (Kd.R_ne Du.out D3.out (by decide))
             have n3_ := Cmp.bg D4 hg (Kd.R_ne Du.out D4.out (by decide))
             have n4_ := Cmp.bg D1 hg (Kd.R_away Du.out (fun _ hk => hk.2.2))
             have n5_ := Aside0.mk (Kd.R_after (ok := (fun k_ => some k_ ≠ (.slice Df D8.length Da : Value).ownBlock ∧ k_ ≠ D6)) (by (with_reducible repeat (first | apply Kd.R_alloc | apply Kd.R_drewN | apply Kd.R_drew)); exact Kd.R_mono Db.out (fun _ hk => ⟨⟨hk.2.1, hk.2.2⟩, hk.1⟩)) hg hat)
             have n6_ := Aside0.mk (hb)
             have n7_ := Aside0.mk (ho)
             clear D0; clear D2; clear D3; clear D4; clear D1; clear Db; clear HB; clear Du; have D0 := n0_; have D2 := n1_; have D3 := n2_; have D4 := n3_; have D1 := n4_; have Db := n5_; have HB := n6_; have Et := n7_; clear n0_ n1_ n2_ n3_ n4_ n5_ n6_ n7_; clear ho hb hg hat
             refine hK.out _ _ ⟨(Cmp.c0 D2 :), (Cmp.c0 D1 :), (Cmp.c1 D1 :), (Cmp.c2 D1 :), (Cmp.c3 D1 :)⟩ (fun hHeld => ?_)
             clear hK K
             refine norm_ (a' := ?_) ?_ ?_
             rotate_left
             ·show Act.put _ (some 75) _ = _
              simp only [Act.put, Cmp.s, Cmp.z, Cmp.c, i64_w, i32_w]; rfl
             refine one_ (i := 13) (N := some 80) (Cmp.bm 14 2) rfl rfl (one_of HT_.out (by kernel_rfl)) (by decide) (fun K hK => ?_)
             refine Kd.R_append_rows_step k49 (w0 := w) w.heap.size (by rfl) (.tmp 75) (.tmp 79) 39 49 (.agg #[(.int .i64 0), (.int .i64 0), (.int .i64 0), (.bool false)]) 32 rfl Try.underlying39 info49 rfl (by decide) (by omega) v460 E3 Dm _ _ _ (fun k_ => some k_ ≠ (.slice Df D8.length Da : Value).ownBlock ∧ some k_ ≠ (.slice Fm E2.length Fn : Value).ownBlock ∧ k_ ≠ D6) (fun _ => False) rfl rfl ?aO ?aR (fun _ _ h => h) (fun _ h => h.elim) ?aF ?aB ?aS ?aL ?_
             (case aR => repeat (first | exact (Kd.C_below HR465.out HB.out) | (with_reducible refine Kd.C_alloc ?_ _) | (with_reducible refine Kd.C_drewN ?_ _) | (with_reducible refine Kd.C_drew ?_)))
             (case aB => exact (Cmp.g HB.out))
             (case aF => exact (fun k_ hk => ⟨Kd.fresh' (Kd.R_lt (Cmp.rr D0.out)) k_ hk, Kd.fresh' (Kd.R_lt (Cmp.rr Db.out)) k_ hk, Kd.freshB (g := D6) (o := .cells #[.int .i64 a1, .int .i64 a2, .int .i64 1, .bool false] 49 (0, 0)) (Cmp.b D1.out) k_ hk⟩))
             (case aO => exact (Cmp.rr Et.out))
             (case aS => exact (below_size (Cmp.g HB.out)))
             (case aL => have := LMc66.out; omega)
             intro v467 w80 ho hb hg hat
             rw [← Jw.out] at ho
             have n0_ := Aside0.mk (Kd.R_after (ok := (fun k_ => some k_ ≠ (.slice Fm E2.length Fn : Value).ownBlock ∧ k_ ≠ D6)) (Cmp.rr D0.out) hg hat)
             have n1_ := Cmp.bg D2 hg (Kd.R_ne Et.out D2.out (by decide))
             have n2_ := Cmp.bg D3 hg (Kd.R_ne Et.out D3.out (by decide))
             have n3_ := Cmp.bg D4 hg (Kd.R_ne Et.out D4.out (by decide))
             have n4_ := Cmp.bg D1 hg (Kd.R_away Et.out (fun _ hk => hk.2.2))
             have n5_ := Aside0.mk (Kd.R_after (ok := (fun k_ => some k_ ≠ (.slice Df D8.length Da : Value).ownBlock ∧ k_ ≠ D6)) (Cmp.rr Db.out) hg hat)
             have n6_ := Aside0.mk (hb)
             have n7_ := Aside0.mk (ho)
             clear D0; clear D2; clear D3; clear D4; clear D1; clear Db; clear HB; clear Et; have D0 := n0_; have D2 := n1_; have D3 := n2_; have D4 := n3_; have D1 := n4_; have Db := n5_; have HB := n6_; have Go := n7_; clear n0_ n1_ n2_ n3_ n4_ n5_ n6_ n7_; clear ho hb hg hat
             obtain ⟨Jp, K2, K9⟩ := Kd.R_slice Go.out
             (first | subst K9 | (injection K9 with f1_ f2_ f3_; have f4_ := f1_.symm; have f5_ := f3_.symm; clear f1_ f2_ f3_; subst f4_; subst f5_))
             refine hK.out _ _ ⟨(Cmp.c0 D2 :), (Cmp.c0 D1 :), (Cmp.c1 D1 :), (Cmp.c2 D1 :), (Cmp.c3 D1 :)⟩ (fun hHeld => ?_)
             clear hK K
             refine norm_ (a' := ?_) ?_ ?_
             rotate_left
             ·show Act.put _ (some 80) _ = _
              simp only [Act.put, Cmp.s, Cmp.z, Cmp.c, i64_w, i32_w]; rfl
             refine Cmp.pu HT_ 14 81 (Cmp.bm 15 1) ?_
             refine one_ (i := 15) (N := none) (Cmp.bm 16 0) rfl rfl (one_of HT_.out (by kernel_rfl)) (by decide) (fun K hK => ?_)
             have hs82 : w80.cell? ⟨Dh, 0, none⟩ = some (.slice Df D8.length Da) := (blk_cell D4.out 0).trans rfl
             have hfs82 := blk_frozen D4.out 0; have hns82_0 := Dk.out; have hns82_1 := Dp.out; have hns82_3 := De.out; have hms82_0 := Dq.out; have hms82_1 := Dr.out; have hms82_3 := El.out
             refine skip_ (w1 := ?_) (by rfl) rfl ?_ ?_
             rotate_left
             ·go_simp; rfl
             refine hK.out _ _ ⟨((cell_far (p := ⟨Dh, _, none⟩) Dk.out _).trans (hHeld.1)), ((cell_far (p := ⟨Dh, _, none⟩) De.out _).trans (hHeld.2.1)), ((cell_far (p := ⟨Dh, _, none⟩) De.out _).trans (hHeld.2.2.1)), ((cell_far (p := ⟨Dh, _, none⟩) De.out _).trans (hHeld.2.2.2.1)), ((cell_far (p := ⟨Dh, _, none⟩) De.out _).trans (hHeld.2.2.2.2))⟩ (fun hHeld => ?_)
             clear hK K
             refine done_ (done_of HT_.out (by kernel_rfl)) ?_
             try go_wp2
             go_meet
             case rel => exact ⟨_, (Ge), (.slice Jp Ge.length K2), H', ⟨by have := HK1.out; first | omega | exact Nat.le_refl _⟩, ⟨by (with_reducible repeat (first | apply Kd.R_alloc | apply Kd.R_drewN | apply Kd.R_drew)); exact Kd.R_mono (Kd.R_far (p := ⟨Dh, 0, none⟩) (Kd.R_types Go.out D4.out (by decide)) (fun _ hk => hk.2) (.slice Jp Ge.length K2)) (fun _ hk => trivial)⟩, ⟨Cmp.bw D2.out⟩, ⟨Cmp.bw D3.out⟩, ⟨Cmp.bw D4.out⟩, ⟨Cmp.g HB.out⟩⟩
            ·rw [if_neg c66] at H; exact absurd H (by simp)
           ·rw [if_neg c63] at H; exact absurd H (by simp)
          ·rw [if_neg c62] at H; exact absurd H (by simp)
         ·rw [if_neg c61] at H; exact absurd H (by simp)
       ·rw [if_neg c55] at H; exact absurd H (by simp)
      ·rw [if_neg c54] at H
       have c54b0 : decide (D5 < (l0_0.length : Int)) = false := decide_eq_false c54
       clear c54
       obtain ⟨F0, hy469⟩ : ∃ y_ : List (S49), y_ = (([] : List (S49))) := ⟨_, rfl⟩
       replace H : (if 0 ≤ D5 then (if D5 ≤ (l0_0.length : Int) then ((some (l0_0.take (D5 : Int).toNat : List (S49))).bind fun Ep => (if F0.length + Ep.length < 4398046511104 then ((some (F0 ++ Ep : List (S49))).bind fun Ee => ((some (([(⟨a1, a2, 1, false⟩ : S49)] : List (S49)) : List (S49))).bind fun E5 => (if Ee.length + E5.length < 4398046511104 then ((some (Ee ++ E5 : List (S49))).bind fun E6 => ((some (l0_0.drop (D5 : Int).toNat : List (S49))).bind fun Dt => (if E6.length + Dt.length < 4398046511104 then (impl_PutEntry.j1 k1 l0_0 (E6 ++ Dt)) else (none)))) else (none)))) else (none))) else (none)) else (none)) = some (r1, r2) := by first | (rw [hy469]; with_reducible exact H) | (have H2_ := (Option.bind_some _ _).symm.trans H; rw [hy469]; with_reducible exact H2_) | (have H2_ := (Option.bind_some _ _).symm.trans H; with_reducible exact H2_) | with_reducible exact H | (rw [hy469]; exact H) | exact H
       have F6 := Aside0.mk hy469; clear hy469
       by_cases c83 : 0 ≤ D5
       ·rw [if_pos c83] at H
        have c83b0 := eq_true c83
        have c83b1 : decide (0 ≤ D5) = true := decide_eq_true c83; clear c83
        by_cases c84 : D5 ≤ (l0_0.length : Int)
        ·rw [if_pos c84] at H
         have c84b0 := eq_true c84
         have c84b1 : decide (D5 ≤ (l0_0.length : Int)) = true := decide_eq_true c84
         clear c84
         obtain ⟨Ep, hy472⟩ : ∃ y_ : List (S49), y_ = (l0_0.take (D5 : Int).toNat) := ⟨_, rfl⟩
         replace H : (if F0.length + Ep.length < 4398046511104 then ((some (F0 ++ Ep : List (S49))).bind fun Ee => ((some (([(⟨a1, a2, 1, false⟩ : S49)] : List (S49)) : List (S49))).bind fun E5 => (if Ee.length + E5.length < 4398046511104 then ((some (Ee ++ E5 : List (S49))).bind fun E6 => ((some (l0_0.drop (D5 : Int).toNat : List (S49))).bind fun Dt => (if E6.length + Dt.length < 4398046511104 then (impl_PutEntry.j1 k1 l0_0 (E6 ++ Dt)) else (none)))) else (none)))) else (none)) = some (r1, r2) := by first | (rw [hy472]; with_reducible exact H) | (have H2_ := (Option.bind_some _ _).symm.trans H; rw [hy472]; with_reducible exact H2_) | (have H2_ := (Option.bind_some _ _).symm.trans H; with_reducible exact H2_) | with_reducible exact H | (rw [hy472]; exact H) | exact H
         have Gu := Aside0.mk hy472; clear hy472
         by_cases c85 : F0.length + Ep.length < 4398046511104
         ·rw [if_pos c85] at H; have LMc85 := Aside0.mk c85; clear c85
          obtain ⟨Ee, hy476⟩ : ∃ y_ : List (S49), y_ = (F0 ++ Ep) := ⟨_, rfl⟩
          replace H : ((some (([(⟨a1, a2, 1, false⟩ : S49)] : List (S49)) : List (S49))).bind fun E5 => (if Ee.length + E5.length < 4398046511104 then ((some (Ee ++ E5 : List (S49))).bind fun E6 => ((some (l0_0.drop (D5 : Int).toNat : List (S49))).bind fun Dt => (if E6.length + Dt.length < 4398046511104 then (impl_PutEntry.j1 k1 l0_0 (E6 ++ Dt)) else (none)))) else (none))) = some (r1, r2) := by first | (rw [hy476]; with_reducible exact H) | (have H2_ := (Option.bind_some _ _).symm.trans H; rw [hy476]; with_reducible exact H2_) | (have H2_ := (Option.bind_some _ _).symm.trans H; with_reducible exact H2_) | with_reducible exact H | (rw [hy476]; exact H) | exact H
          have Fh := Aside0.mk hy476; clear hy476
          obtain ⟨E5, hy479⟩ : ∃ y_ : List (S49), y_ = (([(⟨a1, a2, 1, false⟩ : S49)] : List (S49))) := ⟨_, rfl⟩
          replace H : (if Ee.length + E5.length < 4398046511104 then ((some (Ee ++ E5 : List (S49))).bind fun E6 => ((some (l0_0.drop (D5 : Int).toNat : List (S49))).bind fun Dt => (if E6.length + Dt.length < 4398046511104 then (impl_PutEntry.j1 k1 l0_0 (E6 ++ Dt)) else (none)))) else (none)) = some (r1, r2) := by first | (rw [hy479]; with_reducible exact H) | (have H2_ := (Option.bind_some _ _).symm.trans H; rw [hy479]; with_reducible exact H2_) | (have H2_ := (Option.bind_some _ _).symm.trans H; with_reducible exact H2_) | with_reducible exact H | (rw [hy479]; exact H) | exact H
          have Ew := Aside0.mk hy479; clear hy479
          by_cases c86 : Ee.length + E5.length < 4398046511104
          ·rw [if_pos c86] at H; have LMc86 := Aside0.mk c86; clear c86
           obtain ⟨E6, hy482⟩ : ∃ y_ : List (S49), y_ = (Ee ++ E5) := ⟨_, rfl⟩
           replace H : ((some (l0_0.drop (D5 : Int).toNat : List (S49))).bind fun Dt => (if E6.length + Dt.length < 4398046511104 then (impl_PutEntry.j1 k1 l0_0 (E6 ++ Dt)) else (none))) = some (r1, r2) := by first | (rw [hy482]; with_reducible exact H) | (have H2_ := (Option.bind_some _ _).symm.trans H; rw [hy482]; with_reducible exact H2_) | (have H2_ := (Option.bind_some _ _).symm.trans H; with_reducible exact H2_) | with_reducible exact H | (rw [hy482]; exact H) | exact H
           have Jx := Aside0.mk hy482; clear hy482
           have c87b0 := eq_true (of_decide_eq_true Cmp.d : 0 ≤ D5)
           have c88b0 := eq_true (of_decide_eq_true Cmp.d : D5 ≤ (l0_0.length : Int))
           obtain ⟨Dt, hy485⟩ : ∃ y_ : List (S49), y_ = (l0_0.drop (D5 : Int).toNat) := ⟨_, rfl⟩
           replace H : (if E6.length + Dt.length < 4398046511104 then (impl_PutEntry.j1 k1 l0_0 (E6 ++ Dt)) else (none)) = some (r1, r2) := by first | (rw [hy485]; with_reducible exact H) | (have H2_ := (Option.bind_some _ _).symm.trans H; rw [hy485]; with_reducible exact H2_) | (have H2_ := (Option.bind_some _ _).symm.trans H; with_reducible exact H2_) | with_reducible exact H | (rw [hy485]; exact H) | exact H
           have Gv := Aside0.mk hy485; clear hy485
           by_cases c89 : E6.length + Dt.length < 4398046511104
           ·rw [if_pos c89] at H; have LMc89 := Aside0.mk c89; clear c89
            obtain ⟨Gf, hy489⟩ : ∃ y_ : List (S49), y_ = (E6 ++ Dt) := ⟨_, rfl⟩
            replace H : (impl_PutEntry.j1 k1 l0_0 Gf) = some (r1, r2) := by first | (rw [hy489]; with_reducible exact H) | (have H2_ := (Option.bind_some _ _).symm.trans H; rw [hy489]; with_reducible exact H2_) | (have H2_ := (Option.bind_some _ _).symm.trans H; with_reducible exact H2_) | with_reducible exact H | (rw [hy489]; exact H) | exact H
            have Jy := Aside0.mk hy489; clear hy489
            have H' := Aside0.mk H
            clear H
            try go_wp2
            replace D0 := Aside0.mk (Kd.R_drew D0.out); replace D2 := Aside0.mk (blk_drew D2.out); replace D3 := Aside0.mk (blk_drew D3.out); replace D4 := Aside0.mk (blk_drew D4.out); replace D1 := Aside0.mk (blk_drew D1.out); replace HB := Aside0.mk (below_drew1 HB.out)
            refine start_ (n := 14) (S := fun w' => w'.cell? ⟨Ds, 0, none⟩ = some (.slice A0_0 l0_0.length c0_0)) (ds := []) (Cmp.bm 0 14) (by kernel_rfl) rfl rfl (Cmp.c0 D2 :) (fun hHeld => ?_); refine with_tabW impl_PutEntry.tab12 impl_PutEntry.bits12 (fun HT_ HW_ => ?_)
            generalize wr.drew = w90 at D0 D2 D3 D4 D1 HB hHeld ⊢
            refine Cmp.pu HT_ 0 51 (Cmp.bm 1 13) ?_; refine Cmp.pu HT_ 1 52 (Cmp.bm 2 12) ?_
            refine take_ (i := 2) (N := some 53) (v := ?_) (a' := ?_) (Cmp.bm 3 11) rfl rfl (take_ofW HT_.out HW_.out (by kernel_rfl)) (fun _ _ _ h => h) (Or.inl ⟨by rfl, ?_⟩) hHeld ?_ ?_
            rotate_left
            ·intro w' s0
             go_simp; with_reducible rfl
            rotate_left
            ·simp only [Act.put, Cmp.s, Cmp.z, Cmp.c, i64_w, i32_w]; rfl
            refine Cmp.pu HT_ 3 54 (Cmp.bm 4 10) ?_; refine Cmp.pu HT_ 4 55 (Cmp.bm 5 9) ?_; refine Cmp.pu HT_ 5 56 (Cmp.bm 6 8) ?_; refine Cmp.pv HT_ 6 57 (Cmp.bm 7 7) ?_; refine Cmp.pv HT_ 7 58 (Cmp.bm 8 6) ?_; refine Cmp.pv HT_ 8 59 (Cmp.bm 9 5) ?_; refine Cmp.pv HT_ 9 60 (Cmp.bm 10 4) ?_; refine Cmp.pv HT_ 10 61 (Cmp.bm 11 3) ?_; refine Cmp.pv HT_ 11 62 (Cmp.bm 12 2) ?_; refine Cmp.pv HT_ 12 63 (Cmp.bm 13 1) ?_; refine Cmp.pu HT_ 13 64 (Cmp.bm 14 0) ?_
            refine done_ (done_of HT_.out (by kernel_rfl)) ?_
            try go_wp2
            replace D0 := Aside0.mk (Kd.R_drew D0.out); replace D2 := Aside0.mk (blk_drew D2.out); replace D3 := Aside0.mk (blk_drew D3.out); replace D4 := Aside0.mk (blk_drew D4.out); replace D1 := Aside0.mk (blk_drew D1.out); replace HB := Aside0.mk (below_drew1 HB.out)
            have q92 : (D5 : Int) ≤ ((l0_0.length : Int) : Int) := of_decide_eq_true Cmp.d
            obtain ⟨i092, J4, _, hsz92, _⟩ := info_parts info49
            have F9 : l0_0.length ≤ c0_0 := HC0_0.out
            have Ke : Kd.C k49 _ A0_0 l0_0.length l0_0 := E1.out
            have J8 := cut_to (P := Try.prog) 39 49 .i64 Try.underlying39 J4 A0_0 l0_0.length c0_0 D5 (of_decide_eq_true Cmp.d) q92 F9
            have hr92 := Kd.C_take (m := (D5 : Int).toNat) Ke (by omega)
            have hy92 : Ep.length = (D5 : Int).toNat := (by rw [Gu.out, List.length_take]; omega)
            rw [← Gu.out] at hr92
            rw [← hy92] at J8
            have HR475 := Aside0.mk hr92
            have Ls := Aside0.mk (show Ep.length ≤ c0_0 from by omega)
            clear hr92 Ke F9 J4 hsz92; have KY92 := Aside0.mk hy92; clear hy92; replace q92 := eq_true q92
            have q93 : (D5 : Int) ≤ ((l0_0.length : Int) : Int) := of_decide_eq_true Cmp.d
            obtain ⟨i093, J5, _, hsz93, _⟩ := info_parts info49
            have Ey : l0_0.length ≤ c0_0 := HC0_0.out
            have Kf : Kd.C k49 _ A0_0 l0_0.length l0_0 := E1.out
            have q093 : (0 : Int) ≤ (D5 : Int) := of_decide_eq_true Cmp.d
            have J9 := cut_from (P := Try.prog) 39 49 .i64 Try.underlying39 J5 4 hsz93 A0_0 l0_0.length c0_0 D5 q093 q93
            have hr93 := Kd.C_drop (m := (D5 : Int).toNat) (c := c0_0) Kf (by omega) Ey
            obtain ⟨Mk, hA93⟩ : ∃ A1, A1 = (if c0_0 = (D5 : Int).toNat then A0_0 else (A0_0 : Option Addr).map (·.add ((D5 : Int).toNat * 4))) := ⟨_, rfl⟩
            obtain ⟨c93, hc93⟩ : ∃ c1, c1 = c0_0 - (D5 : Int).toNat := ⟨_, rfl⟩
            have hy93 : Dt.length = l0_0.length - (D5 : Int).toNat := (by rw [Gv.out, List.length_drop] <;> omega)
            rw [show (l0_0).drop (D5 : Int).toNat = Dt from Gv.out.symm] at hr93
            replace hr93 : Kd.C k49 _ Mk Dt.length Dt := (by rw [hA93]; exact hr93)
            rw [← hy93, ← hA93, ← hc93] at J9
            have HR488 := Aside0.mk hr93
            have Lt := Aside0.mk (show Dt.length ≤ c93 from by rw [hy93, hc93]; exact Nat.sub_le_sub_right Ey _)
            clear hr93 Kf Ey J5 hsz93 hc93; have KY93 := Aside0.mk hy93; have KA93 := Aside0.mk hA93; clear hy93 hA93; replace q93 := eq_true q93
            refine start_ (n := 16) (S := fun w' => w'.cell? ⟨Ds, 0, none⟩ = some (.slice A0_0 l0_0.length c0_0) ∧ w'.cell? ⟨D6, 0, none⟩ = some (.int .i64 a1) ∧ w'.cell? ⟨D6, 1, none⟩ = some (.int .i64 a2) ∧ w'.cell? ⟨D6, 2, none⟩ = some (.int .i64 1) ∧ w'.cell? ⟨D6, 3, none⟩ = some (.bool false)) (ds := []) (Cmp.bm 0 16) (by kernel_rfl) rfl rfl ⟨(Cmp.c0 D2 :), (Cmp.c0 D1 :), (Cmp.c1 D1 :), (Cmp.c2 D1 :), (Cmp.c3 D1 :)⟩ (fun hHeld => ?_); refine with_tabW impl_PutEntry.tab14 impl_PutEntry.bits14 (fun HT_ HW_ => ?_)
            generalize w90.drew = w91 at D0 D2 D3 D4 D1 HB HR475 HR488 hHeld ⊢
            refine Cmp.pu HT_ 1 68 (Cmp.bb 16 2) ?_; refine Cmp.pu HT_ 3 70 (Cmp.bb 16 10) ?_; refine Cmp.pu HT_ 9 76 (Cmp.bb 16 522) ?_; refine Cmp.pu HT_ 11 78 (Cmp.bb 16 2570) ?_; refine Cmp.tk HT_ HW_ hHeld 2 69 (Cmp.bb 16 2574) ?_; refine Cmp.pu HT_ 4 71 (Cmp.bb 16 2590) ?_; refine Cmp.tk HT_ HW_ hHeld 6 73 (Cmp.bb 16 2654) ?_; refine Cmp.tk HT_ HW_ hHeld 10 77 (Cmp.bb 16 3678) ?_; refine Cmp.pu HT_ 12 79 (Cmp.bb 16 7774) ?_
            refine join_ (σ := Value × Value × Value) 4 (Cmp.bb 16 7935) (fun s_ => [(67, s_.1), (72, s_.2.1), (74, s_.2.2)]) (fun s_ w' => (w'.cell? ⟨Ds, 0, none⟩ = some (.slice A0_0 l0_0.length c0_0) ∧ w'.cell? ⟨D6, 0, none⟩ = some (.int .i64 a1) ∧ w'.cell? ⟨D6, 1, none⟩ = some (.int .i64 a2) ∧ w'.cell? ⟨D6, 2, none⟩ = some (.int .i64 1) ∧ w'.cell? ⟨D6, 3, none⟩ = some (.bool false)) ∧ (Kd.R k49 49 w' w.heap.size (fun k_ => some k_ ≠ (s_.2.2 : Value).ownBlock ∧ some k_ ≠ (.slice Df D8.length Da : Value).ownBlock ∧ k_ ≠ D6) s_.2.1 Ee) ∧ (Kd.R k49 49 w' w.heap.size (fun k_ => some k_ ≠ (s_.2.1 : Value).ownBlock ∧ some k_ ≠ (.slice Df D8.length Da : Value).ownBlock ∧ k_ ≠ D6) s_.2.2 E5) ∧ (Kd.R k49 49 w' w.heap.size (fun k_ => some k_ ≠ (s_.2.1 : Value).ownBlock ∧ some k_ ≠ (s_.2.2 : Value).ownBlock ∧ k_ ≠ D6) (.slice Df D8.length Da) D8) ∧ (w'.heap[Ds]? = some (.cells #[.slice A0_0 l0_0.length c0_0] 41 (0, 0))) ∧ (w'.heap[Dw]? = some (.cells #[.slice none 0 0] 41 (0, 0))) ∧ (w'.heap[Dh]? = some (.cells #[.slice Df D8.length Da] 41 (0, 0))) ∧ (w'.heap[D6]? = some (.cells #[.int .i64 a1, .int .i64 a2, .int .i64 1, .bool false] 49 (0, 0))) ∧ (Below w.heap.size w w')) ?_ ?_
            rotate_left
            ·intro hCont
             refine two_ (i := 0) (j := 7) (Ni := some 67) (Nj := some 74) (Cmp.bb 16 7775) (Cmp.bb 16 7902) rfl rfl rfl rfl (two_of HT_.out (by kernel_rfl)) (by decide) (by decide) (fun K hK => ?_) (fun K hK => ?_)
             ·skip
              refine Kd.R_lit_step k49 _ 49 ?hg (N := 67) ?hd (xs := ([] : List (S49))) (inner := []) (ok := fun _ => True) (okp := fun _ => True) ?hr ?hp (fun _ hk => hk) trivial (Below.refl _ _) (Nat.le_refl _) (by simp) ?_; (case hd => rfl); (case hg => rfl); (case hr => first | (go_simp; done) | (go_simp; rfl)); (case hp => exact (Reps.none _ _))
              intro v470 w94 En hb hg_ hnew_
              clear hg_ hnew_
              (first | rw [← F6.out] at En | (simp only [Int.reduceToNat] at En; rw [← F6.out] at En))
              have n0_ := Aside0.mk (Kd.R_elder' (Cmp.rr D0.out) (Kd.R_base En) hb)
              have n1_ := Aside0.mk (Kd.R_lower (Kd.R_newB (Kd.R_new' En (Kd.R_lt (Cmp.rr D0.out))) (g := D6) (o := .cells #[.int .i64 a1, .int .i64 a2, .int .i64 1, .bool false] 49 (0, 0)) (Cmp.b D1.out)) (below_size (Cmp.g HB.out)))
              have n2_ := Cmp.be D2 hb
              have n3_ := Cmp.be D3 hb
              have n4_ := Cmp.be D4 hb
              have n5_ := Cmp.be D1 hb
              have n6_ := Aside0.mk (below_step (Cmp.g HB.out) hb)
              clear D0; clear D2; clear D3; clear D4; clear D1; clear HB; have D0 := n0_; have Dj := n1_; have D2 := n2_; have D3 := n3_; have D4 := n4_; have D1 := n5_; have HB := n6_; clear n0_ n1_ n2_ n3_ n4_ n5_ n6_; clear hb En
              refine hK.out _ _ ⟨(Cmp.c0 D2 :), (Cmp.c0 D1 :), (Cmp.c1 D1 :), (Cmp.c2 D1 :), (Cmp.c3 D1 :)⟩ (fun hHeld => ?_)
              clear hK K
              refine norm_ (a' := ?_) ?_ ?_
              rotate_left
              ·show Act.put _ (some 67) _ = _
               simp only [Act.put, Cmp.s, Cmp.z, Cmp.c, i64_w, i32_w]; rfl
              refine two_ (i := 5) (j := 7) (Ni := some 72) (Nj := some 74) (Cmp.bb 16 7807) (Cmp.bb 16 7903) rfl rfl rfl rfl (two_of HT_.out (by kernel_rfl)) (by decide) (by decide) (fun K hK => ?_) (fun K hK => ?_)
              ·skip
               refine Kd.R_append_rows_step k49 (w0 := w) w.heap.size (by rfl) (.tmp 67) (.tmp 71) 39 49 (.agg #[(.int .i64 0), (.int .i64 0), (.int .i64 0), (.bool false)]) 32 rfl Try.underlying39 info49 rfl (by decide) (by omega) v470 F0 Ep _ _ _ (fun k_ => some k_ ≠ (.slice Df D8.length Da : Value).ownBlock ∧ k_ ≠ D6) (fun _ => False) rfl rfl ?aO ?aR (fun _ _ h => h) (fun _ h => h.elim) ?aF ?aB ?aS ?aL ?_
               (case aR => repeat (first | exact (Kd.C_below HR475.out HB.out) | (with_reducible refine Kd.C_alloc ?_ _) | (with_reducible refine Kd.C_drewN ?_ _) | (with_reducible refine Kd.C_drew ?_)))
               (case aB => exact (Cmp.g HB.out))
               (case aF => exact (fun k_ hk => ⟨Kd.fresh' (Kd.R_lt (Cmp.rr D0.out)) k_ hk, Kd.freshB (g := D6) (o := .cells #[.int .i64 a1, .int .i64 a2, .int .i64 1, .bool false] 49 (0, 0)) (Cmp.b D1.out) k_ hk⟩))
               (case aO => exact (by (with_reducible repeat (first | apply Kd.R_alloc | apply Kd.R_drewN | apply Kd.R_drew)); exact Kd.R_mono Dj.out (fun _ hk => ⟨hk.1.2, hk.2⟩)))
               (case aS => exact (below_size (Cmp.g HB.out)))
               (case aL => have := LMc85.out; omega)
               intro v477 w96 ho hb hg hat
               rw [← Fh.out] at ho
               have n0_ := Aside0.mk (Kd.R_after (ok := (fun k_ => k_ ≠ D6)) (Cmp.rr D0.out) hg hat)
               have n1_ := Cmp.bg D2 hg (Kd.R_ne Dj.out D2.out (by decide))
               have n2_ := Cmp.bg D3 hg (Kd.R_ne Dj.out D3.out (by decide))
               have n3_ := Cmp.bg D4 hg (Kd.R_ne Dj.out D4.out (by decide))
               have n4_ := Cmp.bg D1 hg (Kd.R_away Dj.out (fun _ hk => hk.2))
               have n5_ := Aside0.mk (hb)
               have n6_ := Aside0.mk (ho)
               clear D0; clear D2; clear D3; clear D4; clear D1; clear HB; clear Dj; have D0 := n0_; have D2 := n1_; have D3 := n2_; have D4 := n3_; have D1 := n4_; have HB := n5_; have Dv := n6_; clear n0_ n1_ n2_ n3_ n4_ n5_ n6_; clear ho hb hg hat
               refine hK.out _ _ ⟨(Cmp.c0 D2 :), (Cmp.c0 D1 :), (Cmp.c1 D1 :), (Cmp.c2 D1 :), (Cmp.c3 D1 :)⟩ (fun hHeld => ?_)
               clear hK K
               refine norm_ (a' := ?_) ?_ ?_
               rotate_left
               ·show Act.put _ (some 72) _ = _
                simp only [Act.put, Cmp.s, Cmp.z, Cmp.c, i64_w, i32_w]; rfl
               refine one_ (i := 7) (N := some 74) (Cmp.bb 16 7935) rfl rfl (one_of HT_.out (by kernel_rfl)) (by decide) (fun K hK => ?_)
               refine Kd.R_lit_step k49 _ 49 ?hg (N := 74) ?hd (xs := ([(⟨a1, a2, 1, false⟩ : S49)] : List (S49))) (inner := [.int .i64 a1, .int .i64 a2, .int .i64 1, .bool false]) (ok := fun _ => True) (okp := fun _ => True) ?hr ?hp (fun _ hk => hk) trivial (Below.refl _ _) (Nat.le_refl _) (by simp) ?_; (case hd => rfl); (case hg => rfl); (case hr => first | (go_simp; done) | (go_simp; rfl)); (case hp => exact (Reps.c4 (show Kd.M k49 _ _ _ (⟨a1, a2, 1, false⟩ : S49) [.int .i64 a1, .int .i64 a2, .int .i64 1, .bool false] from (k49_mkM _ _ _ (⟨a1, a2, 1, false⟩ : S49) )) (Reps.none _ _)))
               intro v480 w97 F2 hb hg_ hnew_
               clear hg_ hnew_
               (first | rw [← Ew.out] at F2 | (simp only [Int.reduceToNat] at F2; rw [← Ew.out] at F2))
               have n0_ := Aside0.mk (Kd.R_elder' (Cmp.rr D0.out) (Kd.R_base F2) hb)
               have n1_ := Aside0.mk (Kd.R_elder' (Cmp.rr Dv.out) (Kd.R_base F2) hb)
               have n2_ := Aside0.mk (Kd.R_lower (Kd.R_newB (Kd.R_new' (Kd.R_new' F2 (Kd.R_lt (Cmp.rr D0.out))) (Kd.R_lt (Cmp.rr Dv.out))) (g := D6) (o := .cells #[.int .i64 a1, .int .i64 a2, .int .i64 1, .bool false] 49 (0, 0)) (Cmp.b D1.out)) (below_size (Cmp.g HB.out)))
               have n3_ := Cmp.be D2 hb
               have n4_ := Cmp.be D3 hb
               have n5_ := Cmp.be D4 hb
               have n6_ := Cmp.be D1 hb
               have n7_ := Aside0.mk (below_step (Cmp.g HB.out) hb)
               clear D0; clear Dv; clear D2; clear D3; clear D4; clear D1; clear HB; have D0 := n0_; have Dv := n1_; have Dc := n2_; have D2 := n3_; have D3 := n4_; have D4 := n5_; have D1 := n6_; have HB := n7_; clear n0_ n1_ n2_ n3_ n4_ n5_ n6_ n7_; clear hb F2
               refine hK.out _ _ ⟨(Cmp.c0 D2 :), (Cmp.c0 D1 :), (Cmp.c1 D1 :), (Cmp.c2 D1 :), (Cmp.c3 D1 :)⟩ (fun hHeld => ?_)
               clear hK K
               refine norm_ (a' := ?_) ?_ ?_
               rotate_left
               ·show Act.put _ (some 74) _ = _
                simp only [Act.put, Cmp.s, Cmp.z, Cmp.c, i64_w, i32_w]; rfl
               exact norm_ (by simp only [putAll, Act.put, List.setIfInBounds_toArray, List.set_cons_zero, List.set_cons_succ]) (hCont (v470, v477, v480) _ ⟨hHeld, (by (with_reducible repeat (first | apply Kd.R_alloc | apply Kd.R_drewN | apply Kd.R_drew)); exact Kd.R_mono Dv.out (fun _ hk => ⟨hk.2, ⟨hk.1.1, hk.1.2⟩⟩)), (by (with_reducible repeat (first | apply Kd.R_alloc | apply Kd.R_drewN | apply Kd.R_drew)); exact Kd.R_mono Dc.out (fun _ hk => ⟨hk.1.2, ⟨hk.1.1.2, hk.2⟩⟩)), (by (with_reducible repeat (first | apply Kd.R_alloc | apply Kd.R_drewN | apply Kd.R_drew)); exact Kd.R_mono D0.out (fun _ hk => ⟨hk.1.2, ⟨hk.2, hk.1.1⟩⟩)), (Cmp.b D2.out), (Cmp.b D3.out), (Cmp.b D4.out), (Cmp.b D1.out), (Cmp.g HB.out)⟩)
              ·skip
               refine Kd.R_lit_step k49 _ 49 ?hg (N := 74) ?hd (xs := ([(⟨a1, a2, 1, false⟩ : S49)] : List (S49))) (inner := [.int .i64 a1, .int .i64 a2, .int .i64 1, .bool false]) (ok := fun _ => True) (okp := fun _ => True) ?hr ?hp (fun _ hk => hk) trivial (Below.refl _ _) (Nat.le_refl _) (by simp) ?_; (case hd => rfl); (case hg => rfl); (case hr => first | (go_simp; done) | (go_simp; rfl)); (case hp => exact (Reps.c4 (show Kd.M k49 _ _ _ (⟨a1, a2, 1, false⟩ : S49) [.int .i64 a1, .int .i64 a2, .int .i64 1, .bool false] from (k49_mkM _ _ _ (⟨a1, a2, 1, false⟩ : S49) )) (Reps.none _ _)))
               intro v480 w96 Ec hb hg_ hnew_
               clear hg_ hnew_
               (first | rw [← Ew.out] at Ec | (simp only [Int.reduceToNat] at Ec; rw [← Ew.out] at Ec))
               have n0_ := Aside0.mk (Kd.R_elder' (Cmp.rr D0.out) (Kd.R_base Ec) hb)
               have n1_ := Aside0.mk (Kd.R_elder' (Cmp.rr Dj.out) (Kd.R_base Ec) hb)
               have n2_ := Aside0.mk (Kd.R_lower (Kd.R_newB (Kd.R_new' (Kd.R_new' Ec (Kd.R_lt (Cmp.rr D0.out))) (Kd.R_lt (Cmp.rr Dj.out))) (g := D6) (o := .cells #[.int .i64 a1, .int .i64 a2, .int .i64 1, .bool false] 49 (0, 0)) (Cmp.b D1.out)) (below_size (Cmp.g HB.out)))
               have n3_ := Cmp.be D2 hb
               have n4_ := Cmp.be D3 hb
               have n5_ := Cmp.be D4 hb
               have n6_ := Cmp.be D1 hb
               have n7_ := Aside0.mk (below_step (Cmp.g HB.out) hb)
               clear D0; clear Dj; clear D2; clear D3; clear D4; clear D1; clear HB; have D0 := n0_; have Dj := n1_; have Dc := n2_; have D2 := n3_; have D3 := n4_; have D4 := n5_; have D1 := n6_; have HB := n7_; clear n0_ n1_ n2_ n3_ n4_ n5_ n6_ n7_; clear hb Ec
               refine hK.out _ _ ⟨(Cmp.c0 D2 :), (Cmp.c0 D1 :), (Cmp.c1 D1 :), (Cmp.c2 D1 :), (Cmp.c3 D1 :)⟩ (fun hHeld => ?_)
               clear hK K
               refine norm_ (a' := ?_) ?_ ?_
               rotate_left
               ·show Act.put _ (some 74) _ = _
                simp only [Act.put, Cmp.s, Cmp.z, Cmp.c, i64_w, i32_w]; rfl
               refine one_ (i := 5) (N := some 72) (Cmp.bb 16 7935) rfl rfl (one_of HT_.out (by kernel_rfl)) (by decide) (fun K hK => ?_)
               refine Kd.R_append_rows_step k49 (w0 := w) w.heap.size (by rfl) (.tmp 67) (.tmp 71) 39 49 (.agg #[(.int .i64 0), (.int .i64 0), (.int .i64 0), (.bool false)]) 32 rfl Try.underlying39 info49 rfl (by decide) (by omega) v470 F0 Ep _ _ _ (fun k_ => some k_ ≠ (.slice Df D8.length Da : Value).ownBlock ∧ some k_ ≠ (v480 : Value).ownBlock ∧ k_ ≠ D6) (fun _ => False) rfl rfl ?aO ?aR (fun _ _ h => h) (fun _ h => h.elim) ?aF ?aB ?aS ?aL ?_
               (case aR => repeat (first | exact (Kd.C_below HR475.out HB.out) | (with_reducible refine Kd.C_alloc ?_ _) | (with_reducible refine Kd.C_drewN ?_ _) | (with_reducible refine Kd.C_drew ?_)))
               (case aB => exact (Cmp.g HB.out))
               (case aF => exact (fun k_ hk => ⟨Kd.fresh' (Kd.R_lt (Cmp.rr D0.out)) k_ hk, Kd.fresh' (Kd.R_lt (Cmp.rr Dc.out)) k_ hk, Kd.freshB (g := D6) (o := .cells #[.int .i64 a1, .int .i64 a2, .int .i64 1, .bool false] 49 (0, 0)) (Cmp.b D1.out) k_ hk⟩))
               (case aO => exact (by (with_reducible repeat (first | apply Kd.R_alloc | apply Kd.R_drewN | apply Kd.R_drew)); exact Kd.R_mono Dj.out (fun _ hk => ⟨hk.1.1.2, ⟨hk.2, hk.1.2⟩⟩)))
               (case aS => exact (below_size (Cmp.g HB.out)))
               (case aL => have := LMc85.out; omega)
               intro v477 w98 ho hb hg hat
               rw [← Fh.out] at ho
               have n0_ := Aside0.mk (Kd.R_after (ok := (fun k_ => some k_ ≠ (v480 : Value).ownBlock ∧ k_ ≠ D6)) (by (with_reducible repeat (first | apply Kd.R_alloc | apply Kd.R_drewN | apply Kd.R_drew)); exact Kd.R_mono D0.out (fun _ hk => ⟨⟨hk.2, hk.1.1⟩, hk.1.2⟩)) hg hat)
               have n1_ := Cmp.bg D2 hg (Kd.R_ne Dj.out D2.out (by decide))
               have n2_ := Cmp.bg D3 hg (Kd.R_ne Dj.out D3.out (by decide))
               have n3_ := Cmp.bg D4 hg (Kd.R_ne Dj.out D4.out (by decide))
               have n4_ := Cmp.bg D1 hg (Kd.R_away Dj.out (fun _ hk => hk.1.2))
               have n5_ := Aside0.mk (Kd.R_after (ok := (fun k_ => some k_ ≠ (.slice Df D8.length Da : Value).ownBlock ∧ k_ ≠ D6)) (by (with_reducible repeat (first | apply Kd.R_alloc | apply Kd.R_drewN | apply Kd.R_drew)); exact Kd.R_mono Dc.out (fun _ hk => ⟨⟨hk.1.1.2, hk.2⟩, hk.1.2⟩)) hg hat)
               have n6_ := Aside0.mk (hb)
               have n7_ := Aside0.mk (ho)
               clear D0; clear D2; clear D3; clear D4; clear D1; clear Dc; clear HB; clear Dj; have D0 := n0_; have D2 := n1_; have D3 := n2_; have D4 := n3_; have D1 := n4_; have Dc := n5_; have HB := n6_; have Dv := n7_; clear n0_ n1_ n2_ n3_ n4_ n5_ n6_ n7_; clear ho hb hg hat
               refine hK.out _ _ ⟨(Cmp.c0 D2 :), (Cmp.c0 D1 :), (Cmp.c1 D1 :), (Cmp.c2 D1 :), (Cmp.c3 D1 :)⟩ (fun hHeld => ?_)
               clear hK K
               refine norm_ (a' := ?_) ?_ ?_
               rotate_left
               ·show Act.put _ (some 72) _ = _
                simp only [Act.put, Cmp.s, Cmp.z, Cmp.c, i64_w, i32_w]; rfl
               exact norm_ (by simp only [putAll, Act.put, List.setIfInBounds_toArray, List.set_cons_zero, List.set_cons_succ]) (hCont (v470, v477, v480) _ ⟨hHeld, (by (with_reducible repeat (first | apply Kd.R_alloc | apply Kd.R_drewN | apply Kd.R_drew)); exact Kd.R_mono Dv.out (fun _ hk => ⟨hk.2.1, ⟨hk.1, hk.2.2⟩⟩)), (by (with_reducible repeat (first | apply Kd.R_alloc | apply Kd.R_drewN | apply Kd.R_drew)); exact Kd.R_mono Dc.out (fun _ hk => ⟨hk.2, ⟨hk.1.1, hk.1.2⟩⟩)), (by (with_reducible repeat (first | apply Kd.R_alloc | apply Kd.R_drewN | apply Kd.R_drew)); exact Kd.R_mono D0.out (fun _ hk => ⟨hk.2, ⟨hk.1.1, hk.1.2⟩⟩)), (Cmp.b D2.out), (Cmp.b D3.out), (Cmp.b D4.out), (Cmp.b D1.out), (Cmp.g HB.out)⟩)
             ·skip
              refine Kd.R_lit_step k49 _ 49 ?hg (N := 74) ?hd (xs := ([(⟨a1, a2, 1, false⟩ : S49)] : List (S49))) (inner := [.int .i64 a1, .int .i64 a2, .int .i64 1, .bool false]) (ok := fun _ => True) (okp := fun _ => True) ?hr ?hp (fun _ hk => hk) trivial (Below.refl _ _) (Nat.le_refl _) (by simp) ?_; (case hd => rfl); (case hg => rfl); (case hr => first | (go_simp; done) | (go_simp; rfl)); (case hp => exact (Reps.c4 (show Kd.M k49 _ _ _ (⟨a1, a2, 1, false⟩ : S49) [.int .i64 a1, .int .i64 a2, .int .i64 1, .bool false] from (k49_mkM _ _ _ (⟨a1, a2, 1, false⟩ : S49) )) (Reps.none _ _)))
              intro v480 w94 En hb hg_ hnew_
              clear hg_ hnew_
              (first | rw [← Ew.out] at En | (simp only [Int.reduceToNat] at En; rw [← Ew.out] at En))
              have n0_ := Aside0.mk (Kd.R_elder' (Cmp.rr D0.out) (Kd.R_base En) hb)
              have n1_ := Aside0.mk (Kd.R_lower (Kd.R_newB (Kd.R_new' En (Kd.R_lt (Cmp.rr D0.out))) (g := D6) (o := .cells #[.int .i64 a1, .int .i64 a2, .int .i64 1, .bool false] 49 (0, 0)) (Cmp.b D1.out)) (below_size (Cmp.g HB.out)))
              have n2_ := Cmp.be D2 hb
              have n3_ := Cmp.be D3 hb
              have n4_ := Cmp.be D4 hb
              have n5_ := Cmp.be D1 hb
              have n6_ := Aside0.mk (below_step (Cmp.g HB.out) hb)
              clear D0; clear D2; clear D3; clear D4; clear D1; clear HB; have D0 := n0_; have Dc := n1_; have D2 := n2_; have D3 := n3_; have D4 := n4_; have D1 := n5_; have HB := n6_; clear n0_ n1_ n2_ n3_ n4_ n5_ n6_; clear hb En
              refine hK.out _ _ ⟨(Cmp.c0 D2 :), (Cmp.c0 D1 :), (Cmp.c1 D1 :), (Cmp.c2 D1 :), (Cmp.c3 D1 :)⟩ (fun hHeld => ?_)
              clear hK K
              refine norm_ (a' := ?_) ?_ ?_
              rotate_left
              ·show Act.put _ (some 74) _ = _
               simp only [Act.put, Cmp.s, Cmp.z, Cmp.c, i64_w, i32_w]; rfl
              refine one_ (i := 0) (N := some 67) (Cmp.bb 16 7903) rfl rfl (one_of HT_.out (by kernel_rfl)) (by decide) (fun K hK => ?_)
              refine Kd.R_lit_step k49 _ 49 ?hg (N := 67) ?hd (xs := ([] : List (S49))) (inner := []) (ok := fun _ => True) (okp := fun _ => True) ?hr ?hp (fun _ hk => hk) trivial (Below.refl _ _) (Nat.le_refl _) (by simp) ?_; (case hd => rfl); (case hg => rfl); (case hr => first | (go_simp; done) | (go_simp; rfl)); (case hp => exact (Reps.none _ _))
              intro v470 w96 Ec hb hg_ hnew_
              clear hg_ hnew_
              (first | rw [← F6.out] at Ec | (simp only [Int.reduceToNat] at Ec; rw [← F6.out] at Ec))
              have n0_ := Aside0.mk (Kd.R_elder' (Cmp.rr D0.out) (Kd.R_base Ec) hb)
              have n1_ := Aside0.mk (Kd.R_elder' (Cmp.rr Dc.out) (Kd.R_base Ec) hb)
              have n2_ := Aside0.mk (Kd.R_lower (Kd.R_newB (Kd.R_new' (Kd.R_new' Ec (Kd.R_lt (Cmp.rr D0.out))) (Kd.R_lt (Cmp.rr Dc.out))) (g := D6) (o := .cells #[.int .i64 a1, .int .i64 a2, .int .i64 1, .bool false] 49 (0, 0)) (Cmp.b D1.out)) (below_size (Cmp.g HB.out)))
              have n3_ := Cmp.be D2 hb
              have n4_ := Cmp.be D3 hb
              have n5_ := Cmp.be D4 hb
              have n6_ := Cmp.be D1 hb
              have n7_ := Aside0.mk (below_step (Cmp.g HB.out) hb)
              clear D0; clear Dc; clear D2; clear D3; clear D4; clear D1; clear HB; have D0 := n0_; have Dc := n1_; have Dj := n2_; have D2 := n3_; have D3 := n4_; have D4 := n5_; have D1 := n6_; have HB := n7_; clear n0_ n1_ n2_ n3_ n4_ n5_ n6_ n7_; clear hb Ec
              refine hK.out _ _ ⟨(Cmp.c0 D2 :), (Cmp.c0 D1 :), (Cmp.c1 D1 :), (Cmp.c2 D1 :), (Cmp.c3 D1 :)⟩ (fun hHeld => ?_)
              clear hK K
              refine norm_ (a' := ?_) ?_ ?_
              rotate_left
              ·show Act.put _ (some 67) _ = _
               simp only [Act.put, Cmp.s, Cmp.z, Cmp.c, i64_w, i32_w]; rfl
              refine one_ (i := 5) (N := some 72) (Cmp.bb 16 7935) rfl rfl (one_of HT_.out (by kernel_rfl)) (by decide) (fun K hK => ?_)
              refine Kd.R_append_rows_step k49 (w0 := w) w.heap.size (by rfl) (.tmp 67) (.tmp 71) 39 49 (.agg #[(.int .i64 0), (.int .i64 0), (.int .i64 0), (.bool false)]) 32 rfl Try.underlying39 info49 rfl (by decide) (by omega) v470 F0 Ep _ _ _ (fun k_ => some k_ ≠ (.slice Df D8.length Da : Value).ownBlock ∧ some k_ ≠ (v480 : Value).ownBlock ∧ k_ ≠ D6) (fun _ => False) rfl rfl ?aO ?aR (fun _ _ h => h) (fun _ h => h.elim) ?aF ?aB ?aS ?aL ?_
              (case aR => repeat (first | exact (Kd.C_below HR475.out HB.out) | (with_reducible refine Kd.C_alloc ?_ _) | (with_reducible refine Kd.C_drewN ?_ _) | (with_reducible refine Kd.C_drew ?_)))
              (case aB => exact (Cmp.g HB.out))
              (case aF => exact (fun k_ hk => ⟨Kd.fresh' (Kd.R_lt (Cmp.rr D0.out)) k_ hk, Kd.fresh' (Kd.R_lt (Cmp.rr Dc.out)) k_ hk, Kd.freshB (g := D6) (o := .cells #[.int .i64 a1, .int .i64 a2, .int .i64 1, .bool false] 49 (0, 0)) (Cmp.b D1.out) k_ hk⟩))
              (case aO => exact (by (with_reducible repeat (first | apply Kd.R_alloc | apply Kd.R_drewN | apply Kd.R_drew)); exact Kd.R_mono Dj.out (fun _ hk => ⟨hk.1.1.2, ⟨hk.1.2, hk.2⟩⟩)))
              (case aS => exact (below_size (Cmp.g HB.out)))
              (case aL => have := LMc85.out; omega)
              intro v477 w98 ho hb hg hat
              rw [← Fh.out] at ho
              have n0_ := Aside0.mk (Kd.R_after (ok := (fun k_ => some k_ ≠ (v480 : Value).ownBlock ∧ k_ ≠ D6)) (by (with_reducible repeat (first | apply Kd.R_alloc | apply Kd.R_drewN | apply Kd.R_drew)); exact Kd.R_mono D0.out (fun _ hk => ⟨⟨hk.1.2, hk.1.1⟩, hk.2⟩)) hg hat)
              have n1_ := Cmp.bg D2 hg (Kd.R_ne Dj.out D2.out (by decide))
              have n2_ := Cmp.bg D3 hg (Kd.R_ne Dj.out D3.out (by decide))
              have n3_ := Cmp.bg D4 hg (Kd.R_ne Dj.out D4.out (by decide))
              have n4_ := Cmp.bg D1 hg (Kd.R_away Dj.out (fun _ hk => hk.2))
              have n5_ := Aside0.mk (Kd.R_after (ok := (fun k_ => some k_ ≠ (.slice Df D8.length Da : Value).ownBlock ∧ k_ ≠ D6)) (by (with_reducible repeat (first | apply Kd.R_alloc | apply Kd.R_drewN | apply Kd.R_drew)); exact Kd.R_mono Dc.out (fun _ hk => ⟨⟨hk.1.1.2, hk.1.2⟩, hk.2⟩)) hg hat)
              have n6_ := Aside0.mk (hb)
              have n7_ := Aside0.mk (ho)
              clear D0; clear D2; clear D3; clear D4; clear D1; clear Dc; clear HB; clear Dj; have D0 := n0_; have D2 := n1_; have D3 := n2_; have D4 := n3_; have D1 := n4_; have Dc := n5_; have HB := n6_; have Dv := n7_; clear n0_ n1_ n2_ n3_ n4_ n5_ n6_ n7_; clear ho hb hg hat
              refine hK.out _ _ ⟨(Cmp.c0 D2 :), (Cmp.c0 D1 :), (Cmp.c1 D1 :), (Cmp.c2 D1 :), (Cmp.c3 D1 :)⟩ (fun hHeld => ?_)
              clear hK K
              refine norm_ (a' := ?_) ?_ ?_
              rotate_left
              ·show Act.put _ (some 72) _ = _
               simp only [Act.put, Cmp.s, Cmp.z, Cmp.c, i64_w, i32_w]; rfl
              exact norm_ (by simp only [putAll, Act.put, List.setIfInBounds_toArray, List.set_cons_zero, List.set_cons_succ]) (hCont (v470, v477, v480) _ ⟨hHeld, (by (with_reducible repeat (first | apply Kd.R_alloc | apply Kd.R_drewN | apply Kd.R_drew)); exact Kd.R_mono Dv.out (fun _ hk => ⟨hk.2.1, ⟨hk.1, hk.2.2⟩⟩)), (by (with_reducible repeat (first | apply Kd.R_alloc | apply Kd.R_drewN | apply Kd.R_drew)); exact Kd.R_mono Dc.out (fun _ hk => ⟨hk.2, ⟨hk.1.1, hk.1.2⟩⟩)), (by (with_reducible repeat (first | apply Kd.R_alloc | apply Kd.R_drewN | apply Kd.R_drew)); exact Kd.R_mono D0.out (fun _ hk => ⟨hk.2, ⟨hk.1.1, hk.1.2⟩⟩)), (Cmp.b D2.out), (Cmp.b D3.out), (Cmp.b D4.out), (Cmp.b D1.out), (Cmp.g HB.out)⟩)
            rintro ⟨v470, v477, v480⟩ w99 ⟨hS_, h0_, h1_, h2_, h3_, h4_, h5_, h6_, h7_⟩
            have n0_ : Aside0 (Kd.R k49 49 w99 w.heap.size (fun k_ => some k_ ≠ (v480 : Value).ownBlock ∧ some k_ ≠ (.slice Df D8.length Da : Value).ownBlock ∧ k_ ≠ D6) v477 Ee) := ⟨h0_⟩
            have n1_ : Aside0 (Kd.R k49 49 w99 w.heap.size (fun k_ => some k_ ≠ (v477 : Value).ownBlock ∧ some k_ ≠ (.slice Df D8.length Da : Value).ownBlock ∧ k_ ≠ D6) v480 E5) := ⟨h1_⟩
            have n2_ : Aside0 (Kd.R k49 49 w99 w.heap.size (fun k_ => some k_ ≠ (v477 : Value).ownBlock ∧ some k_ ≠ (v480 : Value).ownBlock ∧ k_ ≠ D6) (.slice Df D8.length Da) D8) := ⟨h2_⟩
            have n3_ : Aside0 (w99.heap[Ds]? = some (.cells #[.slice A0_0 l0_0.length c0_0] 41 (0, 0))) := ⟨h3_⟩
            have n4_ : Aside0 (w99.heap[Dw]? = some (.cells #[.slice none 0 0] 41 (0, 0))) := ⟨h4_⟩
            have n5_ : Aside0 (w99.heap[Dh]? = some (.cells #[.slice Df D8.length Da] 41 (0, 0))) := ⟨h5_⟩
            have n6_ : Aside0 (w99.heap[D6]? = some (.cells #[.int .i64 a1, .int .i64 a2, .int .i64 1, .bool false] 49 (0, 0))) := ⟨h6_⟩
            have n7_ : Aside0 (Below w.heap.size w w99) := ⟨h7_⟩
            clear D0; clear D2; clear D3; clear D4; clear D1; clear HB; clear h0_ h1_ h2_ h3_ h4_ h5_ h6_ h7_; have Dv := n0_; have Dc := n1_; have D0 := n2_; have D2 := n3_; have D3 := n4_; have D4 := n5_; have D1 := n6_; have HB := n7_; clear n0_ n1_ n2_ n3_ n4_ n5_ n6_ n7_
            have hHeld : w99.cell? ⟨Ds, 0, none⟩ = some (.slice A0_0 l0_0.length c0_0) ∧ w99.cell? ⟨D6, 0, none⟩ = some (.int .i64 a1) ∧ w99.cell? ⟨D6, 1, none⟩ = some (.int .i64 a2) ∧ w99.cell? ⟨D6, 2, none⟩ = some (.int .i64 1) ∧ w99.cell? ⟨D6, 3, none⟩ = some (.bool false) := hS_
            obtain ⟨F4, F7, J0⟩ := Kd.R_slice Dc.out
            (first | subst J0 | (injection J0 with f1_ f2_ f3_; have f4_ := f1_.symm; have f5_ := f3_.symm; clear f1_ f2_ f3_; subst f4_; subst f5_))
            refine norm_ (a' := ?_) ?_ ?_
            rotate_left
            ·simp only [putAll, Act.put, List.setIfInBounds_toArray, List.set_cons_zero, List.set_cons_succ]; rfl
            refine one_ (i := 8) (N := some 75) (Cmp.bm 13 3) rfl rfl (one_of HT_.out (by kernel_rfl)) (by decide) (fun K hK => ?_)
            refine Kd.R_append_rows_step k49 (w0 := w) w.heap.size (by rfl) (.tmp 72) (.tmp 74) 39 49 (.agg #[(.int .i64 0), (.int .i64 0), (.int .i64 0), (.bool false)]) 32 rfl Try.underlying39 info49 rfl (by decide) (by omega) v477 Ee E5 _ _ _ (fun k_ => some k_ ≠ (.slice Df D8.length Da : Value).ownBlock ∧ some k_ ≠ (.slice F4 E5.length F7 : Value).ownBlock ∧ k_ ≠ D6) (fun _ => False) rfl rfl ?aO ?aR (fun _ _ h => h) (fun _ h => h.elim) ?aF ?aB ?aS ?aL ?_
            (case aR => repeat (first | exact (Kd.R_reads' Dc.out).2.2 | (with_reducible refine Kd.C_alloc ?_ _) | (with_reducible refine Kd.C_drewN ?_ _) | (with_reducible refine Kd.C_drew ?_)))
            (case aB => exact (Cmp.g HB.out))
            (case aF => exact (fun k_ hk => ⟨Kd.fresh' (Kd.R_lt (Cmp.rr D0.out)) k_ hk, Kd.fresh' (Kd.R_lt (Cmp.rr Dc.out)) k_ hk, Kd.freshB (g := D6) (o := .cells #[.int .i64 a1, .int .i64 a2, .int .i64 1, .bool false] 49 (0, 0)) (Cmp.b D1.out) k_ hk⟩))
            (case aO => exact (by (with_reducible repeat (first | apply Kd.R_alloc | apply Kd.R_drewN | apply Kd.R_drew)); exact Kd.R_mono Dv.out (fun _ hk => ⟨hk.2.1, ⟨hk.1, hk.2.2⟩⟩)))
            (case aS => exact (below_size (Cmp.g HB.out)))
            (case aL => have := LMc86.out; omega)
            intro v483 w100 ho hb hg hat
            rw [← Jx.out] at ho
            have n0_ := Aside0.mk (Kd.R_after (ok := (fun k_ => some k_ ≠ (.slice F4 E5.length F7 : Value).ownBlock ∧ k_ ≠ D6)) (by (with_reducible repeat (first | apply Kd.R_alloc | apply Kd.R_drewN | apply Kd.R_drew)); exact Kd.R_mono D0.out (fun _ hk => ⟨⟨hk.2.1, hk.2.2⟩, hk.1⟩)) hg hat)
            have n1_ := Cmp.bg D2 hg (Kd.R_ne Dv.out D2.out (by decide))
            have n2_ := Cmp.bg D3 hg (Kd.R_ne Dv.out D3.out (by decide))
            have n3_ := Cmp.bg D4 hg (Kd.R_ne Dv.out D4.out (by decide))
            have n4_ := Cmp.bg D1 hg (Kd.R_away Dv.out (fun _ hk => hk.2.2))
            have n5_ := Aside0.mk (Kd.R_after (ok := (fun k_ => some k_ ≠ (.slice Df D8.length Da : Value).ownBlock ∧ k_ ≠ D6)) (by (with_reducible repeat (first | apply Kd.R_alloc | apply Kd.R_drewN | apply Kd.R_drew)); exact Kd.R_mono Dc.out (fun _ hk => ⟨⟨hk.2.1, hk.2.2⟩, hk.1⟩)) hg hat)
            have n6_ := Aside0.mk (hb)
            have n7_ := Aside0.mk (ho)
            clear D0; clear D2; clear D3; clear D4; clear D1; clear Dc; clear HB; clear Dv; have D0 := n0_; have D2 := n1_; have D3 := n2_; have D4 := n3_; have D1 := n4_; have Dc := n5_; have HB := n6_; have Eu := n7_; clear n0_ n1_ n2_ n3_ n4_ n5_ n6_ n7_; clear ho hb hg hat
            refine hK.out _ _ ⟨(Cmp.c0 D2 :), (Cmp.c0 D1 :), (Cmp.c1 D1 :), (Cmp.c2 D1 :), (Cmp.c3 D1 :)⟩ (fun hHeld => ?_)
            clear hK K
            refine norm_ (a' := ?_) ?_ ?_
            rotate_left
            ·show Act.put _ (some 75) _ = _
             simp only [Act.put, Cmp.s, Cmp.z, Cmp.c, i64_w, i32_w]; rfl
            refine one_ (i := 13) (N := some 80) (Cmp.bm 14 2) rfl rfl (one_of HT_.out (by kernel_rfl)) (by decide) (fun K hK => ?_)
            refine Kd.R_append_rows_step k49 (w0 := w) w.heap.size (by rfl) (.tmp 75) (.tmp 79) 39 49 (.agg #[(.int .i64 0), (.int .i64 0), (.int .i64 0), (.bool false)]) 32 rfl Try.underlying39 info49 rfl (by decide) (by omega) v483 E6 Dt _ _ _ (fun k_ => some k_ ≠ (.slice Df D8.length Da : Value).ownBlock ∧ some k_ ≠ (.slice F4 E5.length F7 : Value).ownBlock ∧ k_ ≠ D6) (fun _ => False) rfl rfl ?aO ?aR (fun _ _ h => h) (fun _ h => h.elim) ?aF ?aB ?aS ?aL ?_
            (case aR => repeat (first | exact (Kd.C_below HR488.out HB.out) | (with_reducible refine Kd.C_alloc ?_ _) | (with_reducible refine Kd.C_drewN ?_ _) | (with_reducible refine Kd.C_drew ?_)))
            (case aB => exact (Cmp.g HB.out))
            (case aF => exact (fun k_ hk => ⟨Kd.fresh' (Kd.R_lt (Cmp.rr D0.out)) k_ hk, Kd.fresh' (Kd.R_lt (Cmp.rr Dc.out)) k_ hk, Kd.freshB (g := D6) (o := .cells #[.int .i64 a1, .int .i64 a2, .int .i64 1, .bool false] 49 (0, 0)) (Cmp.b D1.out) k_ hk⟩))
            (case aO => exact (Cmp.rr Eu.out))
            (case aS => exact (below_size (Cmp.g HB.out)))
            (case aL => have := LMc89.out; omega)
            intro v490 w102 ho hb hg hat
            rw [← Jy.out] at ho
            have n0_ := Aside0.mk (Kd.R_after (ok := (fun k_ => some k_ ≠ (.slice F4 E5.length F7 : Value).ownBlock ∧ k_ ≠ D6)) (Cmp.rr D0.out) hg hat)
            have n1_ := Cmp.bg D2 hg (Kd.R_ne Eu.out D2.out (by decide))
            have n2_ := Cmp.bg D3 hg (Kd.R_ne Eu.out D3.out (by decide))
            have n3_ := Cmp.bg D4 hg (Kd.R_ne Eu.out D4.out (by decide))
            have n4_ := Cmp.bg D1 hg (Kd.R_away Eu.out (fun _ hk => hk.2.2))
            have n5_ := Aside0.mk (Kd.R_after (ok := (fun k_ => some k_ ≠ (.slice Df D8.length Da : Value).ownBlock ∧ k_ ≠ D6)) (Cmp.rr Dc.out) hg hat)
            have n6_ := Aside0.mk (hb)
            have n7_ := Aside0.mk (ho)
            clear D0; clear D2; clear D3; clear D4; clear D1; clear Dc; clear HB; clear Eu; have D0 := n0_; have D2 := n1_; have D3 := n2_; have D4 := n3_; have D1 := n4_; have Dc := n5_; have HB := n6_; have Gp := n7_; clear n0_ n1_ n2_ n3_ n4_ n5_ n6_ n7_; clear ho hb hg hat
            obtain ⟨Gj, Gx, J1⟩ := Kd.R_slice Gp.out
            (first | subst J1 | (injection J1 with f1_ f2_ f3_; have f4_ := f1_.symm; have f5_ := f3_.symm; clear f1_ f2_ f3_; subst f4_; subst f5_))
            refine hK.out _ _ ⟨(Cmp.c0 D2 :), (Cmp.c0 D1 :), (Cmp.c1 D1 :), (Cmp.c2 D1 :), (Cmp.c3 D1 :)⟩ (fun hHeld => ?_)
            clear hK K
            refine norm_ (a' := ?_) ?_ ?_
            rotate_left
            ·show Act.put _ (some 80) _ = _
             simp only [Act.put, Cmp.s, Cmp.z, Cmp.c, i64_w, i32_w]; rfl
            refine Cmp.pu HT_ 14 81 (Cmp.bm 15 1) ?_
            refine one_ (i := 15) (N := none) (Cmp.bm 16 0) rfl rfl (one_of HT_.out (by kernel_rfl)) (by decide) (fun K hK => ?_)
            have hs104 : w102.cell? ⟨Dh, 0, none⟩ = some (.slice Df D8.length Da) := (blk_cell D4.out 0).trans rfl
            have hfs104 := blk_frozen D4.out 0; have hns104_0 := Dk.out; have hns104_1 := Dp.out; have hns104_3 := De.out; have hms104_0 := Dq.out; have hms104_1 := Dr.out; have hms104_3 := El.out
            refine skip_ (w1 := ?_) (by rfl) rfl ?_ ?_
            rotate_left
            ·go_simp; rfl
            refine hK.out _ _ ⟨((cell_far (p := ⟨Dh, _, none⟩) Dk.out _).trans (hHeld.1)), ((cell_far (p := ⟨Dh, _, none⟩) De.out _).trans (hHeld.2.1)), ((cell_far (p := ⟨Dh, _, none⟩) De.out _).trans (hHeld.2.2.1)), ((cell_far (p := ⟨Dh, _, none⟩) De.out _).trans (hHeld.2.2.2.1)), ((cell_far (p := ⟨Dh, _, none⟩) De.out _).trans (hHeld.2.2.2.2))⟩ (fun hHeld => ?_)
            clear hK K
            refine done_ (done_of HT_.out (by kernel_rfl)) ?_
            try go_wp2
            go_meet
            case rel => exact ⟨_, (Gf), (.slice Gj Gf.length Gx), H', ⟨by have := HK1.out; first | omega | exact Nat.le_refl _⟩, ⟨by (with_reducible repeat (first | apply Kd.R_alloc | apply Kd.R_drewN | apply Kd.R_drew)); exact Kd.R_mono (Kd.R_far (p := ⟨Dh, 0, none⟩) (Kd.R_types Gp.out D4.out (by decide)) (fun _ hk => hk.2) (.slice Gj Gf.length Gx)) (fun _ hk => trivial)⟩, ⟨Cmp.bw D2.out⟩, ⟨Cmp.bw D3.out⟩, ⟨Cmp.bw D4.out⟩, ⟨Cmp.g HB.out⟩⟩
           ·rw [if_neg c89] at H; exact absurd H (by simp)
          ·rw [if_neg c86] at H; exact absurd H (by simp)
         ·rw [if_neg c85] at H; exact absurd H (by simp)
        ·rw [if_neg c84] at H; exact absurd H (by simp)
       ·rw [if_neg c83] at H; exact absurd H (by simp)
  case rest =>
   clear HC8; (try clear c1); (try clear p2); (try clear c4); (try clear c8); (try clear c9); (try clear q9); (try clear c83); (try clear c84); (try clear c85); (try clear c86); (try clear c89); (try clear q92); (try clear c93); (try clear q93); (try clear q093); (try clear q92); (try clear q93)
   obtain ⟨kq, Dl, Ek, HA, HJ7, D0, D2, D3, D4, HB⟩ := hcut
   cases kq with
   | zero => exact absurd HA.out (by simp [impl_PutEntry.j1])
   | succ kj7 =>
    have H := HA.out; clear HA
    simp only [impl_PutEntry.j1] at H
    replace H := Option.bind_eq_some_iff.mp H; obtain ⟨Lh, Gg, H⟩ := H; (try dsimp only at H); have Jk := Aside0.mk Gg; clear Gg
    by_cases c106 : Lh = true
    ·subst c106; rw [if_pos rfl] at H
     simp only [Option.some.injEq, Prod.mk.injEq] at H
     obtain ⟨rfl, rfl⟩ := H; have L2 := Dq.out; have L9 := Dk.out; have L3 := Dr.out; have La := Dp.out
     have Kg : wc.cell? ⟨Dh, 0, none⟩ = some (Ek) := (blk_cell D4.out 0).trans rfl
     have Kp := blk_frozen D4.out 0
     obtain ⟨Ff, Fi, K3⟩ := Kd.R_slice D0.out
     subst K3
     go_wp2_with (first | ((with_reducible refine gate_callee (f := 57) rfl ?_); refine goesL_ (some 83) rfl rfl Try.func57 (by kernel_rfl) rfl #[.agg #[.slice Ff Dl.length Fi]] rfl Cmp.q ?_; (with_reducible refine (impl_IsBundle.calls kj7 _ _ Dl true _ ?side1 ?side2 Jk.out).mono ?_); (case side1 => exact Cmp.rc (Kd.R_reads' D0.out).2.2); (case side2 => exact (Kd.R_reads' D0.out).2.1); rintro e w111 ⟨rfl, hb⟩; refine ⟨_, rfl, ?_⟩; replace D0 := Aside0.mk (Kd.R_below (Cmp.rr D0.out) hb); replace D2 := Cmp.be D2 hb; replace D3 := Cmp.be D3 hb; replace D4 := Cmp.be D4 hb; replace HB := Cmp.bs HB hb; (try clear hb); (try clear hb2); (try clear hk); (try clear hi); have Kh := Cmp.c0 D4; have Kq := blk_frozen D4.out 0; have L4 := Do.out; have Lb := Dn.out; have Ki := Cmp.c0 D3; have Kr := blk_frozen D3.out 0))
     refine bodyPost_ret (results_ct rfl _ _ Dw 41 #[.slice Ff Dl.length Fi] (0, 0) _ rfl (Cmp.bw D3.out) Try.underlying41 rfl (by kernel_rfl)) rfl ?_
     exact ⟨_, by first | rfl | (simp [errW_none, errW_some] <;> rfl) | (simp [*, errW_none, errW_some] <;> rfl), by (with_reducible repeat (first | apply Kd.R_alloc | apply Kd.R_drewN | apply Kd.R_drew)); exact Kd.R_mono (Kd.R_far (p := ⟨Dw, 0, none⟩) (Kd.R_types D0.out D3.out (by decide)) (fun _ hk => hk.2) (.slice Ff Dl.length Fi)) (fun _ hk => trivial), Cmp.g HB.out⟩
    ·replace c106 := Bool.eq_false_iff.mpr c106
     subst c106
     have H1 : ((impl_copyBundle.f l0_0).bind fun Fl => (some (Fl, false))) = some (r1, r2) := by rw [if_neg (show ¬ (false = true) by decide)] at H; exact H
     clear H; have H := H1; clear H1; replace H := Option.bind_eq_some_iff.mp H; obtain ⟨Fl, Gh, H⟩ := H; (try dsimp only at H); have Ky := Aside0.mk Gh; clear Gh
     simp only [Option.some.injEq, Prod.mk.injEq] at H
     obtain ⟨rfl, rfl⟩ := H; have L5 := Dq.out; have Lc := Dk.out; have L6 := Dr.out; have Ld := Dp.out
     have Kj : wc.cell? ⟨Dh, 0, none⟩ = some (Ek) := (blk_cell D4.out 0).trans rfl
     have Ks := blk_frozen D4.out 0
     obtain ⟨Jn, K0, K4⟩ := Kd.R_slice D0.out
     subst K4
     go_wp2_with (first | ((with_reducible refine gate_callee (f := 57) rfl ?_); refine goesL_ (some 83) rfl rfl Try.func57 (by kernel_rfl) rfl #[.agg #[.slice Jn Dl.length K0]] rfl Cmp.q ?_; (with_reducible refine (impl_IsBundle.calls kj7 _ _ Dl false _ ?side1 ?side2 Jk.out).mono ?_); (case side1 => exact Cmp.rc (Kd.R_reads' D0.out).2.2); (case side2 => exact (Kd.R_reads' D0.out).2.1); rintro e w120 ⟨rfl, hb⟩; refine ⟨_, rfl, ?_⟩; replace D0 := Aside0.mk (Kd.R_below (Cmp.rr D0.out) hb); replace D2 := Cmp.be D2 hb; replace D3 := Cmp.be D3 hb; replace D4 := Cmp.be D4 hb; replace HB := Cmp.bs HB hb; (try clear hb); (try clear hb2); (try clear hk); (try clear hi); have L7 := Dn.out; have Le := Do.out; have Kk := Cmp.c0 D2; have Kt := blk_frozen D2.out 0) | ((with_reducible refine gate_callee (f := 58) rfl ?_); refine goesL_ (some 86) rfl rfl Try.func58 (by kernel_rfl) rfl #[.agg #[.slice A0_0 l0_0.length c0_0]] rfl Cmp.q ?_; (with_reducible refine (impl_copyBundle.calls _ _ l0_0 Fl _ ?side1 ?side2 Ky.out).mono ?_); (case side1 => exact Cmp.rc (Kd.C_below E1.out HB.out)); (case side2 => exact HC0_0.out); rintro e w123 ⟨v494, rfl, Fe, hb⟩; refine ⟨_, rfl, ?_⟩; have Gq := Aside0.mk (Kd.R_lower (Kd.R_new' Fe (Kd.R_lt (Cmp.rr D0.out))) (below_size (Cmp.g HB.out))); replace D0 := Aside0.mk (Kd.R_elder' (Cmp.rr D0.out) (Kd.R_base Fe) hb); replace D2 := Cmp.be D2 hb; replace D3 := Cmp.be D3 hb; replace D4 := Cmp.be D4 hb; replace HB := Cmp.bs HB hb; (try clear hb); (try clear hb2); (try clear hk); (try clear hi); (try clear Fe); obtain ⟨Gk, Gy, K5⟩ := Kd.R_slice Gq.out; subst K5; have Kl := Cmp.c0 D3; have Ku := blk_frozen D3.out 0))
     refine bodyPost_ret (results_ct rfl _ _ Dw 41 #[.slice Gk Fl.length Gy] (0, 0) _ rfl (Cmp.bw D3.out) Try.underlying41 rfl (by kernel_rfl)) rfl ?_
     exact ⟨_, by first | rfl | (simp [errW_none, errW_some] <;> rfl) | (simp [*, errW_none, errW_some] <;> rfl), by (with_reducible repeat (first | apply Kd.R_alloc | apply Kd.R_drewN | apply Kd.R_drew)); exact Kd.R_mono (Kd.R_far (p := ⟨Dw, 0, none⟩) (Kd.R_types Gq.out D3.out (by decide)) (fun _ hk => hk.2) (.slice Gk Fl.length Gy)) (fun _ hk => trivial), Cmp.g HB.out⟩
 ·replace c5 := Bool.eq_false_iff.mpr c5
  subst c5
  have H1 : ((impl_copyBundle.f l0_0).bind fun F3 => (some (F3, false))) = some (r1, r2) := by rw [if_neg (show ¬ (false = true) by decide)] at H; exact H
  clear H; have H := H1; clear H1; replace H := Option.bind_eq_some_iff.mp H; obtain ⟨F3, Gi, H⟩ := H; (try dsimp only at H); have Kz := Aside0.mk Gi; clear Gi
  simp only [Option.some.injEq, Prod.mk.injEq] at H
  obtain ⟨rfl, rfl⟩ := H
  go_enter Try.func28, Try.ntmps28
  go_wp2_with (first | ((with_reducible refine gate_dst (N := 3) rfl ?_); refine box_event ?hg (N := 3) ?hd (cs := #[.slice A0_0 l0_0.length c0_0]) (t := 41) ?hr ?_; (case hd => rfl); (case hg => rfl); (case hr => first | (go_simp; done) | (go_simp; rfl)); intro Ds hg w127 hbox hb; have D2 := Aside0.mk (hbox); have Js := Cmp.gw hg HB; have Jq := Cmp.gw hg HB; replace HB := Cmp.bs HB hb; clear hb hbox hg) | ((with_reducible refine gate_dst (N := 6) rfl ?_); refine box_event ?hg (N := 6) ?hd (cs := #[.slice none 0 0]) (t := 41) ?hr ?_; (case hd => rfl); (case hg => rfl); (case hr => first | (go_simp; done) | (go_simp; rfl)); intro Dw hg w128 hbox hb; have D3 := Aside0.mk (hbox); have Jt := Cmp.gw hg HB; have Jr := Cmp.gw hg HB; have Dn := Cmp.nl hg D2; have Do := Cmp.ng hg D2; replace D2 := Cmp.be D2 hb; replace HB := Cmp.bs HB hb; clear hb hbox hg; have L8 := Dn.out; have Lf := Do.out; have Km := Cmp.c0 D2; have Kv := blk_frozen D2.out 0) | ((with_reducible refine gate_callee (f := 57) rfl ?_); refine goesL_ (some 13) rfl rfl Try.func57 (by kernel_rfl) rfl #[.agg #[.slice A0_0 l0_0.length c0_0]] rfl Cmp.q ?_; (with_reducible refine (impl_IsBundle.calls k _ _ l0_0 false _ ?side1 ?side2 A4.out).mono ?_); (case side1 => exact Cmp.rc (Kd.C_below E1.out HB.out)); (case side2 => exact HC0_0.out); rintro e w131 ⟨rfl, hb⟩; refine ⟨_, rfl, ?_⟩; replace D2 := Cmp.be D2 hb; replace D3 := Cmp.be D3 hb; replace HB := Cmp.bs HB hb; (try clear hb); (try clear hb2); (try clear hk); (try clear hi); have Kn := Cmp.c0 D2; have Kw := blk_frozen D2.out 0) | ((with_reducible refine gate_callee (f := 58) rfl ?_); refine goesL_ (some 16) rfl rfl Try.func58 (by kernel_rfl) rfl #[.agg #[.slice A0_0 l0_0.length c0_0]] rfl Cmp.q ?_; (with_reducible refine (impl_copyBundle.calls _ _ l0_0 F3 _ ?side1 ?side2 Kz.out).mono ?_); (case side1 => exact Cmp.rc (Kd.C_below E1.out HB.out)); (case side2 => exact HC0_0.out); rintro e w133 ⟨v429, rfl, Fe, hb⟩; refine ⟨_, rfl, ?_⟩; have Gm := Aside0.mk (Kd.R_lower Fe (below_size (Cmp.g HB.out))); replace D2 := Cmp.be D2 hb; replace D3 := Cmp.be D3 hb; replace HB := Cmp.bs HB hb; (try clear hb); (try clear hb2); (try clear hk); (try clear hi); (try clear Fe); obtain ⟨Gl, Gz, K6⟩ := Kd.R_slice Gm.out; subst K6; have Ko := Cmp.c0 D3; have Kx := blk_frozen D3.out 0))
  refine bodyPost_ret (results_ct rfl _ _ Dw 41 #[.slice Gl F3.length Gz] (0, 0) _ rfl (Cmp.bw D3.out) Try.underlying41 rfl (by kernel_rfl)) rfl ?_
  exact ⟨_, by first | rfl | (simp [errW_none, errW_some] <;> rfl) | (simp [*, errW_none, errW_some] <;> rfl), by (with_reducible repeat (first | apply Kd.R_alloc | apply Kd.R_drewN | apply Kd.R_drew)); exact Kd.R_mono (Kd.R_far (p := ⟨Dw, 0, none⟩) (Kd.R_types Gm.out D3.out (by decide)) (fun _ hk => hk.2) (.slice Gl F3.length Gz)) (fun _ hk => trivial), Cmp.g HB.out⟩

end Go.Proofs.Ytoffbjjkegeccaa.PFnDeletion
