/- The law FnExactAppendEntry's own function, walked where it answers true. No condition. -/
import Derived.Test.YtpgjecknkmmnhaaCmp
import Derived.Test.YtpgjecknkmmnhaaPFnExactAppendEntryx0
import Derived.Test.YtpgjecknkmmnhaaPFnExactAppendEntryx5
import Derived.Test.YtpgjecknkmmnhaaPFnExactAppendEntryx10
import Derived.Test.YtpgjecknkmmnhaaPFnExactAppendEntryx11
import Derived.Test.YtpgjecknkmmnhaaPFnExactAppendEntryx12
namespace Go.Proofs.Ytpgjecknkmmnhaa.PFnExactAppendEntry
open Go.Proofs.Ytpgjecknkmmnhaa
open Go.RowKit Go.Proofs.YtpgjecknkmmnhaaW.PrintWords Go.Proofs.YtpgjecknkmmnhaaW.PrintLast Go.Proofs.YtpgjecknkmmnhaaW.PrintMore
attribute [local go_sem] max2_int min2_int max_two min_two max_three min_three max_four min_four   -- for this text's walks alone
set_option linter.unusedVariables false
set_option linter.unusedSimpArgs false

/-! ### laws_FnExactAppendEntry: function 4 -/
mutual
def laws_FnExactAppendEntry.j0 : Nat → List (S78) → Int → Int → List (S74) → Bool → List (S74) → List (S74) → Bool → Bool → Int → Int → Int → Int → Option (Bool)
  | 0, _, _, _, _, _, _, _, _, _, _, _, _, _ => none
  | k + 1, x0, x1, x2, x10, x11, x12, x13, x14, x54, x409000, x409001, x409002, x409003 => if x54 = true then (some false) else ((laws_toLogEntryS.f k x0).bind fun t433 => ((laws_eqLogEntryS.f k x12 t433).bind fun t436 => (if t436 = true then ((laws_markLogEntryS.f k x12 1).bind fun bt437 => (if bt437.1 < 0 then (laws_FnExactAppendEntry.j1 k x0 x1 x2 x10 x11 x13 true x409000 x409001 x409002 x409003) else ((laws_eqLogEntryS.f k x13 x10).bind fun t439 => (if t439 = true then (laws_FnExactAppendEntry.j1 k x0 x1 x2 x10 x11 x13 (x14 != x11) x409000 x409001 x409002 x409003) else (laws_FnExactAppendEntry.j1 k x0 x1 x2 x10 x11 x13 true x409000 x409001 x409002 x409003))))) else (some false))))
def laws_FnExactAppendEntry.j1 : Nat → List (S78) → Int → Int → List (S74) → Bool → List (S74) → Bool → Int → Int → Int → Int → Option (Bool)
  | 0, _, _, _, _, _, _, _, _, _, _, _ => none
  | k + 1, x0, x1, x2, x10, x11, x13, x75, x409000, x409001, x409002, x409003 => if x75 = true then (some false) else ((laws_markLogEntryS.f k x13 1).bind fun bt440 => ((laws_heldLogEntryS.f k bt440.2 1).bind fun t442 => (if t442 < 0 then (some false) else (if t442 = bt440.1 then ((laws_toLogEntryS.f k x0).bind fun t443 => ((laws_toKeyStore.f x409000 x409001 x409002 x409003).bind fun bt446 => ((impl_AppendEntry.f k t443 x1 x2 bt446.1 bt446.2.1 bt446.2.2.1 bt446.2.2.2).bind fun bt450 => ((laws_eqLogEntryS.f k bt450.1 x10).bind fun t454 => (if t454 = true then (laws_FnExactAppendEntry.j2 k bt440.2 bt440.1 (bt450.2 != x11)) else (laws_FnExactAppendEntry.j2 k bt440.2 bt440.1 true)))))) else (some false)))))
def laws_FnExactAppendEntry.j2 : Nat → List (S74) → Int → Bool → Option (Bool)
  | 0, _, _, _ => none
  | k + 1, x13, x16, x105 => if x105 = true then (some false) else ((laws_heldLogEntryS.f k x13 1).bind fun t455 => (if t455 < 0 then (some false) else (if t455 = x16 then (some true) else (some false))))
end
def laws_FnExactAppendEntry.f (k : Nat) (l0 : List (S78)) (a1 : Int) (a2 : Int) (a3_0 : Int) (a3_1 : Int) (a3_2 : Int) (a3_3 : Int) : Option (Bool) := (laws_szLogEntryS.f l0 1048576).bind fun t409 => (if t409 < 0 then (some true) else ((laws_toLogEntryS.f k l0).bind fun t410 => ((laws_toKeyStore.f a3_0 a3_1 a3_2 a3_3).bind fun bt413 => ((spec_AppendEntry.f k t410 a1 a2 bt413.1 bt413.2.1 bt413.2.2.1 bt413.2.2.2).bind fun bt417 => ((laws_toLogEntryS.f k l0).bind fun t421 => ((laws_toKeyStore.f a3_0 a3_1 a3_2 a3_3).bind fun bt424 => ((impl_AppendEntry.f k t421 a1 a2 bt424.1 bt424.2.1 bt424.2.2.1 bt424.2.2.2).bind fun bt428 => ((laws_eqLogEntryS.f k bt428.1 bt417.1).bind fun t432 => (if t432 = true then (laws_FnExactAppendEntry.j0 k l0 a1 a2 bt417.1 bt417.2 t421 bt428.1 bt428.2 (bt428.2 != bt417.2) a3_0 a3_1 a3_2 a3_3) else (laws_FnExactAppendEntry.j0 k l0 a1 a2 bt417.1 bt417.2 t421 bt428.1 bt428.2 true a3_0 a3_1 a3_2 a3_3))))))))))
theorem laws_FnExactAppendEntry.mono_l : ∀ k, (∀ y0 y1 y2 y3 y4 y5 y6 y7 y8 y9 y10 y11 y12, LeO (laws_FnExactAppendEntry.j0 k y0 y1 y2 y3 y4 y5 y6 y7 y8 y9 y10 y11 y12) (laws_FnExactAppendEntry.j0 (k + 1) y0 y1 y2 y3 y4 y5 y6 y7 y8 y9 y10 y11 y12)) ∧ (∀ y0 y1 y2 y3 y4 y5 y6 y7 y8 y9 y10, LeO (laws_FnExactAppendEntry.j1 k y0 y1 y2 y3 y4 y5 y6 y7 y8 y9 y10) (laws_FnExactAppendEntry.j1 (k + 1) y0 y1 y2 y3 y4 y5 y6 y7 y8 y9 y10)) ∧ (∀ y0 y1 y2, LeO (laws_FnExactAppendEntry.j2 k y0 y1 y2) (laws_FnExactAppendEntry.j2 (k + 1) y0 y1 y2))
  | 0 => ⟨fun _ _ _ _ _ _ _ _ _ _ _ _ _ r h => by simp [laws_FnExactAppendEntry.j0] at h, fun _ _ _ _ _ _ _ _ _ _ _ r h => by simp [laws_FnExactAppendEntry.j1] at h, fun _ _ _ r h => by simp [laws_FnExactAppendEntry.j2] at h⟩
  | k + 1 => by
    obtain ⟨ih0, ih1, ih2⟩ := laws_FnExactAppendEntry.mono_l k
    refine ⟨?_, ?_, ?_⟩
    · intro y0 y1 y2 y3 y4 y5 y6 y7 y8 y9 y10 y11 y12
      unfold laws_FnExactAppendEntry.j0
      repeat' first
      | (with_reducible exact ih0 _ _ _ _ _ _ _ _ _ _ _ _ _)
      | (with_reducible exact ih1 _ _ _ _ _ _ _ _ _ _ _)
      | (with_reducible exact ih2 _ _ _)
      | (with_reducible exact impl_AppendEntry.mono _ _ _ _ _ _ _ _)
      | (with_reducible exact laws_eqLogEntryS.mono _ _ _)
      | (with_reducible exact laws_heldLogEntryS.mono _ _ _)
      | (with_reducible exact laws_markLogEntryS.mono _ _ _)
      | (with_reducible exact laws_toLogEntryS.mono _ _)
      | (with_reducible exact spec_AppendEntry.mono _ _ _ _ _ _ _ _)
      | (with_reducible exact LeO.refl _)
      | (with_reducible exact LeO.none _)
      | (with_reducible refine LeO.ite ?_ ?_)
      | (with_reducible refine LeO.bind ?_ (fun _ => ?_))
      | exact ih0 _ _ _ _ _ _ _ _ _ _ _ _ _
      | exact ih1 _ _ _ _ _ _ _ _ _ _ _
      | exact ih2 _ _ _
      | exact impl_AppendEntry.mono _ _ _ _ _ _ _ _
      | exact laws_eqLogEntryS.mono _ _ _
      | exact laws_heldLogEntryS.mono _ _ _
      | exact laws_markLogEntryS.mono _ _ _
      | exact laws_toLogEntryS.mono _ _
      | exact spec_AppendEntry.mono _ _ _ _ _ _ _ _
      | exact LeO.none _
      | refine LeO.ite ?_ ?_
      | refine LeO.bind ?_ (fun _ => ?_)
    · intro y0 y1 y2 y3 y4 y5 y6 y7 y8 y9 y10
      unfold laws_FnExactAppendEntry.j1
      repeat' first
      | (with_reducible exact ih0 _ _ _ _ _ _ _ _ _ _ _ _ _)
      | (with_reducible exact ih1 _ _ _ _ _ _ _ _ _ _ _)
      | (with_reducible exact ih2 _ _ _)
      | (with_reducible exact impl_AppendEntry.mono _ _ _ _ _ _ _ _)
      | (with_reducible exact laws_eqLogEntryS.mono _ _ _)
      | (with_reducible exact laws_heldLogEntryS.mono _ _ _)
      | (with_reducible exact laws_markLogEntryS.mono _ _ _)
      | (with_reducible exact laws_toLogEntryS.mono _ _)
      | (with_reducible exact spec_AppendEntry.mono _ _ _ _ _ _ _ _)
      | (with_reducible exact LeO.refl _)
      | (with_reducible exact LeO.none _)
      | (with_reducible refine LeO.ite ?_ ?_)
      | (with_reducible refine LeO.bind ?_ (fun _ => ?_))
      | exact ih0 _ _ _ _ _ _ _ _ _ _ _ _ _
      | exact ih1 _ _ _ _ _ _ _ _ _ _ _
      | exact ih2 _ _ _
      | exact impl_AppendEntry.mono _ _ _ _ _ _ _ _
      | exact laws_eqLogEntryS.mono _ _ _
      | exact laws_heldLogEntryS.mono _ _ _
      | exact laws_markLogEntryS.mono _ _ _
      | exact laws_toLogEntryS.mono _ _
      | exact spec_AppendEntry.mono _ _ _ _ _ _ _ _
      | exact LeO.none _
      | refine LeO.ite ?_ ?_
      | refine LeO.bind ?_ (fun _ => ?_)
    · intro y0 y1 y2
      unfold laws_FnExactAppendEntry.j2
      repeat' first
      | (with_reducible exact ih0 _ _ _ _ _ _ _ _ _ _ _ _ _)
      | (with_reducible exact ih1 _ _ _ _ _ _ _ _ _ _ _)
      | (with_reducible exact ih2 _ _ _)
      | (with_reducible exact impl_AppendEntry.mono _ _ _ _ _ _ _ _)
      | (with_reducible exact laws_eqLogEntryS.mono _ _ _)
      | (with_reducible exact laws_heldLogEntryS.mono _ _ _)
      | (with_reducible exact laws_markLogEntryS.mono _ _ _)
      | (with_reducible exact laws_toLogEntryS.mono _ _)
      | (with_reducible exact spec_AppendEntry.mono _ _ _ _ _ _ _ _)
      | (with_reducible exact LeO.refl _)
      | (with_reducible exact LeO.none _)
      | (with_reducible refine LeO.ite ?_ ?_)
      | (with_reducible refine LeO.bind ?_ (fun _ => ?_))
      | exact ih0 _ _ _ _ _ _ _ _ _ _ _ _ _
      | exact ih1 _ _ _ _ _ _ _ _ _ _ _
      | exact ih2 _ _ _
      | exact impl_AppendEntry.mono _ _ _ _ _ _ _ _
      | exact laws_eqLogEntryS.mono _ _ _
      | exact laws_heldLogEntryS.mono _ _ _
      | exact laws_markLogEntryS.mono _ _ _
      | exact laws_toLogEntryS.mono _ _
      | exact spec_AppendEntry.mono _ _ _ _ _ _ _ _
      | exact LeO.none _
      | refine LeO.ite ?_ ?_
      | refine LeO.bind ?_ (fun _ => ?_)
theorem laws_FnExactAppendEntry.mono : ∀ a0 a1 a2 a3 a4 a5 a6 k, LeO (laws_FnExactAppendEntry.f k a0 a1 a2 a3 a4 a5 a6) (laws_FnExactAppendEntry.f (k + 1) a0 a1 a2 a3 a4 a5 a6) := by
  intro a0 a1 a2 a3 a4 a5 a6 k
  obtain ⟨ih0, ih1, ih2⟩ := laws_FnExactAppendEntry.mono_l k
  unfold laws_FnExactAppendEntry.f
  repeat' first
      | (with_reducible exact ih0 _ _ _ _ _ _ _ _ _ _ _ _ _)
      | (with_reducible exact ih1 _ _ _ _ _ _ _ _ _ _ _)
      | (with_reducible exact ih2 _ _ _)
      | (with_reducible exact impl_AppendEntry.mono _ _ _ _ _ _ _ _)
      | (with_reducible exact laws_eqLogEntryS.mono _ _ _)
      | (with_reducible exact laws_heldLogEntryS.mono _ _ _)
      | (with_reducible exact laws_markLogEntryS.mono _ _ _)
      | (with_reducible exact laws_toLogEntryS.mono _ _)
      | (with_reducible exact spec_AppendEntry.mono _ _ _ _ _ _ _ _)
      | (with_reducible exact LeO.refl _)
      | (with_reducible exact LeO.none _)
      | (with_reducible refine LeO.ite ?_ ?_)
      | (with_reducible refine LeO.bind ?_ (fun _ => ?_))
      | exact ih0 _ _ _ _ _ _ _ _ _ _ _ _ _
      | exact ih1 _ _ _ _ _ _ _ _ _ _ _
      | exact ih2 _ _ _
      | exact impl_AppendEntry.mono _ _ _ _ _ _ _ _
      | exact laws_eqLogEntryS.mono _ _ _
      | exact laws_heldLogEntryS.mono _ _ _
      | exact laws_markLogEntryS.mono _ _ _
      | exact laws_toLogEntryS.mono _ _
      | exact spec_AppendEntry.mono _ _ _ _ _ _ _ _
      | exact LeO.none _
      | refine LeO.ite ?_ ?_
      | refine LeO.bind ?_ (fun _ => ?_)
def laws_FnExactAppendEntry.T5 : Bool × List (List Nat × List Nat) := (true, [([], []), ([0], [0]), ([], []), ([], []), ([], []), ([4, 1], [4]), ([1, 2, 3, 5, 5], [1, 2, 3, 5]), ([6], [6]), ([7], [7]), ([7], [7]), ([8, 6, 0, 1, 2, 3, 4, 5, 6, 7, 8], [8]), ([9, 10, 0, 1, 2, 3, 4, 5, 6, 7, 8, 9, 10], [9])])
def laws_FnExactAppendEntry.B5 : List Nat := [0, 1, 0, 0, 0, 19, 63, 127, 255, 255, 511, 2047]
theorem laws_FnExactAppendEntry.tab5 : rtab .any (opsOf Try.f4 5) = laws_FnExactAppendEntry.T5 := by kernel_rfl
theorem laws_FnExactAppendEntry.bits5 : waitsOk laws_FnExactAppendEntry.T5.2 laws_FnExactAppendEntry.B5 = true := by kernel_rfl
def laws_FnExactAppendEntry.T24 : Bool × List (List Nat × List Nat) := (true, [([], []), ([0], [0]), ([], []), ([], []), ([], []), ([4, 1], [4]), ([1, 2, 3, 5, 5], [1, 2, 3, 5]), ([6], [6]), ([7], [7]), ([7], [7]), ([8, 6, 0, 1, 2, 3, 4, 5, 6, 7, 8], [8]), ([9, 10, 0, 1, 2, 3, 4, 5, 6, 7, 8, 9, 10], [9])])
def laws_FnExactAppendEntry.B24 : List Nat := [0, 1, 0, 0, 0, 19, 63, 127, 255, 255, 511, 2047]
theorem laws_FnExactAppendEntry.tab24 : rtab .any (opsOf Try.f4 24) = laws_FnExactAppendEntry.T24 := by kernel_rfl
theorem laws_FnExactAppendEntry.bits24 : waitsOk laws_FnExactAppendEntry.T24.2 laws_FnExactAppendEntry.B24 = true := by kernel_rfl
set_option maxHeartbeats 8000000 in
set_option maxRecDepth 100000 in
theorem laws_FnExactAppendEntry.calls (k : Nat) (A0 : Option Addr) (c0 : Nat) (l0 : List (S78)) (a1 : Int) (a2 : Int) (a3_0 : Int) (a3_1 : Int) (a3_2 : Int) (a3_3 : Int) (w : World) (hr0 : Kd.C k78 w A0 l0.length l0) (hc0 : l0.length ≤ c0) (h : laws_FnExactAppendEntry.f k l0 a1 a2 a3_0 a3_1 a3_2 a3_3 = some true) :
    Calls Try.prog 4 #[.slice A0 l0.length c0, .int .i64 a1, .int .i64 a2, .agg #[.int .i64 a3_0, .int .i64 a3_1, .int .i64 a3_2, .int .i64 a3_3]] w fun e w' => e = .returned (.bool true) ∧ Below w.heap.size w w' := by
 have hu36 := Try.underlying36; have HR0 := Aside0.mk hr0; have HC0 := Aside0.mk hc0; clear hr0 hc0
 have HB := Aside0.mk (Below.refl w.heap.size w)
 have H : ((laws_szLogEntryS.f l0 1048576).bind fun t409 => (if t409 < 0 then (some true) else ((laws_toLogEntryS.f k l0).bind fun t410 => ((laws_toKeyStore.f a3_0 a3_1 a3_2 a3_3).bind fun bt413 => ((spec_AppendEntry.f k t410 a1 a2 bt413.1 bt413.2.1 bt413.2.2.1 bt413.2.2.2).bind fun bt417 => ((laws_toLogEntryS.f k l0).bind fun t421 => ((laws_toKeyStore.f a3_0 a3_1 a3_2 a3_3).bind fun bt424 => ((impl_AppendEntry.f k t421 a1 a2 bt424.1 bt424.2.1 bt424.2.2.1 bt424.2.2.2).bind fun bt428 => ((laws_eqLogEntryS.f k bt428.1 bt417.1).bind fun t432 => (if t432 = true then (laws_FnExactAppendEntry.j0 k l0 a1 a2 bt417.1 bt417.2 t421 bt428.1 bt428.2 (bt428.2 != bt417.2) a3_0 a3_1 a3_2 a3_3) else (laws_FnExactAppendEntry.j0 k l0 a1 a2 bt417.1 bt417.2 t421 bt428.1 bt428.2 true a3_0 a3_1 a3_2 a3_3))))))))))) = some true := h
 clear h; replace H := Option.bind_eq_some_iff.mp H; obtain ⟨t409, A50, H⟩ := H; (try dsimp only at H); have A5 := Aside0.mk A50; clear A50
 by_cases c6 : t409 < 0
 ·rw [if_pos c6] at H; have c6b0 : decide (t409 < 0) = true := decide_eq_true c6; clear c6; clear H
  go_enter Try.func4, Try.ntmps4
  go_wp2_with (first | ((with_reducible refine gate_dst (N := 7) rfl ?_); refine box_event ?hg (N := 7) ?hd (cs := #[.int .i64 a3_0, .int .i64 a3_1, .int .i64 a3_2, .int .i64 a3_3]) (t := 36) ?hr ?_; (case hd => rfl); (case hg => rfl); (case hr => first | (go_simp; done) | (go_simp; rfl)); intro gb408 hg w7 hbox hb; have n0_ := Aside0.mk (below_step (Cmp.g HB.out) hb); have n1_ := Aside0.mk (hbox); have n2_ := Aside0.mk ((by rw [hg]; exact (below_size (Cmp.g HB.out)) : w.heap.size ≤ gb408)); have n3_ := Aside0.mk ((by rw [hg]; exact (below_size (Cmp.g HB.out)) : w.heap.size ≤ gb408)); clear HB; have HB := n0_; have BK408 := n1_; have GW408 := n2_; have GE408 := n3_; clear n0_ n1_ n2_ n3_; clear hb hbox hg) | ((with_reducible refine gate_callee (f := 14) rfl ?_); refine goesL_ (some 22) rfl rfl Try.func14 (by kernel_rfl) rfl #[.slice A0 l0.length c0, .int .i64 1048576] rfl Cmp.q ?_; (with_reducible refine (laws_szLogEntryS.calls _ _ l0 1048576 t409 _ ?side1 ?side2 A5.out).mono ?_); (case side1 => exact Cmp.rc (Kd.C_below HR0.out HB.out)); (case side2 => exact HC0.out); rintro e w' ⟨rfl, ⟨nd, rfl⟩⟩; refine ⟨_, rfl, ?_⟩))
  go_ret
  exact ⟨by first | rfl | (simp [errW_none, errW_some] <;> rfl) | (simp [*, errW_none, errW_some] <;> rfl), Cmp.g HB.out⟩
 ·rw [if_neg c6] at H; have c6b0 : decide (t409 < 0) = false := decide_eq_false c6; clear c6; replace H := Option.bind_eq_some_iff.mp H; obtain ⟨t410, A80, H⟩ := H; (try dsimp only at H); have A8 := Aside0.mk A80; clear A80; replace H := Option.bind_eq_some_iff.mp H; obtain ⟨⟨t413, t414, t415, t416⟩, A90, H⟩ := H; (try dsimp only at H); have A9 := Aside0.mk A90; clear A90; replace H := Option.bind_eq_some_iff.mp H; obtain ⟨⟨t417, t420⟩, A100, H⟩ := H; (try dsimp only at H); have A10 := Aside0.mk A100; clear A100; replace H := Option.bind_eq_some_iff.mp H; obtain ⟨t421, A110, H⟩ := H; (try dsimp only at H); have A11 := Aside0.mk A110; clear A110; replace H := Option.bind_eq_some_iff.mp H; obtain ⟨⟨t424, t425, t426, t427⟩, A120, H⟩ := H; (try dsimp only at H); have A12 := Aside0.mk A120; clear A120; replace H := Option.bind_eq_some_iff.mp H; obtain ⟨⟨t428, t431⟩, A130, H⟩ := H; (try dsimp only at H); have A13 := Aside0.mk A130; clear A130; have HC14 := Aside0.mk H; clear H
  go_enter Try.func4, Try.ntmps4
  try go_wp2_with (first | ((with_reducible refine gate_dst (N := 7) rfl ?_); refine box_event ?hg (N := 7) ?hd (cs := #[.int .i64 a3_0, .int .i64 a3_1, .int .i64 a3_2, .int .i64 a3_3]) (t := 36) ?hr ?_; (case hd => rfl); (case hg => rfl); (case hr => first | (go_simp; done) | (go_simp; rfl)); intro gb408 hg w15 hbox hb; have n0_ := Aside0.mk (below_step (Cmp.g HB.out) hb); have n1_ := Aside0.mk (hbox); have n2_ := Aside0.mk ((by rw [hg]; exact (below_size (Cmp.g HB.out)) : w.heap.size ≤ gb408)); have n3_ := Aside0.mk ((by rw [hg]; exact (below_size (Cmp.g HB.out)) : w.heap.size ≤ gb408)); clear HB; have HB := n0_; have BK408 := n1_; have GW408 := n2_; have GE408 := n3_; clear n0_ n1_ n2_ n3_; clear hb hbox hg) | ((with_reducible refine gate_callee (f := 14) rfl ?_); refine goesL_ (some 22) rfl rfl Try.func14 (by kernel_rfl) rfl #[.slice A0 l0.length c0, .int .i64 1048576] rfl Cmp.q ?_; (with_reducible refine (laws_szLogEntryS.calls _ _ l0 1048576 t409 _ ?side1 ?side2 A5.out).mono ?_); (case side1 => exact Cmp.rc (Kd.C_below HR0.out HB.out)); (case side2 => exact HC0.out); rintro e w' ⟨rfl, ⟨nd, rfl⟩⟩; refine ⟨_, rfl, ?_⟩))
  (try (rw [drewN_self w15]; generalize hq_ : World.drewN w15 _ = w15; have n0_ : Aside0 (w15.heap[gb408]? = some (.cells #[.int .i64 a3_0, .int .i64 a3_1, .int .i64 a3_2, .int .i64 a3_3] 36 (0, 0))) := ⟨by rw [← hq_]; exact (Cmp.b BK408.out)⟩; have n1_ : Aside0 (Below w.heap.size w w15) := ⟨by rw [← hq_]; exact (Cmp.g HB.out)⟩; clear BK408 HB hq_; have BK408 := n0_; have HB := n1_; clear n0_ n1_))
  have n0_ := Aside0.mk (blk_drew BK408.out); have n1_ := Aside0.mk (below_drew1 HB.out); clear BK408; clear HB; have BK408 := n0_; have HB := n1_; clear n0_ n1_
  refine start_ (n := 12) (S := fun w' => w'.cell? ⟨gb408, 0, none⟩ = some (.int .i64 a3_0) ∧ w'.cell? ⟨gb408, 1, none⟩ = some (.int .i64 a3_1) ∧ w'.cell? ⟨gb408, 2, none⟩ = some (.int .i64 a3_2) ∧ w'.cell? ⟨gb408, 3, none⟩ = some (.int .i64 a3_3)) (ds := []) (Cmp.bm 0 12) (by kernel_rfl) rfl rfl ⟨(blk_cell BK408.out 0).trans rfl, (blk_cell BK408.out 1).trans rfl, (blk_cell BK408.out 2).trans rfl, (blk_cell BK408.out 3).trans rfl⟩ (fun hHeld => ?_); refine with_tabW laws_FnExactAppendEntry.tab5 laws_FnExactAppendEntry.bits5 (fun HT_ HW_ => ?_)
  generalize w15.drew = w16 at BK408 HB hHeld ⊢
  refine Cmp.pu HT_ 0 26 (Cmp.bm 1 11) ?_; refine Cmp.pu HT_ 2 28 (Cmp.bb 12 5) ?_; refine Cmp.pu HT_ 3 29 (Cmp.bb 12 13) ?_; refine Cmp.tk HT_ HW_ hHeld 4 30 (Cmp.bb 12 29) ?_
  refine one_ (i := 1) (N := some 27) (Cmp.bm 5 7) rfl rfl (one_of HT_.out (by kernel_rfl)) (by decide) (fun K hK => ?_)
  refine goes_ Try.func15 (by kernel_rfl) rfl #[.slice A0 l0.length c0] (by rfl) rfl rfl Cmp.q ?_
  with_reducible refine (laws_toLogEntryS.calls k _ _ l0 t410 _ ?side1 ?side2 A8.out).mono ?_
  (case side1 => exact Cmp.rc (Kd.C_below HR0.out HB.out))
  (case side2 => exact HC0.out)
  rintro e w17 ⟨v411, rfl, ho0, hb⟩; refine ⟨_, rfl, ?_⟩
  have n0_ := Aside0.mk (Kd.R_lower ho0 (below_size (Cmp.g HB.out)))
  have n1_ := Aside0.mk (blk_below (Cmp.b BK408.out) hb)
  have n2_ := Aside0.mk (below_step (Cmp.g HB.out) hb)
  clear BK408; clear HB; have HO412 := n0_; have BK408 := n1_; have HB := n2_; clear n0_ n1_ n2_; (try clear hb); (try clear hb2); (try clear hk); (try clear hi); (try clear ho0)
  refine hK.out _ _ ⟨(blk_cell BK408.out 0).trans rfl, (blk_cell BK408.out 1).trans rfl, (blk_cell BK408.out 2).trans rfl, (blk_cell BK408.out 3).trans rfl⟩ (fun hHeld => ?_)
  clear hK K
  refine norm_ (a' := ?_) ?_ ?_
  rotate_left
  ·show Act.put _ (some 27) _ = _
   simp only [Act.put, Cmp.s, Cmp.z, Cmp.c, i64_w, i32_w]; rfl
  refine one_ (i := 5) (N := some 31) (Cmp.bm 6 6) rfl rfl (one_of HT_.out (by kernel_rfl)) (by decide) (fun K hK => ?_)
  refine goes_ Try.func16 (by kernel_rfl) rfl #[.agg #[.int .i64 a3_0, .int .i64 a3_1, .int .i64 a3_2, .int .i64 a3_3]] (by rfl) rfl rfl Cmp.q ?_
  with_reducible refine (laws_toKeyStore.calls a3_0 a3_1 a3_2 a3_3 t413 t414 t415 t416 _ A9.out).mono ?_
  rintro e w18 ⟨rfl, hb⟩; refine ⟨_, rfl, ?_⟩
  have n0_ := Aside0.mk (Kd.R_below (Cmp.rr HO412.out) hb)
  have n1_ := Aside0.mk (blk_below (Cmp.b BK408.out) hb)
  have n2_ := Aside0.mk (below_step (Cmp.g HB.out) hb)
  clear HO412; clear BK408; clear HB; have HO412 := n0_; have BK408 := n1_; have HB := n2_; clear n0_ n1_ n2_; (try clear hb); (try clear hb2); (try clear hk); (try clear hi)
  obtain ⟨Ao19, co19, eo19⟩ := Kd.R_slice HO412.out
  (first | subst eo19 | (injection eo19 with f1_ f2_ f3_; have f4_ := f1_.symm; have f5_ := f3_.symm; clear f1_ f2_ f3_; subst f4_; subst f5_))
  refine hK.out _ _ ⟨(blk_cell BK408.out 0).trans rfl, (blk_cell BK408.out 1).trans rfl, (blk_cell BK408.out 2).trans rfl, (blk_cell BK408.out 3).trans rfl⟩ (fun hHeld => ?_)
  clear hK K
  refine norm_ (a' := ?_) ?_ ?_
  rotate_left
  ·show Act.put _ (some 31) _ = _
   simp only [Act.put, Cmp.s, Cmp.z, Cmp.c, i64_w, i32_w]; rfl
  refine one_ (i := 6) (N := some 32) (Cmp.bm 7 5) rfl rfl (one_of HT_.out (by kernel_rfl)) (by decide) (fun K hK => ?_)
  refine goes_ Try.func10 (by kernel_rfl) rfl #[.slice Ao19 t410.length co19, .int .i64 a1, .int .i64 a2, .agg #[.int .i64 t413, .int .i64 t414, .int .i64 t415, .int .i64 t416]] (by rfl) rfl rfl Cmp.q ?_
  with_reducible refine (spec_AppendEntry.calls k _ _ t410 a1 a2 t413 t414 t415 t416 t417 t420 _ ?side1 ?side2 A10.out).mono ?_
  (case side1 => exact Cmp.rc (Kd.R_reads' HO412.out).2.2)
  (case side2 => exact (Kd.R_reads' HO412.out).2.1)
  rintro e w20 ⟨v418, rfl, ho0, hb⟩; refine ⟨_, rfl, ?_⟩
  have n0_ := Aside0.mk (Kd.R_elder' (Cmp.rr HO412.out) (Kd.R_base ho0) hb)
  have n1_ := Aside0.mk (Kd.R_lower (Kd.R_new' ho0 (Kd.R_lt (Cmp.rr HO412.out))) (below_size (Cmp.g HB.out)))
  have n2_ := Aside0.mk (blk_below (Cmp.b BK408.out) hb)
  have n3_ := Aside0.mk (below_step (Cmp.g HB.out) hb)
  clear HO412; clear BK408; clear HB; have HO412 := n0_; have HO419 := n1_; have BK408 := n2_; have HB := n3_; clear n0_ n1_ n2_ n3_; (try clear hb); (try clear hb2); (try clear hk); (try clear hi); (try clear ho0)
  refine hK.out _ _ ⟨(blk_cell BK408.out 0).trans rfl, (blk_cell BK408.out 1).trans rfl, (blk_cell BK408.out 2).trans rfl, (blk_cell BK408.out 3).trans rfl⟩ (fun hHeld => ?_)
  clear hK K
  refine norm_ (a' := ?_) ?_ ?_
  rotate_left
  ·show Act.put _ (some 32) _ = _
   simp only [Act.put, Cmp.s, Cmp.z, Cmp.c, i64_w, i32_w]; rfl
  refine Cmp.pu HT_ 7 25 (Cmp.bm 8 4) ?_; refine Cmp.pu HT_ 8 33 (Cmp.bm 9 3) ?_; refine Cmp.pu HT_ 9 34 (Cmp.bm 10 2) ?_; refine Cmp.pu HT_ 10 10 (Cmp.bm 11 1) ?_; refine Cmp.pu HT_ 11 11 (Cmp.bm 12 0) ?_
  refine done_ (done_of HT_.out (by kernel_rfl)) ?_
  go_upto_region 8 with (first | ((with_reducible refine gate_callee (f := 15) rfl ?_); refine goesL_ (some 36) rfl rfl Try.func15 (by kernel_rfl) rfl #[.slice A0 l0.length c0] rfl Cmp.q ?_; (with_reducible refine (laws_toLogEntryS.calls k _ _ l0 t421 _ ?side1 ?side2 A11.out).mono ?_); (case side1 => exact Cmp.rc (Kd.C_below HR0.out HB.out)); (case side2 => exact HC0.out); rintro e w21 ⟨v422, rfl, ho0, hb⟩; refine ⟨_, rfl, ?_⟩; have n0_ := Aside0.mk (Kd.R_elder' (Cmp.rr HO412.out) (Kd.R_base ho0) hb); have n1_ := Aside0.mk (Kd.R_elder' (Cmp.rr HO419.out) (Kd.R_base ho0) hb); have n2_ := Aside0.mk (Kd.R_lower (Kd.R_new' (Kd.R_new' ho0 (Kd.R_lt (Cmp.rr HO412.out))) (Kd.R_lt (Cmp.rr HO419.out))) (below_size (Cmp.g HB.out))); have n3_ := Aside0.mk (blk_below (Cmp.b BK408.out) hb); have n4_ := Aside0.mk (below_step (Cmp.g HB.out) hb); clear HO412; clear HO419; clear BK408; clear HB; have HO412 := n0_; have HO419 := n1_; have HO423 := n2_; have BK408 := n3_; have HB := n4_; clear n0_ n1_ n2_ n3_ n4_; (try clear hb); (try clear hb2); (try clear hk); (try clear hi); (try clear ho0); have hcz22_0 : w21.cell? ⟨gb408, 0, none⟩ = some (.int .i64 a3_0) := (blk_cell BK408.out 0).trans rfl; have hcz22_1 : w21.cell? ⟨gb408, 1, none⟩ = some (.int .i64 a3_1) := (blk_cell BK408.out 1).trans rfl; have hcz22_2 : w21.cell? ⟨gb408, 2, none⟩ = some (.int .i64 a3_2) := (blk_cell BK408.out 2).trans rfl; have hcz22_3 : w21.cell? ⟨gb408, 3, none⟩ = some (.int .i64 a3_3) := (blk_cell BK408.out 3).trans rfl; have hfz22_0 := blk_frozen BK408.out 0; have hfz22_1 := blk_frozen BK408.out 1; have hfz22_2 := blk_frozen BK408.out 2; have hfz22_3 := blk_frozen BK408.out 3) | ((with_reducible refine gate_callee (f := 16) rfl ?_); refine goesL_ (some 42) rfl rfl Try.func16 (by kernel_rfl) rfl #[.agg #[.int .i64 a3_0, .int .i64 a3_1, .int .i64 a3_2, .int .i64 a3_3]] rfl Cmp.q ?_; (with_reducible refine (laws_toKeyStore.calls a3_0 a3_1 a3_2 a3_3 t424 t425 t426 t427 _ A12.out).mono ?_); rintro e w23 ⟨rfl, hb⟩; refine ⟨_, rfl, ?_⟩; have n0_ := Aside0.mk (Kd.R_below (Cmp.rr HO412.out) hb); have n1_ := Aside0.mk (Kd.R_below (Cmp.rr HO419.out) hb); have n2_ := Aside0.mk (Kd.R_below (Cmp.rr HO423.out) hb); have n3_ := Aside0.mk (blk_below (Cmp.b BK408.out) hb); have n4_ := Aside0.mk (below_step (Cmp.g HB.out) hb); clear HO412; clear HO419; clear HO423; clear BK408; clear HB; have HO412 := n0_; have HO419 := n1_; have HO423 := n2_; have BK408 := n3_; have HB := n4_; clear n0_ n1_ n2_ n3_ n4_; (try clear hb); (try clear hb2); (try clear hk); (try clear hi); obtain ⟨Ao24, co24, eo24⟩ := Kd.R_slice HO423.out; subst eo24) | ((with_reducible refine gate_callee (f := 9) rfl ?_); refine goesL_ (some 43) rfl rfl Try.func9 (by kernel_rfl) rfl #[.slice Ao24 t421.length co24, .int .i64 a1, .int .i64 a2, .agg #[.int .i64 t424, .int .i64 t425, .int .i64 t426, .int .i64 t427]] rfl Cmp.q ?_; (with_reducible refine (impl_AppendEntry.calls k _ _ t421 a1 a2 t424 t425 t426 t427 t428 t431 _ ?side1 ?side2 A13.out).mono ?_); (case side1 => exact Cmp.rc (Kd.R_reads' HO423.out).2.2); (case side2 => exact (Kd.R_reads' HO423.out).2.1); rintro e w25 ⟨v429, rfl, ho0, hb⟩; refine ⟨_, rfl, ?_⟩; have n0_ := Aside0.mk (Kd.R_elder' (Cmp.rr HO412.out) (Kd.R_base ho0) hb); have n1_ := Aside0.mk (Kd.R_elder' (Cmp.rr HO419.out) (Kd.R_base ho0) hb); have n2_ := Aside0.mk (Kd.R_elder' (Cmp.rr HO423.out) (Kd.R_base ho0) hb); have n3_ := Aside0.mk (Kd.R_lower (Kd.R_new' (Kd.R_new' (Kd.R_new' ho0 (Kd.R_lt (Cmp.rr HO412.out))) (Kd.R_lt (Cmp.rr HO419.out))) (Kd.R_lt (Cmp.rr HO423.out))) (below_size (Cmp.g HB.out))); have n4_ := Aside0.mk (blk_below (Cmp.b BK408.out) hb); have n5_ := Aside0.mk (below_step (Cmp.g HB.out) hb); clear HO412; clear HO419; clear HO423; clear BK408; clear HB; have HO412 := n0_; have HO419 := n1_; have HO423 := n2_; have HO430 := n3_; have BK408 := n4_; have HB := n5_; clear n0_ n1_ n2_ n3_ n4_ n5_; (try clear hb); (try clear hb2); (try clear hk); (try clear hi); (try clear ho0)))
  (try simp only [Act.put, List.setIfInBounds_toArray, List.set_cons_zero, List.set_cons_succ])
  go_cut [54] (fun v54 wc => ∃ (kq : Nat) (x54_13 : Bool), v54 = .bool x54_13 ∧ Aside0 (laws_FnExactAppendEntry.j0 kq l0 a1 a2 t417 t420 t421 t428 t431 x54_13 a3_0 a3_1 a3_2 a3_3 = some true) ∧ Aside0 (kq ≤ k) ∧ Aside0 (Kd.R k74 74 wc w.heap.size (fun k_ => some k_ ≠ ((.slice Ao24 t421.length co24) : Value).ownBlock ∧ some k_ ≠ (v429 : Value).ownBlock) v418 t417) ∧ Aside0 (Kd.R k74 74 wc w.heap.size (fun k_ => some k_ ≠ (v418 : Value).ownBlock ∧ some k_ ≠ (v429 : Value).ownBlock) (.slice Ao24 t421.length co24) t421) ∧ Aside0 (Kd.R k74 74 wc w.heap.size (fun k_ => some k_ ≠ (v418 : Value).ownBlock ∧ some k_ ≠ ((.slice Ao24 t421.length co24) : Value).ownBlock) v429 t428) ∧ Aside0 (wc.heap[gb408]? = some (.cells #[.int .i64 a3_0, .int .i64 a3_1, .int .i64 a3_2, .int .i64 a3_3] 36 (0, 0))) ∧ Aside0 (Below w.heap.size w wc))
  case first =>
   have H := HC14.out; clear HC14; replace H := Option.bind_eq_some_iff.mp H; obtain ⟨t432, A260, H⟩ := H; (try dsimp only at H); have A26 := Aside0.mk A260; clear A260
   by_cases c27 : t432 = true
   ·subst c27; rw [if_pos rfl] at H
    have H' := Aside0.mk H
    clear H
    obtain ⟨Ao28, co28, eo28⟩ := Kd.R_slice HO430.out
    subst eo28
    obtain ⟨Ao29, co29, eo29⟩ := Kd.R_slice HO419.out
    subst eo29
    go_wp2_with (first | ((with_reducible refine gate_callee (f := 17) rfl ?_); refine goesL_ (some 48) rfl rfl Try.func17 (by kernel_rfl) rfl #[.slice Ao28 t428.length co28, .slice Ao29 t417.length co29] rfl Cmp.q ?_; (with_reducible refine (laws_eqLogEntryS.calls k _ _ t428 _ _ t417 true _ ?side1 ?side2 ?side3 ?side4 A26.out).mono ?_); (case side1 => exact Cmp.rc (Kd.R_reads' HO430.out).2.2); (case side2 => exact (Kd.R_reads' HO430.out).2.1); (case side3 => exact Cmp.rc (Kd.R_reads' HO419.out).2.2); (case side4 => exact (Kd.R_reads' HO419.out).2.1); rintro e w30 ⟨rfl, hb⟩; refine ⟨_, rfl, ?_⟩; have n0_ := Aside0.mk (Kd.R_below (Cmp.rr HO412.out) hb); have n1_ := Aside0.mk (Kd.R_below (Cmp.rr HO419.out) hb); have n2_ := Aside0.mk (Kd.R_below (Cmp.rr HO423.out) hb); have n3_ := Aside0.mk (Kd.R_below (Cmp.rr HO430.out) hb); have n4_ := Aside0.mk (blk_below (Cmp.b BK408.out) hb); have n5_ := Aside0.mk (below_step (Cmp.g HB.out) hb); clear HO412; clear HO419; clear HO423; clear HO430; clear BK408; clear HB; have HO412 := n0_; have HO419 := n1_; have HO423 := n2_; have HO430 := n3_; have BK408 := n4_; have HB := n5_; clear n0_ n1_ n2_ n3_ n4_ n5_; (try clear hb); (try clear hb2); (try clear hk); (try clear hi)))
    go_meet
    case rel => exact ⟨_, ((t431 != t420)), (by first | rfl | simp | simp [*]), H', ⟨by first | omega | exact Nat.le_refl _⟩, ⟨by (with_reducible repeat (first | apply Kd.R_alloc | apply Kd.R_drewN | apply Kd.R_drew)); exact Kd.R_mono HO419.out (fun _ hk => ⟨hk.1.2, hk.2⟩)⟩, ⟨by (with_reducible repeat (first | apply Kd.R_alloc | apply Kd.R_drewN | apply Kd.R_drew)); exact Kd.R_mono HO423.out (fun _ hk => ⟨hk.1.2, hk.2⟩)⟩, ⟨by (with_reducible repeat (first | apply Kd.R_alloc | apply Kd.R_drewN | apply Kd.R_drew)); exact Kd.R_mono HO430.out (fun _ hk => ⟨hk.1.2, hk.2⟩)⟩, ⟨by (with_reducible repeat (first | refine blk_drewN ?_ _ | refine blk_drew ?_ | refine blk_alloc ?_ _)); exact BK408.out⟩, ⟨Cmp.g HB.out⟩⟩
   ·replace c27 := Bool.eq_false_iff.mpr c27
    subst c27
    have H1 : (laws_FnExactAppendEntry.j0 k l0 a1 a2 t417 t420 t421 t428 t431 true a3_0 a3_1 a3_2 a3_3) = some true := by first | (rw [if_neg (show ¬ (false = true) by decide)] at H; exact H) | (rw [if_neg (show ¬ (false = true) by decide)] at H)
    clear H; have H := H1; clear H1
    have H' := Aside0.mk H
    clear H
    obtain ⟨Ao31, co31, eo31⟩ := Kd.R_slice HO430.out
    subst eo31
    obtain ⟨Ao32, co32, eo32⟩ := Kd.R_slice HO419.out
    subst eo32
    go_wp2_with (first | ((with_reducible refine gate_callee (f := 17) rfl ?_); refine goesL_ (some 48) rfl rfl Try.func17 (by kernel_rfl) rfl #[.slice Ao31 t428.length co31, .slice Ao32 t417.length co32] rfl Cmp.q ?_; (with_reducible refine (laws_eqLogEntryS.calls k _ _ t428 _ _ t417 false _ ?side1 ?side2 ?side3 ?side4 A26.out).mono ?_); (case side1 => exact Cmp.rc (Kd.R_reads' HO430.out).2.2); (case side2 => exact (Kd.R_reads' HO430.out).2.1); (case side3 => exact Cmp.rc (Kd.R_reads' HO419.out).2.2); (case side4 => exact (Kd.R_reads' HO419.out).2.1); rintro e w33 ⟨rfl, hb⟩; refine ⟨_, rfl, ?_⟩; have n0_ := Aside0.mk (Kd.R_below (Cmp.rr HO412.out) hb); have n1_ := Aside0.mk (Kd.R_below (Cmp.rr HO419.out) hb); have n2_ := Aside0.mk (Kd.R_below (Cmp.rr HO423.out) hb); have n3_ := Aside0.mk (Kd.R_below (Cmp.rr HO430.out) hb); have n4_ := Aside0.mk (blk_below (Cmp.b BK408.out) hb); have n5_ := Aside0.mk (below_step (Cmp.g HB.out) hb); clear HO412; clear HO419; clear HO423; clear HO430; clear BK408; clear HB; have HO412 := n0_; have HO419 := n1_; have HO423 := n2_; have HO430 := n3_; have BK408 := n4_; have HB := n5_; clear n0_ n1_ n2_ n3_ n4_ n5_; (try clear hb); (try clear hb2); (try clear hk); (try clear hi)))
    go_meet
    case rel => exact ⟨_, (true), (by first | rfl | simp | simp [*]), H', ⟨by first | omega | exact Nat.le_refl _⟩, ⟨by (with_reducible repeat (first | apply Kd.R_alloc | apply Kd.R_drewN | apply Kd.R_drew)); exact Kd.R_mono HO419.out (fun _ hk => ⟨hk.1.2, hk.2⟩)⟩, ⟨by (with_reducible repeat (first | apply Kd.R_alloc | apply Kd.R_drewN | apply Kd.R_drew)); exact Kd.R_mono HO423.out (fun _ hk => ⟨hk.1.2, hk.2⟩)⟩, ⟨by (with_reducible repeat (first | apply Kd.R_alloc | apply Kd.R_drewN | apply Kd.R_drew)); exact Kd.R_mono HO430.out (fun _ hk => ⟨hk.1.2, hk.2⟩)⟩, ⟨by (with_reducible repeat (first | refine blk_drewN ?_ _ | refine blk_drew ?_ | refine blk_alloc ?_ _)); exact BK408.out⟩, ⟨Cmp.g HB.out⟩⟩
  case rest =>
   clear HC14; (try clear c1); (try clear c2); (try clear p2); (try clear c4); (try clear c6); (try clear c6b0); (try clear c9); (try clear c10); (try clear c14); (try clear c15); (try clear c16); (try clear c17); (try clear c27); (try clear hcz22_0); (try clear hcz22_1); (try clear hcz22_2); (try clear hcz22_3); (try clear hfz22_0); (try clear hfz22_1); (try clear hfz22_2); (try clear hfz22_3)
   obtain ⟨kq, x54_13, rfl, HA, HJ13, HO_10, HO_12, HO_13, BK408, HB⟩ := hcut
   cases kq with
   | zero => exact absurd HA.out (by simp [laws_FnExactAppendEntry.j0])
   | succ kj13 =>
    have H := HA.out; clear HA
    simp only [laws_FnExactAppendEntry.j0] at H
    by_cases c34 : x54_13 = true
    ·subst c34; rw [if_pos rfl] at H; exact absurd H (by simp)
    ·replace c34 := Bool.eq_false_iff.mpr c34
     subst c34
     have H1 : ((laws_toLogEntryS.f kj13 l0).bind fun t433 => ((laws_eqLogEntryS.f kj13 t421 t433).bind fun t436 => (if t436 = true then ((laws_markLogEntryS.f kj13 t421 1).bind fun bt437 => (if bt437.1 < 0 then (laws_FnExactAppendEntry.j1 kj13 l0 a1 a2 t417 t420 t428 true a3_0 a3_1 a3_2 a3_3) else ((laws_eqLogEntryS.f kj13 t428 t417).bind fun t439 => (if t439 = true then (laws_FnExactAppendEntry.j1 kj13 l0 a1 a2 t417 t420 t428 (t431 != t420) a3_0 a3_1 a3_2 a3_3) else (laws_FnExactAppendEntry.j1 kj13 l0 a1 a2 t417 t420 t428 true a3_0 a3_1 a3_2 a3_3))))) else (some false)))) = some true := by first | (rw [if_neg (show ¬ (false = true) by decide)] at H; exact H) | (rw [if_neg (show ¬ (false = true) by decide)] at H)
     clear H; have H := H1; clear H1; replace H := Option.bind_eq_some_iff.mp H; obtain ⟨t433, A350, H⟩ := H; (try dsimp only at H); have A35 := Aside0.mk A350; clear A350; replace H := Option.bind_eq_some_iff.mp H; obtain ⟨t436, A360, H⟩ := H; (try dsimp only at H); have A36 := Aside0.mk A360; clear A360
     by_cases c37 : t436 = true
     ·subst c37; rw [if_pos rfl] at H; replace H := Option.bind_eq_some_iff.mp H; obtain ⟨⟨t437, t438⟩, A380, H⟩ := H; (try dsimp only at H); have A38 := Aside0.mk A380; clear A380; have HC39 := Aside0.mk H; clear H
      go_upto_region 14 with (first | ((with_reducible refine gate_callee (f := 15) rfl ?_); refine goesL_ (some 57) rfl rfl Try.func15 (by kernel_rfl) rfl #[.slice A0 l0.length c0] rfl Cmp.q ?_; (with_reducible refine (laws_toLogEntryS.calls kj13 _ _ l0 t433 _ ?side1 ?side2 A35.out).mono ?_); (case side1 => exact Cmp.rc (Kd.C_below HR0.out HB.out)); (case side2 => exact HC0.out); rintro e w40 ⟨v434, rfl, ho0, hb⟩; refine ⟨_, rfl, ?_⟩; have n0_ := Aside0.mk (Kd.R_elder' (Cmp.rr HO_10.out) (Kd.R_base ho0) hb); have n1_ := Aside0.mk (Kd.R_elder' (Cmp.rr HO_12.out) (Kd.R_base ho0) hb); have n2_ := Aside0.mk (Kd.R_elder' (Cmp.rr HO_13.out) (Kd.R_base ho0) hb); have n3_ := Aside0.mk (Kd.R_lower (Kd.R_new' (Kd.R_new' (Kd.R_new' ho0 (Kd.R_lt (Cmp.rr HO_10.out))) (Kd.R_lt (Cmp.rr HO_12.out))) (Kd.R_lt (Cmp.rr HO_13.out))) (below_size (Cmp.g HB.out))); have n4_ := Aside0.mk (blk_below (Cmp.b BK408.out) hb); have n5_ := Aside0.mk (below_step (Cmp.g HB.out) hb); clear HO_10; clear HO_12; clear HO_13; clear BK408; clear HB; have HO_10 := n0_; have HO_12 := n1_; have HO_13 := n2_; have HO435 := n3_; have BK408 := n4_; have HB := n5_; clear n0_ n1_ n2_ n3_ n4_ n5_; (try clear hb); (try clear hb2); (try clear hk); (try clear hi); (try clear ho0); obtain ⟨Ao41, co41, eo41⟩ := Kd.R_slice HO435.out; subst eo41) | ((with_reducible refine gate_callee (f := 17) rfl ?_); refine goesL_ (some 58) rfl rfl Try.func17 (by kernel_rfl) rfl #[.slice Ao24 t421.length co24, .slice Ao41 t433.length co41] rfl Cmp.q ?_; (with_reducible refine (laws_eqLogEntryS.calls kj13 _ _ t421 _ _ t433 true _ ?side1 ?side2 ?side3 ?side4 A36.out).mono ?_); (case side1 => exact Cmp.rc (Kd.R_reads' HO_12.out).2.2); (case side2 => exact (Kd.R_reads' HO_12.out).2.1); (case side3 => exact Cmp.rc (Kd.R_reads' HO435.out).2.2); (case side4 => exact (Kd.R_reads' HO435.out).2.1); rintro e w42 ⟨rfl, hb⟩; refine ⟨_, rfl, ?_⟩; have n0_ := Aside0.mk (Kd.R_below (Cmp.rr HO_10.out) hb); have n1_ := Aside0.mk (Kd.R_below (Cmp.rr HO_12.out) hb); have n2_ := Aside0.mk (Kd.R_below (Cmp.rr HO_13.out) hb); have n3_ := Aside0.mk (Kd.R_below (Cmp.rr HO435.out) hb); have n4_ := Aside0.mk (blk_below (Cmp.b BK408.out) hb); have n5_ := Aside0.mk (below_step (Cmp.g HB.out) hb); clear HO_10; clear HO_12; clear HO_13; clear HO435; clear BK408; clear HB; have HO_10 := n0_; have HO_12 := n1_; have HO_13 := n2_; have HO435 := n3_; have BK408 := n4_; have HB := n5_; clear n0_ n1_ n2_ n3_ n4_ n5_; (try clear hb); (try clear hb2); (try clear hk); (try clear hi)) | ((with_reducible refine gate_callee (f := 18) rfl ?_); refine goesL_ (some 62) rfl rfl Try.func18 (by kernel_rfl) rfl #[.slice Ao24 t421.length co24, .int .i64 1] rfl Cmp.q ?_; (with_reducible refine (laws_markLogEntryS.calls kj13 (fun k_ => some k_ = (.slice Ao24 t421.length co24 : Value).ownBlock) (.slice Ao24 t421.length co24) t421 1 t437 t438 w _ ?side1 ?side2 A38.out).mono ?_); (case side1 => repeat (first | (with_reducible first | exact HB.out | apply below_alloc | apply pw_below_drewN | apply below_drew1 | refine below_set ?_ GE408.out) | exact HB.out)); (case side2 => exact Kd.R_tight rfl HO_12.out); rintro e w43 ⟨rfl, hy0, hb, hkp⟩; refine ⟨_, rfl, ?_⟩; have n0_ := Aside0.mk (Kd.R_mono (ok' := fun k_ => some k_ ≠ (.slice Ao24 t421.length co24 : Value).ownBlock ∧ some k_ ≠ (v429 : Value).ownBlock ∧ some k_ ≠ (.slice Ao41 t433.length co41 : Value).ownBlock) (Kd.R_keptB (HO_10.out) hkp (fun k_ hk_ hs_ => (hk_.1.1) hs_)) (fun k_ hk_ => ⟨hk_.1.1.1, hk_.1.1.2, hk_.1.2⟩)); have n1_ := Aside0.mk (Kd.R_reok rfl hy0 (fun k_ e_ => HO_12.out.1 k_ e_)); have n2_ := Aside0.mk (Kd.R_mono (ok' := fun k_ => some k_ ≠ (v418 : Value).ownBlock ∧ some k_ ≠ (.slice Ao24 t421.length co24 : Value).ownBlock ∧ some k_ ≠ (.slice Ao41 t433.length co41 : Value).ownBlock) (Kd.R_keptB (HO_13.out) hkp (fun k_ hk_ hs_ => (hk_.1.2) hs_)) (fun k_ hk_ => ⟨hk_.1.1.1, hk_.1.1.2, hk_.1.2⟩)); have n3_ := Aside0.mk (blk_kept (Cmp.b BK408.out) hkp (fun hs_ => (fun e_ => (Kd.R_ne HO_12.out BK408.out (by decide)) e_) hs_)); have n4_ := Aside0.mk (Kd.R_mono (ok' := fun k_ => some k_ ≠ (v418 : Value).ownBlock ∧ some k_ ≠ (.slice Ao24 t421.length co24 : Value).ownBlock ∧ some k_ ≠ (v429 : Value).ownBlock) (Kd.R_keptB (HO435.out) hkp (fun k_ hk_ hs_ => (hk_.1.2) hs_)) (fun k_ hk_ => ⟨hk_.1.1.1.2, hk_.1.1.2, hk_.1.2⟩)); have n5_ := Aside0.mk (hb); clear HO_10; clear HO_12; clear HO_13; clear BK408; clear HO435; clear HB; have HO_10 := n0_; have HO_12 := n1_; have HO_13 := n2_; have BK408 := n3_; have HO435 := n4_; have HB := n5_; clear n0_ n1_ n2_ n3_ n4_ n5_; (try clear hb); (try clear hkp); (try clear hy0)))
      (try simp only [Act.put, List.setIfInBounds_toArray, List.set_cons_zero, List.set_cons_succ])
      go_cut [75] (fun v75 wc => ∃ (kq : Nat) (x75_38 : Bool), v75 = .bool x75_38 ∧ Aside0 (laws_FnExactAppendEntry.j1 kq l0 a1 a2 t417 t420 t428 x75_38 a3_0 a3_1 a3_2 a3_3 = some true) ∧ Aside0 (kq ≤ kj13) ∧ Aside0 (Kd.R k74 74 wc w.heap.size (fun k_ => some k_ ≠ (v429 : Value).ownBlock) v418 t417) ∧ Aside0 (Kd.R k74 74 wc w.heap.size (fun k_ => some k_ ≠ (v418 : Value).ownBlock) v429 t428) ∧ Aside0 (wc.heap[gb408]? = some (.cells #[.int .i64 a3_0, .int .i64 a3_1, .int .i64 a3_2, .int .i64 a3_3] 36 (0, 0))) ∧ Aside0 (Below w.heap.size w wc))
      case first =>
       have H := HC39.out; clear HC39
       by_cases c44 : t437 < 0
       ·rw [if_pos c44] at H; have c44b0 : decide (t437 < 0) = true := decide_eq_true c44; clear c44
        (first | rw [c44b0] | (simp only [i64_w, i32_w]; rw [c44b0]) | skip)
        have H' := Aside0.mk H
        clear H
        go_wp2
        go_meet
        case rel => exact ⟨_, (true), (by first | rfl | simp | simp [*]), H', ⟨by have := HJ13.out; first | omega | exact Nat.le_refl _⟩, ⟨by (with_reducible repeat (first | apply Kd.R_alloc | apply Kd.R_drewN | apply Kd.R_drew)); exact Kd.R_mono HO_10.out (fun _ hk => hk.2.1)⟩, ⟨by (with_reducible repeat (first | apply Kd.R_alloc | apply Kd.R_drewN | apply Kd.R_drew)); exact Kd.R_mono HO_13.out (fun _ hk => hk.1)⟩, ⟨by (with_reducible repeat (first | refine blk_drewN ?_ _ | refine blk_drew ?_ | refine blk_alloc ?_ _)); exact BK408.out⟩, ⟨Cmp.g HB.out⟩⟩
       ·rw [if_neg c44] at H; have c44b0 : decide (t437 < 0) = false := decide_eq_false c44; clear c44
        (first | rw [c44b0] | (simp only [i64_w, i32_w]; rw [c44b0]) | skip)
        replace H := Option.bind_eq_some_iff.mp H; obtain ⟨t439, A450, H⟩ := H; (try dsimp only at H); have A45 := Aside0.mk A450; clear A450
        by_cases c46 : t439 = true
        ·subst c46; rw [if_pos rfl] at H
         have H' := Aside0.mk H
         clear H
         obtain ⟨Ao47, co47, eo47⟩ := Kd.R_slice HO_13.out
         subst eo47
         obtain ⟨Ao48, co48, eo48⟩ := Kd.R_slice HO_10.out
         subst eo48
         go_wp2_with (first | (go_at_call 17; (with_reducible refine (laws_eqLogEntryS.calls kj13 _ _ t428 _ _ t417 true _ ?side1 ?side2 ?side3 ?side4 A45.out).mono ?_); (case side1 => exact Cmp.rc (Kd.R_reads' HO_13.out).2.2); (case side2 => exact (Kd.R_reads' HO_13.out).2.1); (case side3 => exact Cmp.rc (Kd.R_reads' HO_10.out).2.2); (case side4 => exact (Kd.R_reads' HO_10.out).2.1); rintro e w49 ⟨rfl, hb⟩; have n0_ := Aside0.mk (Kd.R_below (Cmp.rr HO_10.out) hb); have n1_ := Aside0.mk (Kd.R_below (Cmp.rr HO_12.out) hb); have n2_ := Aside0.mk (Kd.R_below (Cmp.rr HO_13.out) hb); have n3_ := Aside0.mk (Kd.R_below (Cmp.rr HO435.out) hb); have n4_ := Aside0.mk (blk_below (Cmp.b BK408.out) hb); have n5_ := Aside0.mk (below_step (Cmp.g HB.out) hb); clear HO_10; clear HO_12; clear HO_13; clear HO435; clear BK408; clear HB; have HO_10 := n0_; have HO_12 := n1_; have HO_13 := n2_; have HO435 := n3_; have BK408 := n4_; have HB := n5_; clear n0_ n1_ n2_ n3_ n4_ n5_; (try clear hb); (try clear hb2); (try clear hk); (try clear hi)))
         go_meet
         case rel => exact ⟨_, ((t431 != t420)), (by first | rfl | simp | simp [*]), H', ⟨by have := HJ13.out; first | omega | exact Nat.le_refl _⟩, ⟨by (with_reducible repeat (first | apply Kd.R_alloc | apply Kd.R_drewN | apply Kd.R_drew)); exact Kd.R_mono HO_10.out (fun _ hk => hk.2.1)⟩, ⟨by (with_reducible repeat (first | apply Kd.R_alloc | apply Kd.R_drewN | apply Kd.R_drew)); exact Kd.R_mono HO_13.out (fun _ hk => hk.1)⟩, ⟨by (with_reducible repeat (first | refine blk_drewN ?_ _ | refine blk_drew ?_ | refine blk_alloc ?_ _)); exact BK408.out⟩, ⟨Cmp.g HB.out⟩⟩
        ·replace c46 := Bool.eq_false_iff.mpr c46
         subst c46
         have H1 : (laws_FnExactAppendEntry.j1 kj13 l0 a1 a2 t417 t420 t428 true a3_0 a3_1 a3_2 a3_3) = some true := by first | (rw [if_neg (show ¬ (false = true) by decide)] at H; exact H) | (rw [if_neg (show ¬ (false = true) by decide)] at H)
         clear H; have H := H1; clear H1
         have H' := Aside0.mk H
         clear H
         obtain ⟨Ao50, co50, eo50⟩ := Kd.R_slice HO_13.out
         subst eo50
         obtain ⟨Ao51, co51, eo51⟩ := Kd.R_slice HO_10.out
         subst eo51
         go_wp2_with (first | (go_at_call 17; (with_reducible refine (laws_eqLogEntryS.calls kj13 _ _ t428 _ _ t417 false _ ?side1 ?side2 ?side3 ?side4 A45.out).mono ?_); (case side1 => exact Cmp.rc (Kd.R_reads' HO_13.out).2.2); (case side2 => exact (Kd.R_reads' HO_13.out).2.1); (case side3 => exact Cmp.rc (Kd.R_reads' HO_10.out).2.2); (case side4 => exact (Kd.R_reads' HO_10.out).2.1); rintro e w52 ⟨rfl, hb⟩; have n0_ := Aside0.mk (Kd.R_below (Cmp.rr HO_10.out) hb); have n1_ := Aside0.mk (Kd.R_below (Cmp.rr HO_12.out) hb); have n2_ := Aside0.mk (Kd.R_below (Cmp.rr HO_13.out) hb); have n3_ := Aside0.mk (Kd.R_below (Cmp.rr HO435.out) hb); have n4_ := Aside0.mk (blk_below (Cmp.b BK408.out) hb); have n5_ := Aside0.mk (below_step (Cmp.g HB.out) hb); clear HO_10; clear HO_12; clear HO_13; clear HO435; clear BK408; clear HB; have HO_10 := n0_; have HO_12 := n1_; have HO_13 := n2_; have HO435 := n3_; have BK408 := n4_; have HB := n5_; clear n0_ n1_ n2_ n3_ n4_ n5_; (try clear hb); (try clear hb2); (try clear hk); (try clear hi)))
         go_meet
         case rel => exact ⟨_, (true), (by first | rfl | simp | simp [*]), H', ⟨by have := HJ13.out; first | omega | exact Nat.le_refl _⟩, ⟨by (with_reducible repeat (first | apply Kd.R_alloc | apply Kd.R_drewN | apply Kd.R_drew)); exact Kd.R_mono HO_10.out (fun _ hk => hk.2.1)⟩, ⟨by (with_reducible repeat (first | apply Kd.R_alloc | apply Kd.R_drewN | apply Kd.R_drew)); exact Kd.R_mono HO_13.out (fun _ hk => hk.1)⟩, ⟨by (with_reducible repeat (first | refine blk_drewN ?_ _ | refine blk_drew ?_ | refine blk_alloc ?_ _)); exact BK408.out⟩, ⟨Cmp.g HB.out⟩⟩
      case rest =>
       clear HC39; (try clear c1); (try clear c2); (try clear p2); (try clear c3); (try clear c4); (try clear c6); (try clear c6b0); (try clear c9); (try clear c10); (try clear c14); (try clear c15); (try clear c16); (try clear c17); (try clear c18); (try clear c27); (try clear c34); (try clear c37); (try clear c44); (try clear c44b0); (try clear c46); (try clear hcz22_0); (try clear hcz22_1); (try clear hcz22_2); (try clear hcz22_3); (try clear hfz22_0); (try clear hfz22_1); (try clear hfz22_2); (try clear hfz22_3); (try clear p2)
       obtain ⟨kq, x75_38, rfl, HA, HJ38, HO_10, HO_13, BK408, HB⟩ := hcut
       cases kq with
       | zero => exact absurd HA.out (by simp [laws_FnExactAppendEntry.j1])
       | succ kj38 =>
        have H := HA.out; clear HA
        simp only [laws_FnExactAppendEntry.j1] at H
        by_cases c53 : x75_38 = true
        ·subst c53; rw [if_pos rfl] at H; exact absurd H (by simp)
        ·replace c53 := Bool.eq_false_iff.mpr c53
         subst c53
         have H1 : ((laws_markLogEntryS.f kj38 t428 1).bind fun bt440 => ((laws_heldLogEntryS.f kj38 bt440.2 1).bind fun t442 => (if t442 < 0 then (some false) else (if t442 = bt440.1 then ((laws_toLogEntryS.f kj38 l0).bind fun t443 => ((laws_toKeyStore.f a3_0 a3_1 a3_2 a3_3).bind fun bt446 => ((impl_AppendEntry.f kj38 t443 a1 a2 bt446.1 bt446.2.1 bt446.2.2.1 bt446.2.2.2).bind fun bt450 => ((laws_eqLogEntryS.f kj38 bt450.1 t417).bind fun t454 => (if t454 = true then (laws_FnExactAppendEntry.j2 kj38 bt440.2 bt440.1 (bt450.2 != t420)) else (laws_FnExactAppendEntry.j2 kj38 bt440.2 bt440.1 true)))))) else (some false))))) = some true := by first | (rw [if_neg (show ¬ (false = true) by decide)] at H; exact H) | (rw [if_neg (show ¬ (false = true) by decide)] at H)
         clear H; have H := H1; clear H1; replace H := Option.bind_eq_some_iff.mp H; obtain ⟨⟨t440, t441⟩, A540, H⟩ := H; (try dsimp only at H); have A54 := Aside0.mk A540; clear A540; replace H := Option.bind_eq_some_iff.mp H; obtain ⟨t442, A550, H⟩ := H; (try dsimp only at H); have A55 := Aside0.mk A550; clear A550
         by_cases c56 : t442 < 0
         ·rw [if_pos c56] at H; have c56b0 : decide (t442 < 0) = true := decide_eq_true c56; clear c56; exact absurd H (by simp)
         ·rw [if_neg c56] at H; have c56b0 : decide (t442 < 0) = false := decide_eq_false c56; clear c56
          by_cases c59 : t442 = t440
          ·rw [if_pos c59] at H; have c59b0 : (t442 == t440) = true := beq_iff_eq.mpr c59; have c59b1 : (t442 != t440) = false := bne_eq_false_iff_eq.mpr c59; clear c59; replace H := Option.bind_eq_some_iff.mp H; obtain ⟨t443, A600, H⟩ := H; (try dsimp only at H); have A60 := Aside0.mk A600; clear A600; replace H := Option.bind_eq_some_iff.mp H; obtain ⟨⟨t446, t447, t448, t449⟩, A610, H⟩ := H; (try dsimp only at H); have A61 := Aside0.mk A610; clear A610; replace H := Option.bind_eq_some_iff.mp H; obtain ⟨⟨t450, t453⟩, A620, H⟩ := H; (try dsimp only at H); have A62 := Aside0.mk A620; clear A620; have HC63 := Aside0.mk H; clear H
           obtain ⟨Ao64, co64, eo64⟩ := Kd.R_slice HO_13.out
           subst eo64
           try go_wp2_with (first | ((with_reducible refine gate_callee (f := 18) rfl ?_); refine goesL_ (some 78) rfl rfl Try.func18 (by kernel_rfl) rfl #[.slice Ao64 t428.length co64, .int .i64 1] rfl Cmp.q ?_; (with_reducible refine (laws_markLogEntryS.calls kj38 (fun k_ => some k_ = (.slice Ao64 t428.length co64 : Value).ownBlock) (.slice Ao64 t428.length co64) t428 1 t440 t441 w _ ?side1 ?side2 A54.out).mono ?_); (case side1 => repeat (first | (with_reducible first | exact HB.out | apply below_alloc | apply pw_below_drewN | apply below_drew1 | refine below_set ?_ GE408.out) | exact HB.out)); (case side2 => exact Kd.R_tight rfl HO_13.out); rintro e w65 ⟨rfl, hy0, hb, hkp⟩; refine ⟨_, rfl, ?_⟩; have n0_ := Aside0.mk (Kd.R_mono (ok' := fun k_ => some k_ ≠ (.slice Ao64 t428.length co64 : Value).ownBlock) (Kd.R_keptB (HO_10.out) hkp (fun k_ hk_ hs_ => (hk_) hs_)) (fun k_ hk_ => hk_.1)); have n1_ := Aside0.mk (Kd.R_reok rfl hy0 (fun k_ e_ => HO_13.out.1 k_ e_)); have n2_ := Aside0.mk (blk_kept (Cmp.b BK408.out) hkp (fun hs_ => (fun e_ => (Kd.R_ne HO_13.out BK408.out (by decide)) e_) hs_)); have n3_ := Aside0.mk (hb); clear HO_10; clear HO_13; clear BK408; clear HB; have HO_10 := n0_; have HO_13 := n1_; have BK408 := n2_; have HB := n3_; clear n0_ n1_ n2_ n3_; (try clear hb); (try clear hkp); (try clear hy0)) | ((with_reducible refine gate_callee (f := 19) rfl ?_); refine goesL_ (some 81) rfl rfl Try.func19 (by kernel_rfl) rfl #[.slice Ao64 t441.length co64, .int .i64 1] rfl (by (try simp only [List.map_toArray, List.map_cons, List.map_nil]); first | done | (rw [show t441.length = t428.length from (Kd.R_reads' HO_13.out).1.symm] <;> rfl) | rfl | (simp only [List.length_drop, List.length_take]; rfl)) ?_; (with_reducible refine (laws_heldLogEntryS.calls kj38 _ _ t441 1 t442 _ ?side1 ?side2 A55.out).mono ?_); (case side1 => exact Cmp.rc (Kd.R_reads' HO_13.out).2.2); (case side2 => rw [show t441.length = t428.length from (Kd.R_reads' HO_13.out).1.symm]; exact (Kd.R_reads' HO_13.out).2.1); rintro e w' ⟨rfl, ⟨nd, rfl⟩⟩; refine ⟨_, rfl, ?_⟩))
           (try (rw [drewN_self w65]; generalize hq_ : World.drewN w65 _ = w65; have n0_ : Aside0 (Kd.R k74 74 w65 w.heap.size (fun k_ => some k_ ≠ (.slice Ao64 t428.length co64 : Value).ownBlock) v418 t417) := ⟨by rw [← hq_]; exact (Cmp.rr HO_10.out)⟩; have n1_ : Aside0 (Kd.R k74 74 w65 w.heap.size (fun k_ => some k_ ≠ (v418 : Value).ownBlock) (.slice Ao64 t428.length co64) t441) := ⟨by rw [← hq_]; exact (Cmp.rr HO_13.out)⟩; have n2_ : Aside0 (w65.heap[gb408]? = some (.cells #[.int .i64 a3_0, .int .i64 a3_1, .int .i64 a3_2, .int .i64 a3_3] 36 (0, 0))) := ⟨by rw [← hq_]; exact (Cmp.b BK408.out)⟩; have n3_ : Aside0 (Below w.heap.size w w65) := ⟨by rw [← hq_]; exact (Cmp.g HB.out)⟩; clear HO_10 HO_13 BK408 HB hq_; have HO_10 := n0_; have HO_13 := n1_; have BK408 := n2_; have HB := n3_; clear n0_ n1_ n2_ n3_))
           have n0_ := Aside0.mk (Kd.R_drew HO_10.out); have n1_ := Aside0.mk (Kd.R_drew HO_13.out); have n2_ := Aside0.mk (blk_drew BK408.out); have n3_ := Aside0.mk (below_drew1 HB.out); clear HO_10; clear HO_13; clear BK408; clear HB; have HO_10 := n0_; have HO_13 := n1_; have BK408 := n2_; have HB := n3_; clear n0_ n1_ n2_ n3_
           refine start_ (n := 12) (S := fun w' => w'.cell? ⟨gb408, 0, none⟩ = some (.int .i64 a3_0) ∧ w'.cell? ⟨gb408, 1, none⟩ = some (.int .i64 a3_1) ∧ w'.cell? ⟨gb408, 2, none⟩ = some (.int .i64 a3_2) ∧ w'.cell? ⟨gb408, 3, none⟩ = some (.int .i64 a3_3)) (ds := []) (Cmp.bm 0 12) (by kernel_rfl) rfl rfl ⟨(blk_cell BK408.out 0).trans rfl, (blk_cell BK408.out 1).trans rfl, (blk_cell BK408.out 2).trans rfl, (blk_cell BK408.out 3).trans rfl⟩ (fun hHeld => ?_); refine with_tabW laws_FnExactAppendEntry.tab24 laws_FnExactAppendEntry.bits24 (fun HT_ HW_ => ?_)
           generalize w65.drew = w66 at HO_10 HO_13 BK408 HB hHeld ⊢
           refine Cmp.pu HT_ 0 88 (Cmp.bm 1 11) ?_; refine Cmp.pu HT_ 2 90 (Cmp.bb 12 5) ?_; refine Cmp.pu HT_ 3 91 (Cmp.bb 12 13) ?_; refine Cmp.tk HT_ HW_ hHeld 4 92 (Cmp.bb 12 29) ?_
           refine one_ (i := 1) (N := some 89) (Cmp.bm 5 7) rfl rfl (one_of HT_.out (by kernel_rfl)) (by decide) (fun K hK => ?_)
           refine goes_ Try.func15 (by kernel_rfl) rfl #[.slice A0 l0.length c0] (by rfl) rfl rfl Cmp.q ?_
           with_reducible refine (laws_toLogEntryS.calls kj38 _ _ l0 t443 _ ?side1 ?side2 A60.out).mono ?_
           (case side1 => exact Cmp.rc (Kd.C_below HR0.out HB.out))
           (case side2 => exact HC0.out)
           rintro e w67 ⟨v444, rfl, ho0, hb⟩; refine ⟨_, rfl, ?_⟩
           have n0_ := Aside0.mk (Kd.R_elder' (Cmp.rr HO_10.out) (Kd.R_base ho0) hb)
           have n1_ := Aside0.mk (Kd.R_elder' (Cmp.rr HO_13.out) (Kd.R_base ho0) hb)
           have n2_ := Aside0.mk (Kd.R_lower (Kd.R_new' (Kd.R_new' ho0 (Kd.R_lt (Cmp.rr HO_10.out))) (Kd.R_lt (Cmp.rr HO_13.out))) (below_size (Cmp.g HB.out)))
           have n3_ := Aside0.mk (blk_below (Cmp.b BK408.out) hb)
           have n4_ := Aside0.mk (below_step (Cmp.g HB.out) hb)
           clear HO_10; clear HO_13; clear BK408; clear HB; have HO_10 := n0_; have HO_13 := n1_; have HO445 := n2_; have BK408 := n3_; have HB := n4_; clear n0_ n1_ n2_ n3_ n4_; (try clear hb); (try clear hb2); (try clear hk); (try clear hi); (try clear ho0)
           refine hK.out _ _ ⟨(blk_cell BK408.out 0).trans rfl, (blk_cell BK408.out 1).trans rfl, (blk_cell BK408.out 2).trans rfl, (blk_cell BK408.out 3).trans rfl⟩ (fun hHeld => ?_)
           clear hK K
           refine norm_ (a' := ?_) ?_ ?_
           rotate_left
           ·show Act.put _ (some 89) _ = _
            simp only [Act.put, Cmp.s, Cmp.z, Cmp.c, i64_w, i32_w]; rfl
           refine one_ (i := 5) (N := some 93) (Cmp.bm 6 6) rfl rfl (one_of HT_.out (by kernel_rfl)) (by decide) (fun K hK => ?_)
           refine goes_ Try.func16 (by kernel_rfl) rfl #[.agg #[.int .i64 a3_0, .int .i64 a3_1, .int .i64 a3_2, .int .i64 a3_3]] (by rfl) rfl rfl Cmp.q ?_
           with_reducible refine (laws_toKeyStore.calls a3_0 a3_1 a3_2 a3_3 t446 t447 t448 t449 _ A61.out).mono ?_
           rintro e w68 ⟨rfl, hb⟩; refine ⟨_, rfl, ?_⟩
           have n0_ := Aside0.mk (Kd.R_below (Cmp.rr HO_10.out) hb)
           have n1_ := Aside0.mk (Kd.R_below (Cmp.rr HO_13.out) hb)
           have n2_ := Aside0.mk (Kd.R_below (Cmp.rr HO445.out) hb)
           have n3_ := Aside0.mk (blk_below (Cmp.b BK408.out) hb)
           have n4_ := Aside0.mk (below_step (Cmp.g HB.out) hb)
           clear HO_10; clear HO_13; clear HO445; clear BK408; clear HB; have HO_10 := n0_; have HO_13 := n1_; have HO445 := n2_; have BK408 := n3_; have HB := n4_; clear n0_ n1_ n2_ n3_ n4_; (try clear hb); (try clear hb2); (try clear hk); (try clear hi)
           obtain ⟨Ao69, co69, eo69⟩ := Kd.R_slice HO445.out
           (first | subst eo69 | (injection eo69 with f1_ f2_ f3_; have f4_ := f1_.symm; have f5_ := f3_.symm; clear f1_ f2_ f3_; subst f4_; subst f5_))
           refine hK.out _ _ ⟨(blk_cell BK408.out 0).trans rfl, (blk_cell BK408.out 1).trans rfl, (blk_cell BK408.out 2).trans rfl, (blk_cell BK408.out 3).trans rfl⟩ (fun hHeld => ?_)
           clear hK K
           refine norm_ (a' := ?_) ?_ ?_
           rotate_left
           ·show Act.put _ (some 93) _ = _
            simp only [Act.put, Cmp.s, Cmp.z, Cmp.c, i64_w, i32_w]; rfl
           refine one_ (i := 6) (N := some 94) (Cmp.bm 7 5) rfl rfl (one_of HT_.out (by kernel_rfl)) (by decide) (fun K hK => ?_)
           refine goes_ Try.func9 (by kernel_rfl) rfl #[.slice Ao69 t443.length co69, .int .i64 a1, .int .i64 a2, .agg #[.int .i64 t446, .int .i64 t447, .int .i64 t448, .int .i64 t449]] (by rfl) rfl rfl Cmp.q ?_
           with_reducible refine (impl_AppendEntry.calls kj38 _ _ t443 a1 a2 t446 t447 t448 t449 t450 t453 _ ?side1 ?side2 A62.out).mono ?_
           (case side1 => exact Cmp.rc (Kd.R_reads' HO445.out).2.2)
           (case side2 => exact (Kd.R_reads' HO445.out).2.1)
           rintro e w70 ⟨v451, rfl, ho0, hb⟩; refine ⟨_, rfl, ?_⟩
           have n0_ := Aside0.mk (Kd.R_elder' (Cmp.rr HO_10.out) (Kd.R_base ho0) hb)
           have n1_ := Aside0.mk (Kd.R_elder' (Cmp.rr HO_13.out) (Kd.R_base ho0) hb)
           have n2_ := Aside0.mk (Kd.R_elder' (Cmp.rr HO445.out) (Kd.R_base ho0) hb)
           have n3_ := Aside0.mk (Kd.R_lower (Kd.R_new' (Kd.R_new' (Kd.R_new' ho0 (Kd.R_lt (Cmp.rr HO_10.out))) (Kd.R_lt (Cmp.rr HO_13.out))) (Kd.R_lt (Cmp.rr HO445.out))) (below_size (Cmp.g HB.out)))
           have n4_ := Aside0.mk (blk_below (Cmp.b BK408.out) hb)
           have n5_ := Aside0.mk (below_step (Cmp.g HB.out) hb)
           clear HO_10; clear HO_13; clear HO445; clear BK408; clear HB; have HO_10 := n0_; have HO_13 := n1_; have HO445 := n2_; have HO452 := n3_; have BK408 := n4_; have HB := n5_; clear n0_ n1_ n2_ n3_ n4_ n5_; (try clear hb); (try clear hb2); (try clear hk); (try clear hi); (try clear ho0)
           refine hK.out _ _ ⟨(blk_cell BK408.out 0).trans rfl, (blk_cell BK408.out 1).trans rfl, (blk_cell BK408.out 2).trans rfl, (blk_cell BK408.out 3).trans rfl⟩ (fun hHeld => ?_)
           clear hK K
           refine norm_ (a' := ?_) ?_ ?_
           rotate_left
           ·show Act.put _ (some 94) _ = _
            simp only [Act.put, Cmp.s, Cmp.z, Cmp.c, i64_w, i32_w]; rfl
           refine Cmp.pu HT_ 7 87 (Cmp.bm 8 4) ?_; refine Cmp.pu HT_ 8 95 (Cmp.bm 9 3) ?_; refine Cmp.pu HT_ 9 96 (Cmp.bm 10 2) ?_; refine Cmp.pu HT_ 10 18 (Cmp.bm 11 1) ?_; refine Cmp.pu HT_ 11 19 (Cmp.bm 12 0) ?_
           refine done_ (done_of HT_.out (by kernel_rfl)) ?_
           go_upto_region 25 with (fail)
           go_cut [105] (fun v105 wc => ∃ (kq : Nat) (x105_62 : Bool), v105 = .bool x105_62 ∧ Aside0 (laws_FnExactAppendEntry.j2 kq t441 t440 x105_62 = some true) ∧ Aside0 (kq ≤ kj38) ∧ Aside0 (Kd.R k74 74 wc w.heap.size (fun _ => True) (.slice Ao64 t428.length co64) t441) ∧ Aside0 (wc.heap[gb408]? = some (.cells #[.int .i64 a3_0, .int .i64 a3_1, .int .i64 a3_2, .int .i64 a3_3] 36 (0, 0))) ∧ Aside0 (Below w.heap.size w wc))
           case first =>
            have H := HC63.out; clear HC63; replace H := Option.bind_eq_some_iff.mp H; obtain ⟨t454, A710, H⟩ := H; (try dsimp only at H); have A71 := Aside0.mk A710; clear A710
            by_cases c72 : t454 = true
            ·subst c72; rw [if_pos rfl] at H
             have H' := Aside0.mk H
             clear H
             obtain ⟨Ao73, co73, eo73⟩ := Kd.R_slice HO452.out
             subst eo73
             obtain ⟨Ao74, co74, eo74⟩ := Kd.R_slice HO_10.out
             subst eo74
             go_wp2_with (first | ((with_reducible refine gate_callee (f := 17) rfl ?_); refine goesL_ (some 99) rfl rfl Try.func17 (by kernel_rfl) rfl #[.slice Ao73 t450.length co73, .slice Ao74 t417.length co74] rfl Cmp.q ?_; (with_reducible refine (laws_eqLogEntryS.calls kj38 _ _ t450 _ _ t417 true _ ?side1 ?side2 ?side3 ?side4 A71.out).mono ?_); (case side1 => exact Cmp.rc (Kd.R_reads' HO452.out).2.2); (case side2 => exact (Kd.R_reads' HO452.out).2.1); (case side3 => exact Cmp.rc (Kd.R_reads' HO_10.out).2.2); (case side4 => exact (Kd.R_reads' HO_10.out).2.1); rintro e w75 ⟨rfl, hb⟩; refine ⟨_, rfl, ?_⟩; have n0_ := Aside0.mk (Kd.R_below (Cmp.rr HO_10.out) hb); have n1_ := Aside0.mk (Kd.R_below (Cmp.rr HO_13.out) hb); have n2_ := Aside0.mk (Kd.R_below (Cmp.rr HO445.out) hb); have n3_ := Aside0.mk (Kd.R_below (Cmp.rr HO452.out) hb); have n4_ := Aside0.mk (blk_below (Cmp.b BK408.out) hb); have n5_ := Aside0.mk (below_step (Cmp.g HB.out) hb); clear HO_10; clear HO_13; clear HO445; clear HO452; clear BK408; clear HB; have HO_10 := n0_; have HO_13 := n1_; have HO445 := n2_; have HO452 := n3_; have BK408 := n4_; have HB := n5_; clear n0_ n1_ n2_ n3_ n4_ n5_; (try clear hb); (try clear hb2); (try clear hk); (try clear hi)))
             go_meet
             case rel => exact ⟨_, ((t453 != t420)), (by first | rfl | simp | simp [*]), H', ⟨by have := HJ13.out; have := HJ38.out; first | omega | exact Nat.le_refl _⟩, ⟨by (with_reducible repeat (first | apply Kd.R_alloc | apply Kd.R_drewN | apply Kd.R_drew)); exact Kd.R_mono HO_13.out (fun _ hk => trivial)⟩, ⟨by (with_reducible repeat (first | refine blk_drewN ?_ _ | refine blk_drew ?_ | refine blk_alloc ?_ _)); exact BK408.out⟩, ⟨Cmp.g HB.out⟩⟩
            ·replace c72 := Bool.eq_false_iff.mpr c72
             subst c72
             have H1 : (laws_FnExactAppendEntry.j2 kj38 t441 t440 true) = some true := by first | (rw [if_neg (show ¬ (false = true) by decide)] at H; exact H) | (rw [if_neg (show ¬ (false = true) by decide)] at H)
             clear H; have H := H1; clear H1
             have H' := Aside0.mk H
             clear H
             obtain ⟨Ao76, co76, eo76⟩ := Kd.R_slice HO452.out
             subst eo76
             obtain ⟨Ao77, co77, eo77⟩ := Kd.R_slice HO_10.out
             subst eo77
             go_wp2_with (first | ((with_reducible refine gate_callee (f := 17) rfl ?_); refine goesL_ (some 99) rfl rfl Try.func17 (by kernel_rfl) rfl #[.slice Ao76 t450.length co76, .slice Ao77 t417.length co77] rfl Cmp.q ?_; (with_reducible refine (laws_eqLogEntryS.calls kj38 _ _ t450 _ _ t417 false _ ?side1 ?side2 ?side3 ?side4 A71.out).mono ?_); (case side1 => exact Cmp.rc (Kd.R_reads' HO452.out).2.2); (case side2 => exact (Kd.R_reads' HO452.out).2.1); (case side3 => exact Cmp.rc (Kd.R_reads' HO_10.out).2.2); (case side4 => exact (Kd.R_reads' HO_10.out).2.1); rintro e w78 ⟨rfl, hb⟩; refine ⟨_, rfl, ?_⟩; have n0_ := Aside0.mk (Kd.R_below (Cmp.rr HO_10.out) hb); have n1_ := Aside0.mk (Kd.R_below (Cmp.rr HO_13.out) hb); have n2_ := Aside0.mk (Kd.R_below (Cmp.rr HO445.out) hb); have n3_ := Aside0.mk (Kd.R_below (Cmp.rr HO452.out) hb); have n4_ := Aside0.mk (blk_below (Cmp.b BK408.out) hb); have n5_ := Aside0.mk (below_step (Cmp.g HB.out) hb); clear HO_10; clear HO_13; clear HO445; clear HO452; clear BK408; clear HB; have HO_10 := n0_; have HO_13 := n1_; have HO445 := n2_; have HO452 := n3_; have BK408 := n4_; have HB := n5_; clear n0_ n1_ n2_ n3_ n4_ n5_; (try clear hb); (try clear hb2); (try clear hk); (try clear hi)))
             go_meet
             case rel => exact ⟨_, (true), (by first | rfl | simp | simp [*]), H', ⟨by have := HJ13.out; have := HJ38.out; first | omega | exact Nat.le_refl _⟩, ⟨by (with_reducible repeat (first | apply Kd.R_alloc | apply Kd.R_drewN | apply Kd.R_drew)); exact Kd.R_mono HO_13.out (fun _ hk => trivial)⟩, ⟨by (with_reducible repeat (first | refine blk_drewN ?_ _ | refine blk_drew ?_ | refine blk_alloc ?_ _)); exact BK408.out⟩, ⟨Cmp.g HB.out⟩⟩
           case rest =>
            clear HC63; (try clear c1); (try clear c2); (try clear p2); (try clear c3); (try clear c4); (try clear c5); (try clear c6); (try clear c6b0); (try clear c7); (try clear c9); (try clear c10); (try clear c14); (try clear c15); (try clear c16); (try clear c17); (try clear c18); (try clear c19); (try clear c27); (try clear c34); (try clear c37); (try clear c44); (try clear c44b0); (try clear c46); (try clear c53); (try clear c56); (try clear c56b0); (try clear c59); (try clear c59b0); (try clear c59b1); (try clear c72); (try clear hcz22_0); (try clear hcz22_1); (try clear hcz22_2); (try clear hcz22_3); (try clear hfz22_0); (try clear hfz22_1); (try clear hfz22_2); (try clear hfz22_3); (try clear p2)
            obtain ⟨kq, x105_62, rfl, HA, HJ62, HO_13, BK408, HB⟩ := hcut
            have hl13_62 := (Kd.R_reads' HO_13.out).1
            rw [hl13_62] at HO_13
            (try simp only [hl13_62])
            (try simp only [hl13_62] at BK408)
            cases kq with
            | zero => exact absurd HA.out (by simp [laws_FnExactAppendEntry.j2])
            | succ kj62 =>
             have H := HA.out; clear HA
             simp only [laws_FnExactAppendEntry.j2] at H
             by_cases c79 : x105_62 = true
             ·subst c79; rw [if_pos rfl] at H; exact absurd H (by simp)
             ·replace c79 := Bool.eq_false_iff.mpr c79
              subst c79
              have H1 : ((laws_heldLogEntryS.f kj62 t441 1).bind fun t455 => (if t455 < 0 then (some false) else (if t455 = t440 then (some true) else (some false)))) = some true := by first | (rw [if_neg (show ¬ (false = true) by decide)] at H; exact H) | (rw [if_neg (show ¬ (false = true) by decide)] at H)
              clear H; have H := H1; clear H1; replace H := Option.bind_eq_some_iff.mp H; obtain ⟨t455, A800, H⟩ := H; (try dsimp only at H); have A80 := Aside0.mk A800; clear A800
              by_cases c81 : t455 < 0
              ·rw [if_pos c81] at H; have c81b0 : decide (t455 < 0) = true := decide_eq_true c81; clear c81; exact absurd H (by simp)
              ·rw [if_neg c81] at H; have c81b0 : decide (t455 < 0) = false := decide_eq_false c81; clear c81
               by_cases c82 : t455 = t440
               ·rw [if_pos c82] at H; have c82b0 : (t455 == t440) = true := beq_iff_eq.mpr c82; have c82b1 : (t455 != t440) = false := bne_eq_false_iff_eq.mpr c82; clear c82; clear H
                go_wp2_with (first | ((with_reducible refine gate_callee (f := 19) rfl ?_); refine goesL_ (some 108) rfl rfl Try.func19 (by kernel_rfl) rfl #[.slice Ao64 t441.length co64, .int .i64 1] rfl Cmp.q ?_; (with_reducible refine (laws_heldLogEntryS.calls kj62 _ _ t441 1 t455 _ ?side1 ?side2 A80.out).mono ?_); (case side1 => exact Cmp.rc (Kd.R_reads' HO_13.out).2.2); (case side2 => exact (Kd.R_reads' HO_13.out).2.1); rintro e w' ⟨rfl, ⟨nd, rfl⟩⟩; refine ⟨_, rfl, ?_⟩))
                go_ret
                exact ⟨by first | rfl | (simp [errW_none, errW_some] <;> rfl) | (simp [*, errW_none, errW_some] <;> rfl), Cmp.g HB.out⟩
               ·rw [if_neg c82] at H; have c82b0 : (t455 == t440) = false := beq_eq_false_iff_ne.mpr c82; have c82b1 : (t455 != t440) = true := bne_iff_ne.mpr c82; exact absurd H (by simp)
          ·rw [if_neg c59] at H; have c59b0 : (t442 == t440) = false := beq_eq_false_iff_ne.mpr c59; have c59b1 : (t442 != t440) = true := bne_iff_ne.mpr c59; exact absurd H (by simp)
     ·replace c37 := Bool.eq_false_iff.mpr c37
      subst c37
      have H1 : (some false) = some true := by first | (rw [if_neg (show ¬ (false = true) by decide)] at H; exact H) | (rw [if_neg (show ¬ (false = true) by decide)] at H)
      clear H; have H := H1; clear H1
      exact absurd H (by simp)end Go.Proofs.Ytpgjecknkmmnhaa.PFnExactAppendEntry
