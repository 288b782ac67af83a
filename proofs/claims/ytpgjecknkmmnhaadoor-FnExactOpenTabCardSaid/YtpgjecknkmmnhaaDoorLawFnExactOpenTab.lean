/- The row of the law FnExactOpenTab, out of its plain law and the contract of its function, and its card. No condition. -/
import Derived.Test.YtpgjecknkmmnhaaDoorCards
import Derived.Test.YtpgjecknkmmnhaaDoorTie
import Derived.Test.YtpgjecknkmmnhaaDoorLib
import Derived.Deep.DeepHandedRow
import Derived.Lib.LaidTab
import Derived.Shelf.Vars
import Derived.Test.YtpgjecknkmmnhaaDoorTFnExactOpenTab
import Derived.Test.YtpgjecknkmmnhaaDoorOpFnExactOpenTab
import Derived.Test.YtpgjecknkmmnhaaDoorPureFnExactOpenTab
import Derived.WalkKit
import Derived.ProofKit
import Derived.OpenShut
import Derived.ShutString
import Derived.ChangeOld
import Derived.Below
import Derived.SizedLaws
import Derived.Carry
namespace Go.Proofs.YtpgjecknkmmnhaaDoor.fnExactOpenTab
open Go.ChangeShapes Go.WideShapes Go.ChangeAt Go.RowKit Go.Proofs.YtpgjecknkmmnhaaDoor.PFnExactOpenTab Go.Proofs.YtpgjecknkmmnhaaDoor.Op Go.Proofs.YtpgjecknkmmnhaaDoorW.PrintWords
open Go.ChangeMaps (open_string shut_string)
set_option linter.unusedVariables false
theorem own : ownKnob Tryd.prog.godebug = none := by kernel_rfl
theorem laidOut : laidOutB Tryd.prog = true := by kernel_rfl
theorem opens0 : Opens Tryd.prog 26 (Kd.pair (Kd.pair (Kd.int .i64) (Kd.pair (Kd.int .i64) (Kd.pair (Kd.int .i64) (Kd.int .i64)))) (Kd.pair (Kd.slice 58 k58) (Kd.int .i64))) (fun x => (fun x => (fun n => (Lit.int .i64 n).wf = true) x.1 ∧ (fun x => (fun n => (Lit.int .i64 n).wf = true) x.1 ∧ (fun x => (fun n => (Lit.int .i64 n).wf = true) x.1 ∧ (fun n => (Lit.int .i64 n).wf = true) x.2) x.2) x.2) x.1 ∧ (fun x => (fun xs => xs.length ≤ 9223372036854775807 ∧ ∀ x ∈ xs, Fit58 x) x.1 ∧ (fun n => (Lit.int .i64 n).wf = true) x.2) x.2) := (opens_struct Tryd.underlying26 (opensAt_cons (opens_struct Tryd.underlying23 (opensAt_cons (opens_int Tryd.underlying3) (by rfl) (by kernel_rfl) (opensAt_cons (opens_int Tryd.underlying3) (by rfl) (by kernel_rfl) (opensAt_cons (opens_int Tryd.underlying3) (by rfl) (by kernel_rfl) (opensAt_one (opens_int Tryd.underlying3) (by rfl) (by kernel_rfl))))) (by kernel_rfl)) (by rfl) (by kernel_rfl) (opensAt_cons (opens_slice Tryd.underlying24 op58 (by kernel_rfl)) (by rfl) (by kernel_rfl) (opensAt_one (opens_int Tryd.underlying3) (by rfl) (by kernel_rfl)))) (by kernel_rfl))
theorem opens1 : Opens Tryd.prog 28 (Kd.pair Kd.bool (Kd.pair Kd.string (Kd.int .i64))) (fun x => (fun _ => True) x.1 ∧ (fun x => (fun s => s.size ≤ 9223372036854775807) x.1 ∧ (fun n => (Lit.int .i64 n).wf = true) x.2) x.2) := (opens_struct Tryd.underlying28 (opensAt_cons (opens_bool Tryd.underlying4) (by rfl) (by kernel_rfl) (opensAt_cons (opens_string Tryd.underlying9) (by rfl) (by kernel_rfl) (opensAt_one (opens_int Tryd.underlying3) (by rfl) (by kernel_rfl)))) (by kernel_rfl))
theorem opens2 : Opens Tryd.prog 28 (Kd.pair Kd.bool (Kd.pair Kd.string (Kd.int .i64))) (fun x => (fun _ => True) x.1 ∧ (fun x => (fun s => s.size ≤ 9223372036854775807) x.1 ∧ (fun n => (Lit.int .i64 n).wf = true) x.2) x.2) := (opens_struct Tryd.underlying28 (opensAt_cons (opens_bool Tryd.underlying4) (by rfl) (by kernel_rfl) (opensAt_cons (opens_string Tryd.underlying9) (by rfl) (by kernel_rfl) (opensAt_one (opens_int Tryd.underlying3) (by rfl) (by kernel_rfl)))) (by kernel_rfl))
mutual
def cellsD : DataW Unit → List Value
  | .lit (.int k n) => [.int k n]
  | .lit (.bool b) => [.bool b]
  | .lit (.string l) => [.string ⟨l.toArray⟩]
  | .agg parts => cellsDs parts
  | _ => []
def cellsDs : List (DataW Unit) → List Value
  | [] => []
  | d :: r => cellsD d ++ cellsDs r
 end
def putCells (h : Array Obj) (g : Nat) (cs : Array Value) : Array Obj := h.modify g fun
  | .cells _ t frozen => .cells cs t frozen
  | o => o
/-- A world for the witness: the listed variables hold what the row lists. -/
noncomputable def laidWorld (os : Os) : World := { World.holding Tryd.prog os ⟨#[], #[], []⟩ with heap := (putCells (putCells (World.holding Tryd.prog os ⟨#[], #[], []⟩).heap 2 (cellsD Rows.laid_unicode_utf8_acceptRanges).toArray) 1 (cellsD Rows.laid_unicode_utf8_first).toArray) }
theorem laid_met (os : Os) : laidMet Tryd.prog Rows.fnExactOpenTabRow.laid ((laidWorld os).forCall (fun _ _ => 0) ⟨#[], #[.agg #[.int .i64 0, .int .i64 0, .int .i64 0, .int .i64 0, .slice none 0 0, .int .i64 0], .agg #[.bool false, .string ByteArray.empty, .int .i64 0], .agg #[.bool false, .string ByteArray.empty, .int .i64 0]], []⟩).memory :=
  laidMet_of_run' 8 (by kernel_rfl) (by kernel_rfl)
theorem reads (os : Os) {H : Type} (enc : TypeId × Value → H) : ∃ places, DataW.whole enc Tryd.prog ((laidWorld os).forCall (fun _ _ => 0) ⟨#[], #[.agg #[.int .i64 0, .int .i64 0, .int .i64 0, .int .i64 0, .slice none 0 0, .int .i64 0], .agg #[.bool false, .string ByteArray.empty, .int .i64 0], .agg #[.bool false, .string ByteArray.empty, .int .i64 0]], []⟩).memory Tryd.f3.params.toList Rows.fnExactOpenTabSpec.vars false (#[.agg #[.int .i64 0, .int .i64 0, .int .i64 0, .int .i64 0, .slice none 0 0, .int .i64 0], .agg #[.bool false, .string ByteArray.empty, .int .i64 0], .agg #[.bool false, .string ByteArray.empty, .int .i64 0]] : Array Value).toList 8 = some ([.agg [.agg [.lit (.int .i64 0), .lit (.int .i64 0), .lit (.int .i64 0), .lit (.int .i64 0)], .nil, .lit (.int .i64 0)], .agg [.lit (.bool false), .lit (.string []), .lit (.int .i64 0)], .agg [.lit (.bool false), .lit (.string []), .lit (.int .i64 0)]], [], places) :=
  ⟨[], by kernel_rfl⟩
set_option maxRecDepth 100000 in
theorem contract (H : Type) (enc : TypeId × Value → H) (W : World) (base : Nat) (args : Array Value) (ds gs : List (DataW H)) (before : List MemPlace)
    (hval0 : ∀ (j : Nat) t v, Tryd.f3.params[j]? = some t → args[j]? = some v → Value.okWide Tryd.prog W .any base t v)
    (hW : DataW.Whole enc Tryd.prog Tryd.f3.params.toList Rows.fnExactOpenTabSpec.vars false W args.toList ds gs before) (hS : W.ShapedOpen Tryd.prog) :
    Calls Tryd.prog 3 args W fun e W' => ∃ v, e = .returned v ∧ Rows.fnExactOpenTabSpec.post enc Tryd.prog Tryd.f3 false true false false W args v W' := by
  have hm : Lib.HasM W := cell_of_shapedOpen_int (g := 0) (t := 3) (zero := #[.int .i64 0]) hS (of_decide_eq_true (by kernel_rfl)) (by kernel_rfl) rfl (by kernel_rfl) (by kernel_rfl) Tryd.underlying3
  have hval : ∀ (j : Nat) t v, Tryd.f3.params[j]? = some t → args[j]? = some v → Value.okWide Tryd.prog W .any base t v := hval0
  have hW' := hW
  obtain ⟨p, q, hA0, hV, rfl, hfz, hnd⟩ := hW
  have hA : DataW.TrodAll enc Tryd.prog W 0 (fun _ => true) true Tryd.f3.params.toList args.toList ds p := hA0
  rw [Tryd.params3] at hA hval
  obtain ⟨v0, vs0, d0, ds0, p0, q0, hargs, rfl, rfl, h0, r0⟩ := trodAll_cons hA
  obtain ⟨v1, vs1, d1, ds1, p1, q1, rfl, rfl, rfl, h1, r1⟩ := trodAll_cons r0
  obtain ⟨v2, vs2, d2, ds2, p2, q2, rfl, rfl, rfl, h2, r2⟩ := trodAll_cons r1
  obtain ⟨rfl, rfl, rfl⟩ := trodAll_nil r2
  obtain rfl : args = #[v0, v1, v2] := by cases args; simp_all
  obtain ⟨rfl, rfl⟩ := trodVars_none hV
  have k0 := h0
  have lt0 : ∀ x ∈ p0, x.block < W.heap.size := by obtain ⟨m, hm⟩ := k0; exact DataW.trod_lt m _ _ _ hm
  obtain ⟨⟨cs0⟩, rfl, hz0⟩ := okWide_struct Tryd.underlying26 (hval 0 26 v0 rfl rfl)
  obtain ⟨y0, K0, F0⟩ : ∃ y, (Kd.pair (Kd.pair (Kd.int .i64) (Kd.pair (Kd.int .i64) (Kd.pair (Kd.int .i64) (Kd.int .i64)))) (Kd.pair (Kd.slice 58 k58) (Kd.int .i64))).K W y cs0 ∧ (fun x => (fun x => (fun n => (Lit.int .i64 n).wf = true) x.1 ∧ (fun x => (fun n => (Lit.int .i64 n).wf = true) x.1 ∧ (fun x => (fun n => (Lit.int .i64 n).wf = true) x.1 ∧ (fun n => (Lit.int .i64 n).wf = true) x.2) x.2) x.2) x.1 ∧ (fun x => (fun xs => xs.length ≤ 9223372036854775807 ∧ ∀ x ∈ xs, Fit58 x) x.1 ∧ (fun n => (Lit.int .i64 n).wf = true) x.2) x.2) y := by obtain ⟨m, hm⟩ := h0; exact opens0 hm
  obtain ⟨⟨a0_0, a0_1, a0_2, a0_3⟩, l0_4, a0_5⟩ := y0
  obtain ⟨u0_1, w0_1, rfl, ⟨u0_2, w0_2, rfl, rfl, ⟨u0_3, w0_3, rfl, rfl, ⟨u0_4, w0_4, rfl, rfl, rfl⟩⟩⟩, ⟨u0_5, w0_5, rfl, ⟨A0_4, c0_4, rfl, hc0_4, hr0_4⟩, rfl⟩⟩ := K0
  have k1 := h1
  have lt1 : ∀ x ∈ p1, x.block < W.heap.size := by obtain ⟨m, hm⟩ := k1; exact DataW.trod_lt m _ _ _ hm
  obtain ⟨⟨cs1⟩, rfl, hz1⟩ := okWide_struct Tryd.underlying28 (hval 1 28 v1 rfl rfl)
  obtain ⟨y1, K1, F1⟩ : ∃ y, (Kd.pair Kd.bool (Kd.pair Kd.string (Kd.int .i64))).K W y cs1 ∧ (fun x => (fun _ => True) x.1 ∧ (fun x => (fun s => s.size ≤ 9223372036854775807) x.1 ∧ (fun n => (Lit.int .i64 n).wf = true) x.2) x.2) y := by obtain ⟨m, hm⟩ := h1; exact opens1 hm
  obtain ⟨a1_0, a1_1, a1_2⟩ := y1
  obtain ⟨u1_1, w1_1, rfl, rfl, ⟨u1_2, w1_2, rfl, rfl, rfl⟩⟩ := K1
  have k2 := h2
  have lt2 : ∀ x ∈ p2, x.block < W.heap.size := by obtain ⟨m, hm⟩ := k2; exact DataW.trod_lt m _ _ _ hm
  obtain ⟨⟨cs2⟩, rfl, hz2⟩ := okWide_struct Tryd.underlying28 (hval 2 28 v2 rfl rfl)
  obtain ⟨y2, K2, F2⟩ : ∃ y, (Kd.pair Kd.bool (Kd.pair Kd.string (Kd.int .i64))).K W y cs2 ∧ (fun x => (fun _ => True) x.1 ∧ (fun x => (fun s => s.size ≤ 9223372036854775807) x.1 ∧ (fun n => (Lit.int .i64 n).wf = true) x.2) x.2) y := by obtain ⟨m, hm⟩ := h2; exact opens2 hm
  obtain ⟨a2_0, a2_1, a2_2⟩ := y2
  obtain ⟨u2_1, w2_1, rfl, rfl, ⟨u2_2, w2_2, rfl, rfl, rfl⟩⟩ := K2
  clear hA0 hval0
  obtain ⟨k, H⟩ := Pure.FnExactOpenTab a0_0 a0_1 a0_2 a0_3 l0_4 a0_5 a1_0 a1_1 a1_2 a2_0 a2_1 a2_2 F0.2.1 F1.2.1 F2.2.1
  refine (laws_FnExactOpenTab.calls k a0_0 a0_1 a0_2 a0_3 A0_4 c0_4 l0_4 a0_5 a1_0 a1_1 a1_2 a2_0 a2_1 a2_2 W hr0_4 hc0_4 hm H).mono fun e W' h_ => ?_
  obtain ⟨he, bel0⟩ := h_
  have bel : Below W.heap.size W W' := bel0
  subst he
  exact ⟨_, rfl, _, _, _, [], _, [], hW', trodAll_mk1 (shut_bool Tryd.underlying4 _), (trodAll_cons_mk (Below.trod laidOut (by kernel_rfl) (of_decide_eq_true (by kernel_rfl)) k0 bel lt0) (trodAll_cons_mk (Below.trod laidOut (by kernel_rfl) (of_decide_eq_true (by kernel_rfl)) k1 bel lt1) (trodAll_cons_mk (Below.trod laidOut (by kernel_rfl) (of_decide_eq_true (by kernel_rfl)) k2 bel lt2) trodAll_mk0))), rfl, bel.frame _, fun h => by cases h⟩
set_option maxRecDepth 100000 in
theorem lifted (os : Os) (started : os.Started) (H : Type) (enc : TypeId × Value → H) (F : Stop.Interp) :
    ReturnsInHanded {} Tryd.checked os 3 .any ((OpenSpec.ofChange Rows.fnExactOpenTabSpec).preRow enc Tryd.prog Tryd.f3 Rows.fnExactOpenTabRow.domain false Rows.fnExactOpenTabRow.laid) (((OpenSpec.ofChange Rows.fnExactOpenTabSpec).at F).post enc Tryd.prog Tryd.f3 false true false false) := by
  obtain ⟨places, hx⟩ := reads os enc
  refine returnsInHanded_of_row (C := Tryd.checked) (s := OpenSpec.ofChange Rows.fnExactOpenTabSpec) own started (by kernel_rfl) Tryd.func3
    (witness_row_at (enc := enc) (C := Tryd.checked) false (laidWorld os) #[.agg #[.int .i64 0, .int .i64 0, .int .i64 0, .int .i64 0, .slice none 0 0, .int .i64 0], .agg #[.bool false, .string ByteArray.empty, .int .i64 0], .agg #[.bool false, .string ByteArray.empty, .int .i64 0]] rfl (by kernel_rfl) (by kernel_rfl) (by kernel_rfl)
      (OpenSpec.preRow_of_cond 8 hx (by kernel_rfl) (fun k hk => by cases hk) (by kernel_rfl) (laid_met os))) ?_
  intro W base args ds gs before hval hW _ _ _ _ hS _
  exact contract H enc W base args ds gs before hval hW hS
theorem said : Rows.FnExactOpenTabSaid :=
  OpenClaim.holds_of_cond 3 Tryd.f3 rfl rfl rfl rfl rfl rfl rfl ⟨rfl, rfl, rfl, rfl, rfl⟩ rfl rfl rfl rfl rfl (by kernel_rfl) Tryd.func3 (by kernel_rfl)
    (of_decide_eq_true (by kernel_rfl)) (by unfold Func.isWrapper; first | (rw [if_pos (by decide +kernel)]; kernel_rfl) | (rw [if_neg (by decide +kernel)]; exact ⟨rfl, rfl⟩))
    (fun os started H enc _ F => by rw [OpenClaim.pre_eq_preRow]; exact lifted os started H enc F)
theorem plain (f : FuncId) (fn : Func) (hf : Tryd.pinned.checked.prog.funcNamed "loop.example/g00581/laws.FnExactOpenTab" = some f) (hfn : Tryd.pinned.checked.prog.funcs[f]? = some fn) :
    false = Tryd.pinned.checked.prog.looks [] ∧ ∀ (j : Nat) t, fn.params[j]? = some t → Tryd.pinned.checked.prog.wantsStandIn t = false := by
  obtain rfl : f = 3 := Option.some.inj ((show Tryd.prog.funcNamed "loop.example/g00581/laws.FnExactOpenTab" = some 3 by kernel_rfl).symm.trans hf) |>.symm
  obtain rfl : fn = Tryd.f3 := (Option.some.inj (Tryd.func3.symm.trans hfn)).symm
  refine ⟨by kernel_rfl, fun j t ht => ?_⟩
  rw [Tryd.params3] at ht
  rcases j with _ | _ | _ | j
  · obtain rfl : 26 = t := Option.some.inj ht
    exact (show Tryd.prog.wantsStandIn 26 = false by kernel_rfl)
  · obtain rfl : 28 = t := Option.some.inj ht
    exact (show Tryd.prog.wantsStandIn 28 = false by kernel_rfl)
  · obtain rfl : 28 = t := Option.some.inj ht
    exact (show Tryd.prog.wantsStandIn 28 = false by kernel_rfl)
  · simp at ht
theorem card : Rows.FnExactOpenTabCardSaid :=
  Claim7.holds_tied_plain_at .later [] _ _ _ _ said (fun _ h => by cases h) (by kernel_rfl) (fun _ h => by cases h) fnExactOpenTab_row_tie rfl ⟨rfl, rfl⟩ (by kernel_rfl) rfl plain (by kernel_rfl)
end Go.Proofs.YtpgjecknkmmnhaaDoor.fnExactOpenTab
namespace Go.Proofs.YtpgjecknkmmnhaaDoor
/-- The card, under a short name, for the claim. -/
theorem fnExactOpenTab_holds : Rows.FnExactOpenTabCardSaid := fnExactOpenTab.card
end Go.Proofs.YtpgjecknkmmnhaaDoor
