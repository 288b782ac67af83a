/- The row of the law FnExactEqualBrowsers, out of its plain law and the contract of its function. No condition. -/
import Derived.Test.YtjdkkfbcpbjpkaaRows
import Derived.Test.YtjdkkfbcpbjpkaaTFnExactEqualBrowsers
import Derived.Test.YtjdkkfbcpbjpkaaOpFnExactEqualBrowsers
import Derived.Test.YtjdkkfbcpbjpkaaPureFnExactEqualBrowsers
import Derived.WalkKit
import Derived.ProofKit
import Derived.OpenShut
import Derived.ShutString
import Derived.ChangeOld
import Derived.Below
import Derived.SizedLaws
import Derived.Carry
namespace Go.Proofs.Ytjdkkfbcpbjpkaa.fnExactEqualBrowsers
open Go.ChangeShapes Go.WideShapes Go.ChangeAt Go.RowKit Go.Proofs.Ytjdkkfbcpbjpkaa.PFnExactEqualBrowsers Go.Proofs.Ytjdkkfbcpbjpkaa.Op Go.Proofs.YtjdkkfbcpbjpkaaW.PrintWords
open Go.ChangeMaps (open_string shut_string)
set_option linter.unusedVariables false
theorem own : ownKnob Try.prog.godebug = none := by kernel_rfl
theorem laidOut : laidOutB Try.prog = true := by kernel_rfl
theorem opens0 : Opens Try.prog 49 (Kd.pair (Kd.pair (Kd.int .i64) (Kd.pair (Kd.int .i64) (Kd.pair (Kd.int .i64) (Kd.int .i64)))) (Kd.pair (Kd.slice 130 k130) (Kd.int .i64))) (fun x => (fun x => (fun n => (Lit.int .i64 n).wf = true) x.1 ∧ (fun x => (fun n => (Lit.int .i64 n).wf = true) x.1 ∧ (fun x => (fun n => (Lit.int .i64 n).wf = true) x.1 ∧ (fun n => (Lit.int .i64 n).wf = true) x.2) x.2) x.2) x.1 ∧ (fun x => (fun xs => xs.length ≤ 9223372036854775807 ∧ ∀ x ∈ xs, Fit130 x) x.1 ∧ (fun n => (Lit.int .i64 n).wf = true) x.2) x.2) := (opens_struct Try.underlying49 (opensAt_cons (opens_struct Try.underlying46 (opensAt_cons (opens_int Try.underlying3) (by rfl) (by kernel_rfl) (opensAt_cons (opens_int Try.underlying3) (by rfl) (by kernel_rfl) (opensAt_cons (opens_int Try.underlying3) (by rfl) (by kernel_rfl) (opensAt_one (opens_int Try.underlying3) (by rfl) (by kernel_rfl))))) (by kernel_rfl)) (by rfl) (by kernel_rfl) (opensAt_cons (opens_slice Try.underlying47 op130 (by kernel_rfl)) (by rfl) (by kernel_rfl) (opensAt_one (opens_int Try.underlying3) (by rfl) (by kernel_rfl)))) (by kernel_rfl))
theorem opens1 : Opens Try.prog 49 (Kd.pair (Kd.pair (Kd.int .i64) (Kd.pair (Kd.int .i64) (Kd.pair (Kd.int .i64) (Kd.int .i64)))) (Kd.pair (Kd.slice 130 k130) (Kd.int .i64))) (fun x => (fun x => (fun n => (Lit.int .i64 n).wf = true) x.1 ∧ (fun x => (fun n => (Lit.int .i64 n).wf = true) x.1 ∧ (fun x => (fun n => (Lit.int .i64 n).wf = true) x.1 ∧ (fun n => (Lit.int .i64 n).wf = true) x.2) x.2) x.2) x.1 ∧ (fun x => (fun xs => xs.length ≤ 9223372036854775807 ∧ ∀ x ∈ xs, Fit130 x) x.1 ∧ (fun n => (Lit.int .i64 n).wf = true) x.2) x.2) := (opens_struct Try.underlying49 (opensAt_cons (opens_struct Try.underlying46 (opensAt_cons (opens_int Try.underlying3) (by rfl) (by kernel_rfl) (opensAt_cons (opens_int Try.underlying3) (by rfl) (by kernel_rfl) (opensAt_cons (opens_int Try.underlying3) (by rfl) (by kernel_rfl) (opensAt_one (opens_int Try.underlying3) (by rfl) (by kernel_rfl))))) (by kernel_rfl)) (by rfl) (by kernel_rfl) (opensAt_cons (opens_slice Try.underlying47 op130 (by kernel_rfl)) (by rfl) (by kernel_rfl) (opensAt_one (opens_int Try.underlying3) (by rfl) (by kernel_rfl)))) (by kernel_rfl))
set_option maxRecDepth 100000 in
theorem lifted (os : Os) (started : os.Started) (H : Type) (enc : TypeId × Value → H) :
    ReturnsInHanded {} Try.checked os 6 .any (Rows.fnExactEqualBrowsersSpec.pre6 enc Try.prog Try.f6 Rows.fnExactEqualBrowsersRow.domain false) (Rows.fnExactEqualBrowsersSpec.post enc Try.prog Try.f6 false true false false) := by
  refine returnsInHanded_of_change_sized (C := Try.checked) own started (by kernel_rfl) Try.func6
    (ChangeSpec.witness6 (enc := enc) (C := Try.checked) false ⟨#[], #[.agg #[.int .i64 0, .int .i64 0, .int .i64 0, .int .i64 0, .slice none 0 0, .int .i64 0], .agg #[.int .i64 0, .int .i64 0, .int .i64 0, .int .i64 0, .slice none 0 0, .int .i64 0]], []⟩ 8 (by kernel_rfl) (by kernel_rfl) (by kernel_rfl) (by kernel_rfl)) ?_
  intro W base args ds gs before hval0 hW hcnd hsz0 _
  have hval : ∀ (j : Nat) t v, Try.f6.params[j]? = some t → args[j]? = some v → Value.okWide Try.prog W .any base t v := hval0
  have hW' := hW
  obtain ⟨p, q, hA0, hV, rfl, hfz, hnd⟩ := hW
  have hA : DataW.TrodAll enc Try.prog W 0 (fun _ => true) true Try.f6.params.toList args.toList ds p := hA0
  rw [Try.params6] at hA hval
  obtain ⟨v0, vs0, d0, ds0, p0, q0, hargs, rfl, rfl, h0, r0⟩ := trodAll_cons hA
  obtain ⟨v1, vs1, d1, ds1, p1, q1, rfl, rfl, rfl, h1, r1⟩ := trodAll_cons r0
  obtain ⟨rfl, rfl, rfl⟩ := trodAll_nil r1
  obtain rfl : args = #[v0, v1] := by cases args; simp_all
  obtain ⟨rfl, rfl⟩ := trodVars_none hV
  have k0 := h0
  have lt0 : ∀ x ∈ p0, x.block < W.heap.size := by obtain ⟨m, hm⟩ := k0; exact DataW.trod_lt m _ _ _ hm
  obtain ⟨⟨cs0⟩, rfl, hz0⟩ := okWide_struct Try.underlying49 (hval 0 49 v0 rfl rfl)
  obtain ⟨y0, K0, F0⟩ : ∃ y, (Kd.pair (Kd.pair (Kd.int .i64) (Kd.pair (Kd.int .i64) (Kd.pair (Kd.int .i64) (Kd.int .i64)))) (Kd.pair (Kd.slice 130 k130) (Kd.int .i64))).K W y cs0 ∧ (fun x => (fun x => (fun n => (Lit.int .i64 n).wf = true) x.1 ∧ (fun x => (fun n => (Lit.int .i64 n).wf = true) x.1 ∧ (fun x => (fun n => (Lit.int .i64 n).wf = true) x.1 ∧ (fun n => (Lit.int .i64 n).wf = true) x.2) x.2) x.2) x.1 ∧ (fun x => (fun xs => xs.length ≤ 9223372036854775807 ∧ ∀ x ∈ xs, Fit130 x) x.1 ∧ (fun n => (Lit.int .i64 n).wf = true) x.2) x.2) y := by obtain ⟨m, hm⟩ := h0; exact opens0 hm
  obtain ⟨⟨a0_0, a0_1, a0_2, a0_3⟩, l0_4, a0_5⟩ := y0
  obtain ⟨u0_1, w0_1, rfl, ⟨u0_2, w0_2, rfl, rfl, ⟨u0_3, w0_3, rfl, rfl, ⟨u0_4, w0_4, rfl, rfl, rfl⟩⟩⟩, ⟨u0_5, w0_5, rfl, ⟨A0_4, c0_4, rfl, hc0_4, hr0_4⟩, rfl⟩⟩ := K0
  have k1 := h1
  have lt1 : ∀ x ∈ p1, x.block < W.heap.size := by obtain ⟨m, hm⟩ := k1; exact DataW.trod_lt m _ _ _ hm
  obtain ⟨⟨cs1⟩, rfl, hz1⟩ := okWide_struct Try.underlying49 (hval 1 49 v1 rfl rfl)
  obtain ⟨y1, K1, F1⟩ : ∃ y, (Kd.pair (Kd.pair (Kd.int .i64) (Kd.pair (Kd.int .i64) (Kd.pair (Kd.int .i64) (Kd.int .i64)))) (Kd.pair (Kd.slice 130 k130) (Kd.int .i64))).K W y cs1 ∧ (fun x => (fun x => (fun n => (Lit.int .i64 n).wf = true) x.1 ∧ (fun x => (fun n => (Lit.int .i64 n).wf = true) x.1 ∧ (fun x => (fun n => (Lit.int .i64 n).wf = true) x.1 ∧ (fun n => (Lit.int .i64 n).wf = true) x.2) x.2) x.2) x.1 ∧ (fun x => (fun xs => xs.length ≤ 9223372036854775807 ∧ ∀ x ∈ xs, Fit130 x) x.1 ∧ (fun n => (Lit.int .i64 n).wf = true) x.2) x.2) y := by obtain ⟨m, hm⟩ := h1; exact opens1 hm
  obtain ⟨⟨a1_0, a1_1, a1_2, a1_3⟩, l1_4, a1_5⟩ := y1
  obtain ⟨u1_1, w1_1, rfl, ⟨u1_2, w1_2, rfl, rfl, ⟨u1_3, w1_3, rfl, rfl, ⟨u1_4, w1_4, rfl, rfl, rfl⟩⟩⟩, ⟨u1_5, w1_5, rfl, ⟨A1_4, c1_4, rfl, hc1_4, hr1_4⟩, rfl⟩⟩ := K1
  clear hA0 hval0 hsz0
  obtain ⟨k, H⟩ := Pure.FnExactEqualBrowsers a0_0 a0_1 a0_2 a0_3 l0_4 a0_5 a1_0 a1_1 a1_2 a1_3 l1_4 a1_5 F0.2.1 F1.2.1
  refine (laws_FnExactEqualBrowsers.calls k a0_0 a0_1 a0_2 a0_3 A0_4 c0_4 l0_4 a0_5 a1_0 a1_1 a1_2 a1_3 A1_4 c1_4 l1_4 a1_5 W hr0_4 hc0_4 hr1_4 hc1_4 H).mono fun e W' h_ => ?_
  obtain ⟨he, bel0⟩ := h_
  have bel : Below W.heap.size W W' := bel0
  subst he
  exact ⟨_, rfl, _, _, _, [], _, [], hW', trodAll_mk1 (shut_bool Try.underlying4 _), (trodAll_cons_mk (Below.trod laidOut (by kernel_rfl) (of_decide_eq_true (by kernel_rfl)) k0 bel lt0) (trodAll_cons_mk (Below.trod laidOut (by kernel_rfl) (of_decide_eq_true (by kernel_rfl)) k1 bel lt1) trodAll_mk0)), rfl, bel.frame _, fun h => by cases h⟩
theorem over : Rows.fnExactEqualBrowsersRow.holds Try.pinned (OpenSpec.ofChange Rows.fnExactEqualBrowsersSpec) :=
  OpenClaim.holds_of_wide 6 Try.f6 rfl rfl rfl rfl rfl rfl rfl ⟨rfl, rfl, rfl, rfl, rfl⟩ rfl rfl rfl rfl rfl (by kernel_rfl) Try.func6 (by kernel_rfl)
    (of_decide_eq_true (by kernel_rfl)) (by unfold Func.isWrapper; first | (rw [if_pos (by decide +kernel)]; kernel_rfl) | (rw [if_neg (by decide +kernel)]; exact ⟨rfl, rfl⟩))
    (fun os started H enc _ => lifted os started H enc)
theorem proved : Rows.FnExactEqualBrowsersSaid := over
end Go.Proofs.Ytjdkkfbcpbjpkaa.fnExactEqualBrowsers
namespace Go.Proofs.Ytjdkkfbcpbjpkaa
/-- The row, under a short name, for the claim. -/
theorem fnExactEqualBrowsers_holds : Rows.FnExactEqualBrowsersSaid := fnExactEqualBrowsers.proved
end Go.Proofs.Ytjdkkfbcpbjpkaa
