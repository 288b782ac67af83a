/- The row of the law FnExactEqualEpochBoxes, out of its plain law and the contract of its function. No condition. -/
import Derived.Test.YtjdkkfbcpbjpkaaRows
import Derived.Test.YtjdkkfbcpbjpkaaPFnExactEqualEpochBoxesx5
import Derived.Test.YtjdkkfbcpbjpkaaOpFnExactEqualEpochBoxes
import Derived.Test.YtjdkkfbcpbjpkaaPureFnExactEqualEpochBoxes
import Derived.WalkKit
import Derived.ProofKit
import Derived.OpenShut
import Derived.ShutString
import Derived.ChangeOld
import Derived.Below
import Derived.SizedLaws
import Derived.Carry
namespace Go.Proofs.Ytjdkkfbcpbjpkaa.fnExactEqualEpochBoxes
open Go.ChangeShapes Go.WideShapes Go.ChangeAt Go.RowKit Go.Proofs.Ytjdkkfbcpbjpkaa.PFnExactEqualEpochBoxes Go.Proofs.Ytjdkkfbcpbjpkaa.Op Go.Proofs.YtjdkkfbcpbjpkaaW.PrintWords
open Go.ChangeMaps (open_string shut_string)
set_option linter.unusedVariables false
theorem own : ownKnob Try.prog.godebug = none := by kernel_rfl
theorem laidOut : laidOutB Try.prog = true := by kernel_rfl
theorem opens0 : Opens Try.prog 24 (Kd.pair (Kd.int .i64) (Kd.slice 118 k118)) (fun x => (fun n => (Lit.int .i64 n).wf = true) x.1 ∧ (fun xs => xs.length ≤ 9223372036854775807 ∧ ∀ x ∈ xs, Fit118 x) x.2) := (opens_struct Try.underlying24 (opensAt_cons (opens_int Try.underlying3) (by rfl) (by kernel_rfl) (opensAt_one (opens_slice Try.underlying22 op118 (by kernel_rfl)) (by rfl) (by kernel_rfl))) (by kernel_rfl))
theorem opens1 : Opens Try.prog 24 (Kd.pair (Kd.int .i64) (Kd.slice 118 k118)) (fun x => (fun n => (Lit.int .i64 n).wf = true) x.1 ∧ (fun xs => xs.length ≤ 9223372036854775807 ∧ ∀ x ∈ xs, Fit118 x) x.2) := (opens_struct Try.underlying24 (opensAt_cons (opens_int Try.underlying3) (by rfl) (by kernel_rfl) (opensAt_one (opens_slice Try.underlying22 op118 (by kernel_rfl)) (by rfl) (by kernel_rfl))) (by kernel_rfl))
set_option maxRecDepth 100000 in
theorem lifted (os : Os) (started : os.Started) (H : Type) (enc : TypeId × Value → H) :
    ReturnsInHanded {} Try.checked os 4 .any (Rows.fnExactEqualEpochBoxesSpec.pre6 enc Try.prog Try.f4 Rows.fnExactEqualEpochBoxesRow.domain false) (Rows.fnExactEqualEpochBoxesSpec.post enc Try.prog Try.f4 false true false false) := by
  refine returnsInHanded_of_change_sized (C := Try.checked) own started (by kernel_rfl) Try.func4
    (ChangeSpec.witness6 (enc := enc) (C := Try.checked) false ⟨#[], #[.agg #[.int .i64 0, .slice none 0 0], .agg #[.int .i64 0, .slice none 0 0]], []⟩ 8 (by kernel_rfl) (by kernel_rfl) (by kernel_rfl) (by kernel_rfl)) ?_
  intro W base args ds gs before hval0 hW hcnd hsz0 _
  have hval : ∀ (j : Nat) t v, Try.f4.params[j]? = some t → args[j]? = some v → Value.okWide Try.prog W .any base t v := hval0
  have hW' := hW
  obtain ⟨p, q, hA0, hV, rfl, hfz, hnd⟩ := hW
  have hA : DataW.TrodAll enc Try.prog W 0 (fun _ => true) true Try.f4.params.toList args.toList ds p := hA0
  rw [Try.params4] at hA hval
  obtain ⟨v0, vs0, d0, ds0, p0, q0, hargs, rfl, rfl, h0, r0⟩ := trodAll_cons hA
  obtain ⟨v1, vs1, d1, ds1, p1, q1, rfl, rfl, rfl, h1, r1⟩ := trodAll_cons r0
  obtain ⟨rfl, rfl, rfl⟩ := trodAll_nil r1
  obtain rfl : args = #[v0, v1] := by cases args; simp_all
  obtain ⟨rfl, rfl⟩ := trodVars_none hV
  have k0 := h0
  have lt0 : ∀ x ∈ p0, x.block < W.heap.size := by obtain ⟨m, hm⟩ := k0; exact DataW.trod_lt m _ _ _ hm
  obtain ⟨⟨cs0⟩, rfl, hz0⟩ := okWide_struct Try.underlying24 (hval 0 24 v0 rfl rfl)
  obtain ⟨y0, K0, F0⟩ : ∃ y, (Kd.pair (Kd.int .i64) (Kd.slice 118 k118)).K W y cs0 ∧ (fun x => (fun n => (Lit.int .i64 n).wf = true) x.1 ∧ (fun xs => xs.length ≤ 9223372036854775807 ∧ ∀ x ∈ xs, Fit118 x) x.2) y := by obtain ⟨m, hm⟩ := h0; exact opens0 hm
  obtain ⟨a0_0, l0_1⟩ := y0
  obtain ⟨u0_1, w0_1, rfl, rfl, ⟨A0_1, c0_1, rfl, hc0_1, hr0_1⟩⟩ := K0
  have k1 := h1
  have lt1 : ∀ x ∈ p1, x.block < W.heap.size := by obtain ⟨m, hm⟩ := k1; exact DataW.trod_lt m _ _ _ hm
  obtain ⟨⟨cs1⟩, rfl, hz1⟩ := okWide_struct Try.underlying24 (hval 1 24 v1 rfl rfl)
  obtain ⟨y1, K1, F1⟩ : ∃ y, (Kd.pair (Kd.int .i64) (Kd.slice 118 k118)).K W y cs1 ∧ (fun x => (fun n => (Lit.int .i64 n).wf = true) x.1 ∧ (fun xs => xs.length ≤ 9223372036854775807 ∧ ∀ x ∈ xs, Fit118 x) x.2) y := by obtain ⟨m, hm⟩ := h1; exact opens1 hm
  obtain ⟨a1_0, l1_1⟩ := y1
  obtain ⟨u1_1, w1_1, rfl, rfl, ⟨A1_1, c1_1, rfl, hc1_1, hr1_1⟩⟩ := K1
  clear hA0 hval0 hsz0
  obtain ⟨k, H⟩ := Pure.FnExactEqualEpochBoxes a0_0 l0_1 a1_0 l1_1 F0.2 F1.2
  refine (laws_FnExactEqualEpochBoxes.calls k a0_0 A0_1 c0_1 l0_1 a1_0 A1_1 c1_1 l1_1 true W hr0_1 hc0_1 hr1_1 hc1_1 H).mono fun e W' h_ => ?_
  obtain ⟨he, bel0⟩ := h_
  have bel : Below W.heap.size W W' := bel0
  subst he
  exact ⟨_, rfl, _, _, _, [], _, [], hW', trodAll_mk1 (shut_bool Try.underlying4 _), (trodAll_cons_mk (Below.trod laidOut (by kernel_rfl) (of_decide_eq_true (by kernel_rfl)) k0 bel lt0) (trodAll_cons_mk (Below.trod laidOut (by kernel_rfl) (of_decide_eq_true (by kernel_rfl)) k1 bel lt1) trodAll_mk0)), rfl, bel.frame _, fun h => by cases h⟩
theorem over : Rows.fnExactEqualEpochBoxesRow.holds Try.pinned (OpenSpec.ofChange Rows.fnExactEqualEpochBoxesSpec) :=
  OpenClaim.holds_of_wide 4 Try.f4 rfl rfl rfl rfl rfl rfl rfl ⟨rfl, rfl, rfl, rfl, rfl⟩ rfl rfl rfl rfl rfl (by kernel_rfl) Try.func4 (by kernel_rfl)
    (of_decide_eq_true (by kernel_rfl)) (by unfold Func.isWrapper; first | (rw [if_pos (by decide +kernel)]; kernel_rfl) | (rw [if_neg (by decide +kernel)]; exact ⟨rfl, rfl⟩))
    (fun os started H enc _ => lifted os started H enc)
theorem proved : Rows.FnExactEqualEpochBoxesSaid := over
end Go.Proofs.Ytjdkkfbcpbjpkaa.fnExactEqualEpochBoxes
namespace Go.Proofs.Ytjdkkfbcpbjpkaa
/-- The row, under a short name, for the claim. -/
theorem fnExactEqualEpochBoxes_holds : Rows.FnExactEqualEpochBoxesSaid := fnExactEqualEpochBoxes.proved
end Go.Proofs.Ytjdkkfbcpbjpkaa
