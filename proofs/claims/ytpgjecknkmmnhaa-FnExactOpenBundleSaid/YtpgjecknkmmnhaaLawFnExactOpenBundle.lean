/- The row of the law FnExactOpenBundle, out of its plain law and the contract of its function. No condition. -/
import Derived.Test.YtpgjecknkmmnhaaRows
import Derived.Test.YtpgjecknkmmnhaaTFnExactOpenBundle
import Derived.Test.YtpgjecknkmmnhaaOpFnExactOpenBundle
import Derived.Test.YtpgjecknkmmnhaaPureFnExactOpenBundle
import Derived.WalkKit
import Derived.ProofKit
import Derived.OpenShut
import Derived.ShutString
import Derived.ChangeOld
import Derived.Below
import Derived.SizedLaws
import Derived.Carry
namespace Go.Proofs.Ytpgjecknkmmnhaa.fnExactOpenBundle
open Go.ChangeShapes Go.WideShapes Go.ChangeAt Go.RowKit Go.Proofs.Ytpgjecknkmmnhaa.PFnExactOpenBundle Go.Proofs.Ytpgjecknkmmnhaa.Op Go.Proofs.YtpgjecknkmmnhaaW.PrintWords
open Go.ChangeMaps (open_string shut_string)
set_option linter.unusedVariables false
theorem own : ownKnob Try.prog.godebug = none := by kernel_rfl
theorem laidOut : laidOutB Try.prog = true := by kernel_rfl
theorem opens1 : Opens Try.prog 58 (Kd.pair (Kd.int .i64) (Kd.pair (Kd.int .i64) (Kd.pair (Kd.slice 5 (Kd.int .u8)) (Kd.int .i64)))) (fun x => (fun n => (Lit.int .i64 n).wf = true) x.1 ∧ (fun x => (fun n => (Lit.int .i64 n).wf = true) x.1 ∧ (fun x => (fun xs => xs.length ≤ 9223372036854775807 ∧ ∀ x ∈ xs, (fun n => (Lit.int .u8 n).wf = true) x) x.1 ∧ (fun n => (Lit.int .i64 n).wf = true) x.2) x.2) x.2) := (opens_struct Try.underlying58 (opensAt_cons (opens_int Try.underlying3) (by rfl) (by kernel_rfl) (opensAt_cons (opens_int Try.underlying3) (by rfl) (by kernel_rfl) (opensAt_cons (opens_slice Try.underlying22 (opens_int Try.underlying5) (by kernel_rfl)) (by rfl) (by kernel_rfl) (opensAt_one (opens_int Try.underlying3) (by rfl) (by kernel_rfl))))) (by kernel_rfl))
set_option maxRecDepth 100000 in
theorem lifted (os : Os) (started : os.Started) (H : Type) (enc : TypeId × Value → H) :
    ReturnsInHanded {} Try.checked os 6 .any (Rows.fnExactOpenBundleSpec.pre6 enc Try.prog Try.f6 Rows.fnExactOpenBundleRow.domain false) (Rows.fnExactOpenBundleSpec.post enc Try.prog Try.f6 false true false false) := by
  refine returnsInHanded_of_change_sized (C := Try.checked) own started (by kernel_rfl) Try.func6
    (ChangeSpec.witness6 (enc := enc) (C := Try.checked) false ⟨#[], #[.int .i64 0, .agg #[.int .i64 0, .int .i64 0, .slice none 0 0, .int .i64 0]], []⟩ 8 (by kernel_rfl) (by kernel_rfl) (by kernel_rfl) (by kernel_rfl)) ?_
  intro W base args ds gs before hval0 hW hcnd hsz0 _
  have hval : ∀ (j : Nat) t v, Try.f6.params[j]? = some t → args[j]? = some v → Value.okWide Try.prog W .any base t v := hval0
  have hW' := hW
  obtain ⟨p, q, hA0, hV, rfl, hfz, hnd⟩ := hW
  have hA : DataW.TrodAll enc Try.prog W 0 (fun _ => true) true Try.f6.params.toList args.toList ds p := hA0
  rw [Try.params6] at hA hval
  obtain ⟨v0, vs0, d0, ds0, p0, q0, hargs, rfl, rfl, h0, r0⟩ := trodAll_cons hA
  obtain ⟨v1, vs1, d1, ds1, p1, q1, rfl, rfl, rfl, h1, r1⟩ := trodAll_cons r0
  obtain ⟨rfl, rfl, rfl⟩ := trodAll_nil r1
  obtain rfl : args = #[v0, v1] := by cases args; simp_all
  obtain ⟨rfl, rfl⟩ := trodVars_none hV
  obtain ⟨a0, rfl, rfl, rfl, w0⟩ := open_int Try.underlying3 (hval 0 3 v0 rfl rfl) h0
  have k1 := h1
  have lt1 : ∀ x ∈ p1, x.block < W.heap.size := by obtain ⟨m, hm⟩ := k1; exact DataW.trod_lt m _ _ _ hm
  obtain ⟨⟨cs1⟩, rfl, hz1⟩ := okWide_struct Try.underlying58 (hval 1 58 v1 rfl rfl)
  obtain ⟨y1, K1, F1⟩ : ∃ y, (Kd.pair (Kd.int .i64) (Kd.pair (Kd.int .i64) (Kd.pair (Kd.slice 5 (Kd.int .u8)) (Kd.int .i64)))).K W y cs1 ∧ (fun x => (fun n => (Lit.int .i64 n).wf = true) x.1 ∧ (fun x => (fun n => (Lit.int .i64 n).wf = true) x.1 ∧ (fun x => (fun xs => xs.length ≤ 9223372036854775807 ∧ ∀ x ∈ xs, (fun n => (Lit.int .u8 n).wf = true) x) x.1 ∧ (fun n => (Lit.int .i64 n).wf = true) x.2) x.2) x.2) y := by obtain ⟨m, hm⟩ := h1; exact opens1 hm
  obtain ⟨a1_0, a1_1, l1_2, a1_3⟩ := y1
  obtain ⟨u1_1, w1_1, rfl, rfl, ⟨u1_2, w1_2, rfl, rfl, ⟨u1_3, w1_3, rfl, ⟨A1_2, c1_2, rfl, hc1_2, hr1_2⟩, rfl⟩⟩⟩ := K1
  clear hA0 hval0 hsz0
  obtain ⟨k, H⟩ := Pure.FnExactOpenBundle a0 a1_0 a1_1 l1_2 a1_3 F1.2.2.1
  refine (laws_FnExactOpenBundle.calls k a0 a1_0 a1_1 A1_2 c1_2 l1_2 a1_3 W hr1_2 hc1_2 H).mono fun e W' h_ => ?_
  obtain ⟨he, bel0⟩ := h_
  have bel : Below W.heap.size W W' := bel0
  subst he
  exact ⟨_, rfl, _, _, _, [], _, [], hW', trodAll_mk1 (shut_bool Try.underlying4 _), (trodAll_cons_mk (shut_int Try.underlying3 w0) (trodAll_cons_mk (Below.trod laidOut (by kernel_rfl) (of_decide_eq_true (by kernel_rfl)) k1 bel lt1) trodAll_mk0)), rfl, bel.frame _, fun h => by cases h⟩
theorem over : Rows.fnExactOpenBundleRow.holds Try.pinned (OpenSpec.ofChange Rows.fnExactOpenBundleSpec) :=
  OpenClaim.holds_of_wide 6 Try.f6 rfl rfl rfl rfl rfl rfl rfl ⟨rfl, rfl, rfl, rfl, rfl⟩ rfl rfl rfl rfl rfl (by kernel_rfl) Try.func6 (by kernel_rfl)
    (of_decide_eq_true (by kernel_rfl)) (by unfold Func.isWrapper; first | (rw [if_pos (by decide +kernel)]; kernel_rfl) | (rw [if_neg (by decide +kernel)]; exact ⟨rfl, rfl⟩))
    (fun os started H enc _ => lifted os started H enc)
theorem proved : Rows.FnExactOpenBundleSaid := over
end Go.Proofs.Ytpgjecknkmmnhaa.fnExactOpenBundle
namespace Go.Proofs.Ytpgjecknkmmnhaa
/-- The row, under a short name, for the claim. -/
theorem fnExactOpenBundle_holds : Rows.FnExactOpenBundleSaid := fnExactOpenBundle.proved
end Go.Proofs.Ytpgjecknkmmnhaa
