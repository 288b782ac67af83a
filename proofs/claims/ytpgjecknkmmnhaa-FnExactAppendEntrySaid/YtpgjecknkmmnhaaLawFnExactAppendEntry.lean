/- The row of the law FnExactAppendEntry, out of its plain law and the contract of its function. No condition. -/
import Derived.Test.YtpgjecknkmmnhaaRows
import Derived.Test.YtpgjecknkmmnhaaTFnExactAppendEntry
import Derived.Test.YtpgjecknkmmnhaaOpFnExactAppendEntry
import Derived.Test.YtpgjecknkmmnhaaPureFnExactAppendEntry
import Derived.WalkKit
import Derived.ProofKit
import Derived.OpenShut
import Derived.ShutString
import Derived.ChangeOld
import Derived.Below
import Derived.SizedLaws
import Derived.Carry
namespace Go.Proofs.Ytpgjecknkmmnhaa.fnExactAppendEntry
open Go.ChangeShapes Go.WideShapes Go.ChangeAt Go.RowKit Go.Proofs.Ytpgjecknkmmnhaa.PFnExactAppendEntry Go.Proofs.Ytpgjecknkmmnhaa.Op Go.Proofs.YtpgjecknkmmnhaaW.PrintWords
open Go.ChangeMaps (open_string shut_string)
set_option linter.unusedVariables false
theorem own : ownKnob Try.prog.godebug = none := by kernel_rfl
theorem laidOut : laidOutB Try.prog = true := by kernel_rfl
theorem opens0 : Opens Try.prog 35 (Kd.slice 78 k78) (fun xs => xs.length ≤ 9223372036854775807 ∧ ∀ x ∈ xs, Fit78 x) := (opens_slice Try.underlying35 op78 (by kernel_rfl))
theorem opens3 : Opens Try.prog 36 (Kd.pair (Kd.int .i64) (Kd.pair (Kd.int .i64) (Kd.pair (Kd.int .i64) (Kd.int .i64)))) (fun x => (fun n => (Lit.int .i64 n).wf = true) x.1 ∧ (fun x => (fun n => (Lit.int .i64 n).wf = true) x.1 ∧ (fun x => (fun n => (Lit.int .i64 n).wf = true) x.1 ∧ (fun n => (Lit.int .i64 n).wf = true) x.2) x.2) x.2) := (opens_struct Try.underlying36 (opensAt_cons (opens_int Try.underlying3) (by rfl) (by kernel_rfl) (opensAt_cons (opens_int Try.underlying3) (by rfl) (by kernel_rfl) (opensAt_cons (opens_int Try.underlying3) (by rfl) (by kernel_rfl) (opensAt_one (opens_int Try.underlying3) (by rfl) (by kernel_rfl))))) (by kernel_rfl))
set_option maxRecDepth 100000 in
theorem lifted (os : Os) (started : os.Started) (H : Type) (enc : TypeId × Value → H) :
    ReturnsInHanded {} Try.checked os 4 .any (Rows.fnExactAppendEntrySpec.pre6 enc Try.prog Try.f4 Rows.fnExactAppendEntryRow.domain false) (Rows.fnExactAppendEntrySpec.post enc Try.prog Try.f4 false true false false) := by
  refine returnsInHanded_of_change_sized (C := Try.checked) own started (by kernel_rfl) Try.func4
    (ChangeSpec.witness6 (enc := enc) (C := Try.checked) false ⟨#[], #[.slice none 0 0, .int .i64 0, .int .i64 0, .agg #[.int .i64 0, .int .i64 0, .int .i64 0, .int .i64 0]], []⟩ 8 (by kernel_rfl) (by kernel_rfl) (by kernel_rfl) (by kernel_rfl)) ?_
  intro W base args ds gs before hval0 hW hcnd hsz0 _
  have hval : ∀ (j : Nat) t v, Try.f4.params[j]? = some t → args[j]? = some v → Value.okWide Try.prog W .any base t v := hval0
  have hW' := hW
  obtain ⟨p, q, hA0, hV, rfl, hfz, hnd⟩ := hW
  have hA : DataW.TrodAll enc Try.prog W 0 (fun _ => true) true Try.f4.params.toList args.toList ds p := hA0
  rw [Try.params4] at hA hval
  obtain ⟨v0, vs0, d0, ds0, p0, q0, hargs, rfl, rfl, h0, r0⟩ := trodAll_cons hA
  obtain ⟨v1, vs1, d1, ds1, p1, q1, rfl, rfl, rfl, h1, r1⟩ := trodAll_cons r0
  obtain ⟨v2, vs2, d2, ds2, p2, q2, rfl, rfl, rfl, h2, r2⟩ := trodAll_cons r1
  obtain ⟨v3, vs3, d3, ds3, p3, q3, rfl, rfl, rfl, h3, r3⟩ := trodAll_cons r2
  obtain ⟨rfl, rfl, rfl⟩ := trodAll_nil r3
  obtain rfl : args = #[v0, v1, v2, v3] := by cases args; simp_all
  obtain ⟨rfl, rfl⟩ := trodVars_none hV
  have k0 := h0
  have lt0 : ∀ x ∈ p0, x.block < W.heap.size := by obtain ⟨m, hm⟩ := k0; exact DataW.trod_lt m _ _ _ hm
  obtain ⟨A0, n0, c0, rfl⟩ := okWide_slice Try.underlying35 (hval 0 35 v0 rfl rfl)
  obtain ⟨l0, ⟨A0z, c0z, e0, hc0, hr0⟩, F0⟩ : ∃ y, (Kd.slice 78 k78).K W y [.slice A0 n0 c0] ∧ (fun xs => xs.length ≤ 9223372036854775807 ∧ ∀ x ∈ xs, Fit78 x) y := by obtain ⟨m, hm⟩ := h0; exact opens0 hm
  obtain ⟨rfl, rfl, rfl⟩ : A0 = A0z ∧ n0 = l0.length ∧ c0 = c0z := by simpa using e0
  obtain ⟨a1, rfl, rfl, rfl, w1⟩ := open_int Try.underlying3 (hval 1 3 v1 rfl rfl) h1
  obtain ⟨a2, rfl, rfl, rfl, w2⟩ := open_int Try.underlying3 (hval 2 3 v2 rfl rfl) h2
  have k3 := h3
  have lt3 : ∀ x ∈ p3, x.block < W.heap.size := by obtain ⟨m, hm⟩ := k3; exact DataW.trod_lt m _ _ _ hm
  obtain ⟨⟨cs3⟩, rfl, hz3⟩ := okWide_struct Try.underlying36 (hval 3 36 v3 rfl rfl)
  obtain ⟨y3, K3, F3⟩ : ∃ y, (Kd.pair (Kd.int .i64) (Kd.pair (Kd.int .i64) (Kd.pair (Kd.int .i64) (Kd.int .i64)))).K W y cs3 ∧ (fun x => (fun n => (Lit.int .i64 n).wf = true) x.1 ∧ (fun x => (fun n => (Lit.int .i64 n).wf = true) x.1 ∧ (fun x => (fun n => (Lit.int .i64 n).wf = true) x.1 ∧ (fun n => (Lit.int .i64 n).wf = true) x.2) x.2) x.2) y := by obtain ⟨m, hm⟩ := h3; exact opens3 hm
  obtain ⟨a3_0, a3_1, a3_2, a3_3⟩ := y3
  obtain ⟨u3_1, w3_1, rfl, rfl, ⟨u3_2, w3_2, rfl, rfl, ⟨u3_3, w3_3, rfl, rfl, rfl⟩⟩⟩ := K3
  clear hA0 hval0 hsz0
  obtain ⟨k, H⟩ := Pure.FnExactAppendEntry l0 a1 a2 a3_0 a3_1 a3_2 a3_3 F0.1
  refine (laws_FnExactAppendEntry.calls k A0 c0 l0 a1 a2 a3_0 a3_1 a3_2 a3_3 W hr0 hc0 H).mono fun e W' h_ => ?_
  obtain ⟨he, bel0⟩ := h_
  have bel : Below W.heap.size W W' := bel0
  subst he
  exact ⟨_, rfl, _, _, _, [], _, [], hW', trodAll_mk1 (shut_bool Try.underlying4 _), (trodAll_cons_mk (Below.trod laidOut (by kernel_rfl) (of_decide_eq_true (by kernel_rfl)) k0 bel lt0) (trodAll_cons_mk (shut_int Try.underlying3 w1) (trodAll_cons_mk (shut_int Try.underlying3 w2) (trodAll_cons_mk (Below.trod laidOut (by kernel_rfl) (of_decide_eq_true (by kernel_rfl)) k3 bel lt3) trodAll_mk0)))), rfl, bel.frame _, fun h => by cases h⟩
theorem over : Rows.fnExactAppendEntryRow.holds Try.pinned (OpenSpec.ofChange Rows.fnExactAppendEntrySpec) :=
  OpenClaim.holds_of_wide 4 Try.f4 rfl rfl rfl rfl rfl rfl rfl ⟨rfl, rfl, rfl, rfl, rfl⟩ rfl rfl rfl rfl rfl (by kernel_rfl) Try.func4 (by kernel_rfl)
    (of_decide_eq_true (by kernel_rfl)) (by unfold Func.isWrapper; first | (rw [if_pos (by decide +kernel)]; kernel_rfl) | (rw [if_neg (by decide +kernel)]; exact ⟨rfl, rfl⟩))
    (fun os started H enc _ => lifted os started H enc)
theorem proved : Rows.FnExactAppendEntrySaid := over
end Go.Proofs.Ytpgjecknkmmnhaa.fnExactAppendEntry
namespace Go.Proofs.Ytpgjecknkmmnhaa
/-- The row, under a short name, for the claim. -/
theorem fnExactAppendEntry_holds : Rows.FnExactAppendEntrySaid := fnExactAppendEntry.proved
end Go.Proofs.Ytpgjecknkmmnhaa
