/- The row of the law FnExactEntryHash, out of its plain law and the contract of its function. No condition. -/
import Derived.Test.YtghbdajdmdcoiaaRows
import Derived.Test.YtghbdajdmdcoiaaPFnExactEntryHashx1
import Derived.Test.YtghbdajdmdcoiaaOpFnExactEntryHash
import Derived.Test.YtghbdajdmdcoiaaPureFnExactEntryHash
import Derived.WalkKit
import Derived.ProofKit
import Derived.OpenShut
import Derived.ShutString
import Derived.ChangeOld
import Derived.Below
import Derived.SizedLaws
import Derived.Carry
namespace Go.Proofs.Ytghbdajdmdcoiaa.fnExactEntryHash
open Go.ChangeShapes Go.WideShapes Go.ChangeAt Go.RowKit Go.Proofs.Ytghbdajdmdcoiaa.PFnExactEntryHash Go.Proofs.Ytghbdajdmdcoiaa.Op Go.Proofs.YtghbdajdmdcoiaaW.PrintWords
open Go.ChangeMaps (open_string shut_string)
set_option linter.unusedVariables false
theorem own : ownKnob Try.prog.godebug = none := by kernel_rfl
theorem laidOut : laidOutB Try.prog = true := by kernel_rfl
theorem opens0 : Opens Try.prog 23 (Kd.pair (Kd.int .i64) (Kd.pair (Kd.int .i64) (Kd.pair (Kd.int .i64) (Kd.pair (Kd.int .i64) (Kd.pair (Kd.int .i64) (Kd.int .i64)))))) (fun x => (fun n => (Lit.int .i64 n).wf = true) x.1 ∧ (fun x => (fun n => (Lit.int .i64 n).wf = true) x.1 ∧ (fun x => (fun n => (Lit.int .i64 n).wf = true) x.1 ∧ (fun x => (fun n => (Lit.int .i64 n).wf = true) x.1 ∧ (fun x => (fun n => (Lit.int .i64 n).wf = true) x.1 ∧ (fun n => (Lit.int .i64 n).wf = true) x.2) x.2) x.2) x.2) x.2) := (opens_struct Try.underlying23 (opensAt_cons (opens_int Try.underlying3) (by rfl) (by kernel_rfl) (opensAt_cons (opens_int Try.underlying3) (by rfl) (by kernel_rfl) (opensAt_cons (opens_int Try.underlying3) (by rfl) (by kernel_rfl) (opensAt_cons (opens_int Try.underlying3) (by rfl) (by kernel_rfl) (opensAt_cons (opens_int Try.underlying3) (by rfl) (by kernel_rfl) (opensAt_one (opens_int Try.underlying3) (by rfl) (by kernel_rfl))))))) (by kernel_rfl))
set_option maxRecDepth 100000 in
theorem lifted (os : Os) (started : os.Started) (H : Type) (enc : TypeId × Value → H) :
    ReturnsInHanded {} Try.checked os 3 .any (Rows.fnExactEntryHashSpec.pre6 enc Try.prog Try.f3 Rows.fnExactEntryHashRow.domain false) (Rows.fnExactEntryHashSpec.post enc Try.prog Try.f3 false true false false) := by
  refine returnsInHanded_of_change_sized (C := Try.checked) own started (by kernel_rfl) Try.func3
    (ChangeSpec.witness6 (enc := enc) (C := Try.checked) false ⟨#[], #[.agg #[.int .i64 0, .int .i64 0, .int .i64 0, .int .i64 0, .int .i64 0, .int .i64 0]], []⟩ 8 (by kernel_rfl) (by kernel_rfl) (by kernel_rfl) (by kernel_rfl)) ?_
  intro W base args ds gs before hval0 hW hcnd hsz0 _
  have hval : ∀ (j : Nat) t v, Try.f3.params[j]? = some t → args[j]? = some v → Value.okWide Try.prog W .any base t v := hval0
  have hW' := hW
  obtain ⟨p, q, hA0, hV, rfl, hfz, hnd⟩ := hW
  have hA : DataW.TrodAll enc Try.prog W 0 (fun _ => true) true Try.f3.params.toList args.toList ds p := hA0
  rw [Try.params3] at hA hval
  obtain ⟨v0, vs0, d0, ds0, p0, q0, hargs, rfl, rfl, h0, r0⟩ := trodAll_cons hA
  obtain ⟨rfl, rfl, rfl⟩ := trodAll_nil r0
  obtain rfl : args = #[v0] := by cases args; simp_all
  obtain ⟨rfl, rfl⟩ := trodVars_none hV
  have k0 := h0
  have lt0 : ∀ x ∈ p0, x.block < W.heap.size := by obtain ⟨m, hm⟩ := k0; exact DataW.trod_lt m _ _ _ hm
  obtain ⟨⟨cs0⟩, rfl, hz0⟩ := okWide_struct Try.underlying23 (hval 0 23 v0 rfl rfl)
  obtain ⟨y0, K0, F0⟩ : ∃ y, (Kd.pair (Kd.int .i64) (Kd.pair (Kd.int .i64) (Kd.pair (Kd.int .i64) (Kd.pair (Kd.int .i64) (Kd.pair (Kd.int .i64) (Kd.int .i64)))))).K W y cs0 ∧ (fun x => (fun n => (Lit.int .i64 n).wf = true) x.1 ∧ (fun x => (fun n => (Lit.int .i64 n).wf = true) x.1 ∧ (fun x => (fun n => (Lit.int .i64 n).wf = true) x.1 ∧ (fun x => (fun n => (Lit.int .i64 n).wf = true) x.1 ∧ (fun x => (fun n => (Lit.int .i64 n).wf = true) x.1 ∧ (fun n => (Lit.int .i64 n).wf = true) x.2) x.2) x.2) x.2) x.2) y := by obtain ⟨m, hm⟩ := h0; exact opens0 hm
  obtain ⟨a0_0, a0_1, a0_2, a0_3, a0_4, a0_5⟩ := y0
  obtain ⟨u0_1, w0_1, rfl, rfl, ⟨u0_2, w0_2, rfl, rfl, ⟨u0_3, w0_3, rfl, rfl, ⟨u0_4, w0_4, rfl, rfl, ⟨u0_5, w0_5, rfl, rfl, rfl⟩⟩⟩⟩⟩ := K0
  clear hA0 hval0 hsz0
  obtain ⟨k, H⟩ := Pure.FnExactEntryHash a0_0 a0_1 a0_2 a0_3 a0_4 a0_5 
  refine (laws_FnExactEntryHash.calls k a0_0 a0_1 a0_2 a0_3 a0_4 a0_5 true W H).mono fun e W' h_ => ?_
  obtain ⟨he, bel0⟩ := h_
  have bel : Below W.heap.size W W' := bel0
  subst he
  exact ⟨_, rfl, _, _, _, [], _, [], hW', trodAll_mk1 (shut_bool Try.underlying4 _), (trodAll_cons_mk (Below.trod laidOut (by kernel_rfl) (of_decide_eq_true (by kernel_rfl)) k0 bel lt0) trodAll_mk0), rfl, bel.frame _, fun h => by cases h⟩
theorem over : Rows.fnExactEntryHashRow.holds Try.pinned (OpenSpec.ofChange Rows.fnExactEntryHashSpec) :=
  OpenClaim.holds_of_wide 3 Try.f3 rfl rfl rfl rfl rfl rfl rfl ⟨rfl, rfl, rfl, rfl, rfl⟩ rfl rfl rfl rfl rfl (by kernel_rfl) Try.func3 (by kernel_rfl)
    (of_decide_eq_true (by kernel_rfl)) (by unfold Func.isWrapper; first | (rw [if_pos (by decide +kernel)]; kernel_rfl) | (rw [if_neg (by decide +kernel)]; exact ⟨rfl, rfl⟩))
    (fun os started H enc _ => lifted os started H enc)
theorem proved : Rows.FnExactEntryHashSaid := over
end Go.Proofs.Ytghbdajdmdcoiaa.fnExactEntryHash
namespace Go.Proofs.Ytghbdajdmdcoiaa
/-- The row, under a short name, for the claim. -/
theorem fnExactEntryHash_holds : Rows.FnExactEntryHashSaid := fnExactEntryHash.proved
end Go.Proofs.Ytghbdajdmdcoiaa
