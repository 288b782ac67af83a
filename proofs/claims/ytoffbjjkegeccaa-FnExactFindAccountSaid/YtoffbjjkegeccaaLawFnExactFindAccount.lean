/- The row of the law FnExactFindAccount, out of its plain law and the contract of its function. No condition. -/
import Derived.Test.YtoffbjjkegeccaaRows
import Derived.Test.YtoffbjjkegeccaaTFnExactFindAccount
import Derived.Test.YtoffbjjkegeccaaOpFnExactFindAccount
import Derived.Test.YtoffbjjkegeccaaPureFnExactFindAccount
import Derived.WalkKit
import Derived.ProofKit
import Derived.OpenShut
import Derived.ShutString
import Derived.ChangeOld
import Derived.Below
import Derived.SizedLaws
import Derived.Carry
namespace Go.Proofs.Ytoffbjjkegeccaa.fnExactFindAccount
open Go.ChangeShapes Go.WideShapes Go.ChangeAt Go.RowKit Go.Proofs.Ytoffbjjkegeccaa.PFnExactFindAccount Go.Proofs.Ytoffbjjkegeccaa.Op Go.Proofs.YtoffbjjkegeccaaW.PrintWords
open Go.ChangeMaps (open_string shut_string)
set_option linter.unusedVariables false
theorem own : ownKnob Try.prog.godebug = none := by kernel_rfl
theorem laidOut : laidOutB Try.prog = true := by kernel_rfl
theorem opens0 : Opens Try.prog 58 (Kd.pair Kd.string (Kd.pair (Kd.slice 24 k24) (Kd.pair (Kd.pair (Kd.int .i64) (Kd.pair (Kd.int .i64) (Kd.slice 127 k127))) (Kd.slice 3 (Kd.int .i64))))) (fun x => (fun s => s.size ≤ 9223372036854775807) x.1 ∧ (fun x => (fun xs => xs.length ≤ 9223372036854775807 ∧ ∀ x ∈ xs, Fit24 x) x.1 ∧ (fun x => (fun x => (fun n => (Lit.int .i64 n).wf = true) x.1 ∧ (fun x => (fun n => (Lit.int .i64 n).wf = true) x.1 ∧ (fun xs => xs.length ≤ 9223372036854775807 ∧ ∀ x ∈ xs, Fit127 x) x.2) x.2) x.1 ∧ (fun xs => xs.length ≤ 9223372036854775807 ∧ ∀ x ∈ xs, (fun n => (Lit.int .i64 n).wf = true) x) x.2) x.2) x.2) := (opens_struct Try.underlying58 (opensAt_cons (opens_string Try.underlying9) (by rfl) (by kernel_rfl) (opensAt_cons (opens_slice Try.underlying52 op24 (by kernel_rfl)) (by rfl) (by kernel_rfl) (opensAt_cons (opens_struct Try.underlying55 (opensAt_cons (opens_int Try.underlying3) (by rfl) (by kernel_rfl) (opensAt_cons (opens_int Try.underlying3) (by rfl) (by kernel_rfl) (opensAt_one (opens_slice Try.underlying53 op127 (by kernel_rfl)) (by rfl) (by kernel_rfl)))) (by kernel_rfl)) (by rfl) (by kernel_rfl) (opensAt_one (opens_slice Try.underlying56 (opens_int Try.underlying3) (by kernel_rfl)) (by rfl) (by kernel_rfl))))) (by kernel_rfl))
set_option maxRecDepth 100000 in
theorem lifted (os : Os) (started : os.Started) (H : Type) (enc : TypeId × Value → H) :
    ReturnsInHanded {} Try.checked os 7 .any (Rows.fnExactFindAccountSpec.pre6 enc Try.prog Try.f7 Rows.fnExactFindAccountRow.domain false) (Rows.fnExactFindAccountSpec.post enc Try.prog Try.f7 false true false false) := by
  refine returnsInHanded_of_change_sized (C := Try.checked) own started (by kernel_rfl) Try.func7
    (ChangeSpec.witness6 (enc := enc) (C := Try.checked) false ⟨#[], #[.agg #[.string ByteArray.empty, .slice none 0 0, .int .i64 0, .int .i64 0, .slice none 0 0, .slice none 0 0], .int .i64 0], []⟩ 8 (by kernel_rfl) (by kernel_rfl) (by kernel_rfl) (by kernel_rfl)) ?_
  intro W base args ds gs before hval0 hW hcnd hsz0 _
  have hval : ∀ (j : Nat) t v, Try.f7.params[j]? = some t → args[j]? = some v → Value.okWide Try.prog W .any base t v := hval0
  have hW' := hW
  obtain ⟨p, q, hA0, hV, rfl, hfz, hnd⟩ := hW
  have hA : DataW.TrodAll enc Try.prog W 0 (fun _ => true) true Try.f7.params.toList args.toList ds p := hA0
  rw [Try.params7] at hA hval
  obtain ⟨v0, vs0, d0, ds0, p0, q0, hargs, rfl, rfl, h0, r0⟩ := trodAll_cons hA
  obtain ⟨v1, vs1, d1, ds1, p1, q1, rfl, rfl, rfl, h1, r1⟩ := trodAll_cons r0
  obtain ⟨rfl, rfl, rfl⟩ := trodAll_nil r1
  obtain rfl : args = #[v0, v1] := by cases args; simp_all
  obtain ⟨rfl, rfl⟩ := trodVars_none hV
  have k0 := h0
  have lt0 : ∀ x ∈ p0, x.block < W.heap.size := by obtain ⟨m, hm⟩ := k0; exact DataW.trod_lt m _ _ _ hm
  obtain ⟨⟨cs0⟩, rfl, hz0⟩ := okWide_struct Try.underlying58 (hval 0 58 v0 rfl rfl)
  obtain ⟨y0, K0, F0⟩ : ∃ y, (Kd.pair Kd.string (Kd.pair (Kd.slice 24 k24) (Kd.pair (Kd.pair (Kd.int .i64) (Kd.pair (Kd.int .i64) (Kd.slice 127 k127))) (Kd.slice 3 (Kd.int .i64))))).K W y cs0 ∧ (fun x => (fun s => s.size ≤ 9223372036854775807) x.1 ∧ (fun x => (fun xs => xs.length ≤ 9223372036854775807 ∧ ∀ x ∈ xs, Fit24 x) x.1 ∧ (fun x => (fun x => (fun n => (Lit.int .i64 n).wf = true) x.1 ∧ (fun x => (fun n => (Lit.int .i64 n).wf = true) x.1 ∧ (fun xs => xs.length ≤ 9223372036854775807 ∧ ∀ x ∈ xs, Fit127 x) x.2) x.2) x.1 ∧ (fun xs => xs.length ≤ 9223372036854775807 ∧ ∀ x ∈ xs, (fun n => (Lit.int .i64 n).wf = true) x) x.2) x.2) x.2) y := by obtain ⟨m, hm⟩ := h0; exact opens0 hm
  obtain ⟨a0_0, l0_1, ⟨a0_2, a0_3, l0_4⟩, l0_5⟩ := y0
  obtain ⟨u0_1, w0_1, rfl, rfl, ⟨u0_2, w0_2, rfl, ⟨A0_1, c0_1, rfl, hc0_1, hr0_1⟩, ⟨u0_3, w0_3, rfl, ⟨u0_4, w0_4, rfl, rfl, ⟨u0_5, w0_5, rfl, rfl, ⟨A0_4, c0_4, rfl, hc0_4, hr0_4⟩⟩⟩, ⟨A0_5, c0_5, rfl, hc0_5, hr0_5⟩⟩⟩⟩ := K0
  obtain ⟨a1, rfl, rfl, rfl, w1⟩ := open_int Try.underlying3 (hval 1 3 v1 rfl rfl) h1
  clear hA0 hval0 hsz0
  obtain ⟨k, H⟩ := Pure.FnExactFindAccount a0_0 l0_1 a0_2 a0_3 l0_4 l0_5 a1 F0.1 F0.2.1 F0.2.2.1.2.2.1 F0.2.2.2.1
  refine (laws_FnExactFindAccount.calls k a0_0 A0_1 c0_1 l0_1 a0_2 a0_3 A0_4 c0_4 l0_4 A0_5 c0_5 l0_5 a1 W hr0_1 hc0_1 hr0_4 hc0_4 hr0_5 hc0_5 H).mono fun e W' h_ => ?_
  obtain ⟨he, bel0⟩ := h_
  have bel : Below W.heap.size W W' := bel0
  subst he
  exact ⟨_, rfl, _, _, _, [], _, [], hW', trodAll_mk1 (shut_bool Try.underlying4 _), (trodAll_cons_mk (Below.trod laidOut (by kernel_rfl) (of_decide_eq_true (by kernel_rfl)) k0 bel lt0) (trodAll_cons_mk (shut_int Try.underlying3 w1) trodAll_mk0)), rfl, bel.frame _, fun h => by cases h⟩
theorem over : Rows.fnExactFindAccountRow.holds Try.pinned (OpenSpec.ofChange Rows.fnExactFindAccountSpec) :=
  OpenClaim.holds_of_wide 7 Try.f7 rfl rfl rfl rfl rfl rfl rfl ⟨rfl, rfl, rfl, rfl, rfl⟩ rfl rfl rfl rfl rfl (by kernel_rfl) Try.func7 (by kernel_rfl)
    (of_decide_eq_true (by kernel_rfl)) (by unfold Func.isWrapper; first | (rw [if_pos (by decide +kernel)]; kernel_rfl) | (rw [if_neg (by decide +kernel)]; exact ⟨rfl, rfl⟩))
    (fun os started H enc _ => lifted os started H enc)
theorem proved : Rows.FnExactFindAccountSaid := over
end Go.Proofs.Ytoffbjjkegeccaa.fnExactFindAccount
namespace Go.Proofs.Ytoffbjjkegeccaa
/-- The row, under a short name, for the claim. -/
theorem fnExactFindAccount_holds : Rows.FnExactFindAccountSaid := fnExactFindAccount.proved
end Go.Proofs.Ytoffbjjkegeccaa
