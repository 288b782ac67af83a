/-
  No cell of these rows narrows 'for every input' (looked for: loops, veiled, ifaces, maps, wideKeys, modest, calm, conditions, laid).
  DERIVED. THE GIVEN ROWS OF THIS SEAT. 6 by the template 'for every input the law returns true; each argument reads behind the call as it read before'; 0 by the template 'total and deterministic' (their statements: YtgcipecdaimjfaaTotals.lean).
  GIVEN WITH THE SEED: the statements are not yours to turn. If you find one false, say at which input.
  Laid BY PROGRAM, IN A SANDBOX (cutbox-rows.mjs): the forced cells as the released guide's own fill.sh prints them over the translation d744847961fc13e8… (all of the seat's roots in one cut). By AI agents, Wed Nov 11 2026. No macro, syntax, notation, axiom, sorry.
-/
import Derived.Test.YtgcipecdaimjfaaChecked
import GoSem.Claim
import GoSem.ClaimJoined
import GoSem.ClaimMapViews
import Derived.JoinedTies
import Derived.KernelRfl
namespace Go.Proofs.Ytgcipecdaimjfaa
/- THE CELL 'sum', in the pinned program and in every row, IS THE sha256 OF THE DUMP (.gsa) THAT YtgcipecdaimjfaaProg.lean LOADS. Nothing in Lean hashes anything: it is a label: what it is worth is what the hold of that sum in a sandbox is worth. -/
noncomputable def Try.pinned : Pinned := { name := "ytgcipecdaimjfaa", sum := "d744847961fc13e8af1f6757523ba18a166d8f8cc4b20a911929be858966d873", checked := Try.checked }
namespace Rows
def none {H : Type} : Left H := { results := [], args := [] }

/-- 'laws.FnCredentials': WHATEVER THE INPUT: true; the input reads as it did. -/
def fnCredentialsSpec : ChangeSpec := { name := "fnCredentials", fn := fun _ => fun
  | [d] => { results := [.lit (.bool true)], args := [d] }
  | _ => none }
def fnCredentialsRow : OpenClaim := { program := "ytgcipecdaimjfaa", sum := "d744847961fc13e8af1f6757523ba18a166d8f8cc4b20a911929be858966d873", func := "loop.example/g00581/laws.FnCredentials", spec := "fnCredentials", apart := false }
def FnCredentialsSaid : Prop := fnCredentialsRow.holds Try.pinned (OpenSpec.ofChange fnCredentialsSpec)

/-- ITS FALSE NEIGHBOUR: 'it returns false'. Refute it at one input. -/
def fnCredentialsWrong : ChangeSpec := { name := "fnCredentials", fn := fun _ => fun
  | [d] => { results := [.lit (.bool false)], args := [d] }
  | _ => none }
def FnCredentialsWrongFalsely : Prop := fnCredentialsRow.holds Try.pinned (OpenSpec.ofChange fnCredentialsWrong)

/-- 'laws.FnExactVerifyLog': WHATEVER THE INPUT: true; the input reads as it did. -/
def fnExactVerifyLogSpec : ChangeSpec := { name := "fnExactVerifyLog", fn := fun _ => fun
  | [d] => { results := [.lit (.bool true)], args := [d] }
  | _ => none }
def fnExactVerifyLogRow : OpenClaim := { program := "ytgcipecdaimjfaa", sum := "d744847961fc13e8af1f6757523ba18a166d8f8cc4b20a911929be858966d873", func := "loop.example/g00581/laws.FnExactVerifyLog", spec := "fnExactVerifyLog", apart := false }
def FnExactVerifyLogSaid : Prop := fnExactVerifyLogRow.holds Try.pinned (OpenSpec.ofChange fnExactVerifyLogSpec)

/-- ITS FALSE NEIGHBOUR: 'it returns false'. Refute it at one input. -/
def fnExactVerifyLogWrong : ChangeSpec := { name := "fnExactVerifyLog", fn := fun _ => fun
  | [d] => { results := [.lit (.bool false)], args := [d] }
  | _ => none }
def FnExactVerifyLogWrongFalsely : Prop := fnExactVerifyLogRow.holds Try.pinned (OpenSpec.ofChange fnExactVerifyLogWrong)

/-- 'laws.FnExactEqualSites': WHATEVER THE INPUT: true; the input reads as it did. -/
def fnExactEqualSitesSpec : ChangeSpec := { name := "fnExactEqualSites", fn := fun _ => fun
  | [d1, d2] => { results := [.lit (.bool true)], args := [d1, d2] }
  | _ => none }
def fnExactEqualSitesRow : OpenClaim := { program := "ytgcipecdaimjfaa", sum := "d744847961fc13e8af1f6757523ba18a166d8f8cc4b20a911929be858966d873", func := "loop.example/g00581/laws.FnExactEqualSites", spec := "fnExactEqualSites", apart := false }
def FnExactEqualSitesSaid : Prop := fnExactEqualSitesRow.holds Try.pinned (OpenSpec.ofChange fnExactEqualSitesSpec)

/-- ITS FALSE NEIGHBOUR: 'it returns false'. Refute it at one input. -/
def fnExactEqualSitesWrong : ChangeSpec := { name := "fnExactEqualSites", fn := fun _ => fun
  | [d1, d2] => { results := [.lit (.bool false)], args := [d1, d2] }
  | _ => none }
def FnExactEqualSitesWrongFalsely : Prop := fnExactEqualSitesRow.holds Try.pinned (OpenSpec.ofChange fnExactEqualSitesWrong)

/-- 'laws.FnExactSealBundle': WHATEVER THE INPUT: true; the input reads as it did. -/
def fnExactSealBundleSpec : ChangeSpec := { name := "fnExactSealBundle", fn := fun _ => fun
  | [d1, d2, d3, d4] => { results := [.lit (.bool true)], args := [d1, d2, d3, d4] }
  | _ => none }
def fnExactSealBundleRow : OpenClaim := { program := "ytgcipecdaimjfaa", sum := "d744847961fc13e8af1f6757523ba18a166d8f8cc4b20a911929be858966d873", func := "loop.example/g00581/laws.FnExactSealBundle", spec := "fnExactSealBundle", apart := false }
def FnExactSealBundleSaid : Prop := fnExactSealBundleRow.holds Try.pinned (OpenSpec.ofChange fnExactSealBundleSpec)

/-- ITS FALSE NEIGHBOUR: 'it returns false'. Refute it at one input. -/
def fnExactSealBundleWrong : ChangeSpec := { name := "fnExactSealBundle", fn := fun _ => fun
  | [d1, d2, d3, d4] => { results := [.lit (.bool false)], args := [d1, d2, d3, d4] }
  | _ => none }
def FnExactSealBundleWrongFalsely : Prop := fnExactSealBundleRow.holds Try.pinned (OpenSpec.ofChange fnExactSealBundleWrong)

/-- 'laws.FnDeviceLogs': WHATEVER THE INPUT: true; the input reads as it did. -/
def fnDeviceLogsSpec : ChangeSpec := { name := "fnDeviceLogs", fn := fun _ => fun
  | [d] => { results := [.lit (.bool true)], args := [d] }
  | _ => none }
def fnDeviceLogsRow : OpenClaim := { program := "ytgcipecdaimjfaa", sum := "d744847961fc13e8af1f6757523ba18a166d8f8cc4b20a911929be858966d873", func := "loop.example/g00581/laws.FnDeviceLogs", spec := "fnDeviceLogs", apart := false }
def FnDeviceLogsSaid : Prop := fnDeviceLogsRow.holds Try.pinned (OpenSpec.ofChange fnDeviceLogsSpec)

/-- ITS FALSE NEIGHBOUR: 'it returns false'. Refute it at one input. -/
def fnDeviceLogsWrong : ChangeSpec := { name := "fnDeviceLogs", fn := fun _ => fun
  | [d] => { results := [.lit (.bool false)], args := [d] }
  | _ => none }
def FnDeviceLogsWrongFalsely : Prop := fnDeviceLogsRow.holds Try.pinned (OpenSpec.ofChange fnDeviceLogsWrong)

/-- 'laws.FnFresher': WHATEVER THE INPUT: true; the input reads as it did. -/
def fnFresherSpec : ChangeSpec := { name := "fnFresher", fn := fun _ => fun
  | [d] => { results := [.lit (.bool true)], args := [d] }
  | _ => none }
def fnFresherRow : OpenClaim := { program := "ytgcipecdaimjfaa", sum := "d744847961fc13e8af1f6757523ba18a166d8f8cc4b20a911929be858966d873", func := "loop.example/g00581/laws.FnFresher", spec := "fnFresher", apart := false }
def FnFresherSaid : Prop := fnFresherRow.holds Try.pinned (OpenSpec.ofChange fnFresherSpec)

/-- ITS FALSE NEIGHBOUR: 'it returns false'. Refute it at one input. -/
def fnFresherWrong : ChangeSpec := { name := "fnFresher", fn := fun _ => fun
  | [d] => { results := [.lit (.bool false)], args := [d] }
  | _ => none }
def FnFresherWrongFalsely : Prop := fnFresherRow.holds Try.pinned (OpenSpec.ofChange fnFresherWrong)

/- THE SECOND FORM. 'bulk': how many values and letters a reading holds, each counted each time it is reached (what is shared counts as often as it is met; a slice's spare places count too). A statement '..UptoSaid' is the law's where the arguments, and the package variables that the reading takes, are together of bulk at most 1048576: NARROWER than '..Said'. Prove '..Said' where nothing that the law and all that it calls make is longer than what came in: it says more and counts as full. Else prove '..UptoSaid'. A law counts once. -/
mutual
def uptoBulk {H : Type} : DataW H → Nat
  | .lit (.string bytes) => bytes.length + 1
  | .lit _ => 1
  | .nil => 1
  | .ptr d => uptoBulk d + 1
  | .slice elems spare => uptoBulkAll elems + uptoBulkAll spare + 1
  | .agg parts => uptoBulkAll parts + 1
  | .iface _ d => uptoBulk d + 1
  | .map entries => uptoBulkEntries entries + 1
  | .held _ => 1
def uptoBulkAll {H : Type} : List (DataW H) → Nat
  | [] => 0
  | d :: r => uptoBulk d + uptoBulkAll r
def uptoBulkEntries {H : Type} : List (Lit × DataW H) → Nat
  | [] => 0
  | x :: r => uptoBulkEntry x + uptoBulkEntries r
def uptoBulkEntry {H : Type} : Lit × DataW H → Nat
  | (.string bytes, d) => bytes.length + uptoBulk d + 1
  | (_, d) => uptoBulk d + 1
 end
def uptoSmall : (H : Type) → List (DataW H) → Bool := fun _ ds => decide (uptoBulkAll ds ≤ 1048576)
def OpenSpec.upto (s : _root_.Go.ChangeSpec) : _root_.Go.OpenSpec := { _root_.Go.OpenSpec.ofChange s with cond := some uptoSmall }

/-- 'laws.FnCredentials', WHERE WHAT IT READS IS OF BULK AT MOST 1048576: true; the input reads as it did. -/
def fnCredentialsUptoRow : OpenClaim := { program := "ytgcipecdaimjfaa", sum := "d744847961fc13e8af1f6757523ba18a166d8f8cc4b20a911929be858966d873", func := "loop.example/g00581/laws.FnCredentials", spec := "fnCredentials", apart := false, narrowed := true }
def FnCredentialsUptoSaid : Prop := fnCredentialsUptoRow.holds Try.pinned (OpenSpec.upto fnCredentialsSpec)

/-- 'laws.FnExactVerifyLog', WHERE WHAT IT READS IS OF BULK AT MOST 1048576: true; the input reads as it did. -/
def fnExactVerifyLogUptoRow : OpenClaim := { program := "ytgcipecdaimjfaa", sum := "d744847961fc13e8af1f6757523ba18a166d8f8cc4b20a911929be858966d873", func := "loop.example/g00581/laws.FnExactVerifyLog", spec := "fnExactVerifyLog", apart := false, narrowed := true }
def FnExactVerifyLogUptoSaid : Prop := fnExactVerifyLogUptoRow.holds Try.pinned (OpenSpec.upto fnExactVerifyLogSpec)

/-- 'laws.FnExactEqualSites', WHERE WHAT IT READS IS OF BULK AT MOST 1048576: true; the input reads as it did. -/
def fnExactEqualSitesUptoRow : OpenClaim := { program := "ytgcipecdaimjfaa", sum := "d744847961fc13e8af1f6757523ba18a166d8f8cc4b20a911929be858966d873", func := "loop.example/g00581/laws.FnExactEqualSites", spec := "fnExactEqualSites", apart := false, narrowed := true }
def FnExactEqualSitesUptoSaid : Prop := fnExactEqualSitesUptoRow.holds Try.pinned (OpenSpec.upto fnExactEqualSitesSpec)

/-- 'laws.FnExactSealBundle', WHERE WHAT IT READS IS OF BULK AT MOST 1048576: true; the input reads as it did. -/
def fnExactSealBundleUptoRow : OpenClaim := { program := "ytgcipecdaimjfaa", sum := "d744847961fc13e8af1f6757523ba18a166d8f8cc4b20a911929be858966d873", func := "loop.example/g00581/laws.FnExactSealBundle", spec := "fnExactSealBundle", apart := false, narrowed := true }
def FnExactSealBundleUptoSaid : Prop := fnExactSealBundleUptoRow.holds Try.pinned (OpenSpec.upto fnExactSealBundleSpec)

/-- 'laws.FnDeviceLogs', WHERE WHAT IT READS IS OF BULK AT MOST 1048576: true; the input reads as it did. -/
def fnDeviceLogsUptoRow : OpenClaim := { program := "ytgcipecdaimjfaa", sum := "d744847961fc13e8af1f6757523ba18a166d8f8cc4b20a911929be858966d873", func := "loop.example/g00581/laws.FnDeviceLogs", spec := "fnDeviceLogs", apart := false, narrowed := true }
def FnDeviceLogsUptoSaid : Prop := fnDeviceLogsUptoRow.holds Try.pinned (OpenSpec.upto fnDeviceLogsSpec)

/-- 'laws.FnFresher', WHERE WHAT IT READS IS OF BULK AT MOST 1048576: true; the input reads as it did. -/
def fnFresherUptoRow : OpenClaim := { program := "ytgcipecdaimjfaa", sum := "d744847961fc13e8af1f6757523ba18a166d8f8cc4b20a911929be858966d873", func := "loop.example/g00581/laws.FnFresher", spec := "fnFresher", apart := false, narrowed := true }
def FnFresherUptoSaid : Prop := fnFresherUptoRow.holds Try.pinned (OpenSpec.upto fnFresherSpec)

end Rows
end Go.Proofs.Ytgcipecdaimjfaa
