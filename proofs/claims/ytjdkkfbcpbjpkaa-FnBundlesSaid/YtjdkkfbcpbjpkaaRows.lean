/-
  No cell of these rows narrows 'for every input' (looked for: loops, veiled, ifaces, maps, wideKeys, modest, calm, conditions, laid).
  DERIVED. THE GIVEN ROWS OF THIS SEAT. 6 by the template 'for every input the law returns true; each argument reads behind the call as it read before'; 0 by the template 'total and deterministic' (their statements: YtjdkkfbcpbjpkaaTotals.lean).
  GIVEN WITH THE SEED: the statements are not yours to turn. If you find one false, say at which input.
  Laid BY PROGRAM, IN A SANDBOX (cutbox-rows.mjs): the forced cells as the released guide's own fill.sh prints them over the translation d84275ba79195ec4… (all of the seat's roots in one cut). By AI agents, Wed Nov 11 2026. No macro, syntax, notation, axiom, sorry.
-/
import Derived.Test.YtjdkkfbcpbjpkaaChecked
import GoSem.Claim
import GoSem.ClaimJoined
import GoSem.ClaimMapViews
import Derived.JoinedTies
import Derived.KernelRfl
namespace Go.Proofs.Ytjdkkfbcpbjpkaa
/- THE CELL 'sum', in the pinned program and in every row, IS THE sha256 OF THE DUMP (.gsa) THAT YtjdkkfbcpbjpkaaProg.lean LOADS. Nothing in Lean hashes anything: it is a label: what it is worth is what the hold of that sum in a sandbox is worth. -/
noncomputable def Try.pinned : Pinned := { name := "ytjdkkfbcpbjpkaa", sum := "d84275ba79195ec4e4064dbf88441988e1c2c3eed3d4c551e5a81ed7df73b928", checked := Try.checked }
namespace Rows
def none {H : Type} : Left H := { results := [], args := [] }

/-- 'laws.FnExactCountBoxes': WHATEVER THE INPUT: true; the input reads as it did. -/
def fnExactCountBoxesSpec : ChangeSpec := { name := "fnExactCountBoxes", fn := fun _ => fun
  | [d1, d2] => { results := [.lit (.bool true)], args := [d1, d2] }
  | _ => none }
def fnExactCountBoxesRow : OpenClaim := { program := "ytjdkkfbcpbjpkaa", sum := "d84275ba79195ec4e4064dbf88441988e1c2c3eed3d4c551e5a81ed7df73b928", func := "loop.example/g00581/laws.FnExactCountBoxes", spec := "fnExactCountBoxes", apart := false }
def FnExactCountBoxesSaid : Prop := fnExactCountBoxesRow.holds Try.pinned (OpenSpec.ofChange fnExactCountBoxesSpec)

/-- ITS FALSE NEIGHBOUR: 'it returns false'. Refute it at one input. -/
def fnExactCountBoxesWrong : ChangeSpec := { name := "fnExactCountBoxes", fn := fun _ => fun
  | [d1, d2] => { results := [.lit (.bool false)], args := [d1, d2] }
  | _ => none }
def FnExactCountBoxesWrongFalsely : Prop := fnExactCountBoxesRow.holds Try.pinned (OpenSpec.ofChange fnExactCountBoxesWrong)

/-- 'laws.FnExactEqualEpochBoxes': WHATEVER THE INPUT: true; the input reads as it did. -/
def fnExactEqualEpochBoxesSpec : ChangeSpec := { name := "fnExactEqualEpochBoxes", fn := fun _ => fun
  | [d1, d2] => { results := [.lit (.bool true)], args := [d1, d2] }
  | _ => none }
def fnExactEqualEpochBoxesRow : OpenClaim := { program := "ytjdkkfbcpbjpkaa", sum := "d84275ba79195ec4e4064dbf88441988e1c2c3eed3d4c551e5a81ed7df73b928", func := "loop.example/g00581/laws.FnExactEqualEpochBoxes", spec := "fnExactEqualEpochBoxes", apart := false }
def FnExactEqualEpochBoxesSaid : Prop := fnExactEqualEpochBoxesRow.holds Try.pinned (OpenSpec.ofChange fnExactEqualEpochBoxesSpec)

/-- ITS FALSE NEIGHBOUR: 'it returns false'. Refute it at one input. -/
def fnExactEqualEpochBoxesWrong : ChangeSpec := { name := "fnExactEqualEpochBoxes", fn := fun _ => fun
  | [d1, d2] => { results := [.lit (.bool false)], args := [d1, d2] }
  | _ => none }
def FnExactEqualEpochBoxesWrongFalsely : Prop := fnExactEqualEpochBoxesRow.holds Try.pinned (OpenSpec.ofChange fnExactEqualEpochBoxesWrong)

/-- 'laws.FnExactIsValidAccount': WHATEVER THE INPUT: true; the input reads as it did. -/
def fnExactIsValidAccountSpec : ChangeSpec := { name := "fnExactIsValidAccount", fn := fun _ => fun
  | [d] => { results := [.lit (.bool true)], args := [d] }
  | _ => none }
def fnExactIsValidAccountRow : OpenClaim := { program := "ytjdkkfbcpbjpkaa", sum := "d84275ba79195ec4e4064dbf88441988e1c2c3eed3d4c551e5a81ed7df73b928", func := "loop.example/g00581/laws.FnExactIsValidAccount", spec := "fnExactIsValidAccount", apart := false }
def FnExactIsValidAccountSaid : Prop := fnExactIsValidAccountRow.holds Try.pinned (OpenSpec.ofChange fnExactIsValidAccountSpec)

/-- ITS FALSE NEIGHBOUR: 'it returns false'. Refute it at one input. -/
def fnExactIsValidAccountWrong : ChangeSpec := { name := "fnExactIsValidAccount", fn := fun _ => fun
  | [d] => { results := [.lit (.bool false)], args := [d] }
  | _ => none }
def FnExactIsValidAccountWrongFalsely : Prop := fnExactIsValidAccountRow.holds Try.pinned (OpenSpec.ofChange fnExactIsValidAccountWrong)

/-- 'laws.FnExactEqualBrowsers': WHATEVER THE INPUT: true; the input reads as it did. -/
def fnExactEqualBrowsersSpec : ChangeSpec := { name := "fnExactEqualBrowsers", fn := fun _ => fun
  | [d1, d2] => { results := [.lit (.bool true)], args := [d1, d2] }
  | _ => none }
def fnExactEqualBrowsersRow : OpenClaim := { program := "ytjdkkfbcpbjpkaa", sum := "d84275ba79195ec4e4064dbf88441988e1c2c3eed3d4c551e5a81ed7df73b928", func := "loop.example/g00581/laws.FnExactEqualBrowsers", spec := "fnExactEqualBrowsers", apart := false }
def FnExactEqualBrowsersSaid : Prop := fnExactEqualBrowsersRow.holds Try.pinned (OpenSpec.ofChange fnExactEqualBrowsersSpec)

/-- ITS FALSE NEIGHBOUR: 'it returns false'. Refute it at one input. -/
def fnExactEqualBrowsersWrong : ChangeSpec := { name := "fnExactEqualBrowsers", fn := fun _ => fun
  | [d1, d2] => { results := [.lit (.bool false)], args := [d1, d2] }
  | _ => none }
def FnExactEqualBrowsersWrongFalsely : Prop := fnExactEqualBrowsersRow.holds Try.pinned (OpenSpec.ofChange fnExactEqualBrowsersWrong)

/-- 'laws.FnExactDevicesOf': WHATEVER THE INPUT: true; the input reads as it did. -/
def fnExactDevicesOfSpec : ChangeSpec := { name := "fnExactDevicesOf", fn := fun _ => fun
  | [d] => { results := [.lit (.bool true)], args := [d] }
  | _ => none }
def fnExactDevicesOfRow : OpenClaim := { program := "ytjdkkfbcpbjpkaa", sum := "d84275ba79195ec4e4064dbf88441988e1c2c3eed3d4c551e5a81ed7df73b928", func := "loop.example/g00581/laws.FnExactDevicesOf", spec := "fnExactDevicesOf", apart := false }
def FnExactDevicesOfSaid : Prop := fnExactDevicesOfRow.holds Try.pinned (OpenSpec.ofChange fnExactDevicesOfSpec)

/-- ITS FALSE NEIGHBOUR: 'it returns false'. Refute it at one input. -/
def fnExactDevicesOfWrong : ChangeSpec := { name := "fnExactDevicesOf", fn := fun _ => fun
  | [d] => { results := [.lit (.bool false)], args := [d] }
  | _ => none }
def FnExactDevicesOfWrongFalsely : Prop := fnExactDevicesOfRow.holds Try.pinned (OpenSpec.ofChange fnExactDevicesOfWrong)

/-- 'laws.FnBundles': WHATEVER THE INPUT: true; the input reads as it did. -/
def fnBundlesSpec : ChangeSpec := { name := "fnBundles", fn := fun _ => fun
  | [d] => { results := [.lit (.bool true)], args := [d] }
  | _ => none }
def fnBundlesRow : OpenClaim := { program := "ytjdkkfbcpbjpkaa", sum := "d84275ba79195ec4e4064dbf88441988e1c2c3eed3d4c551e5a81ed7df73b928", func := "loop.example/g00581/laws.FnBundles", spec := "fnBundles", apart := false }
def FnBundlesSaid : Prop := fnBundlesRow.holds Try.pinned (OpenSpec.ofChange fnBundlesSpec)

/-- ITS FALSE NEIGHBOUR: 'it returns false'. Refute it at one input. -/
def fnBundlesWrong : ChangeSpec := { name := "fnBundles", fn := fun _ => fun
  | [d] => { results := [.lit (.bool false)], args := [d] }
  | _ => none }
def FnBundlesWrongFalsely : Prop := fnBundlesRow.holds Try.pinned (OpenSpec.ofChange fnBundlesWrong)

/- THE SECOND FORM. 'bulk': how many values and letters a reading holds, each counted each time it is reached (what is shared counts as often as it is met; a slice's spare places count too). A statement '..UptoSaid' is the law's where the arguments, and the package variables that the reading takes, are together of bulk at most 1048576: NARROWER than '..Said'. Prove '..Said' where nothing that the law and all that it calls make is longer than what came in: it says more and counts as full. Else prove '..UptoSaid'. A law counts once. -/
mutual
def uptoBulk {H : Type} : DataW H → Nat
  | .lit (.string bytes) => bytes.length + 1
  | .lit _ => 1
  | .nil => 1
  | .ptr d => uptoBulk d + 1
  | .slice elems spare => uptoBulkAll elems + uptoBulkAll spare + 1
  | .agg parts => uptoBulkAll parts + 1
  | .iface _ d => uptoBulk d + 1
  | .map entries => uptoBulkEntries entries + 1
  | .held _ => 1
def uptoBulkAll {H : Type} : List (DataW H) → Nat
  | [] => 0
  | d :: r => uptoBulk d + uptoBulkAll r
def uptoBulkEntries {H : Type} : List (Lit × DataW H) → Nat
  | [] => 0
  | x :: r => uptoBulkEntry x + uptoBulkEntries r
def uptoBulkEntry {H : Type} : Lit × DataW H → Nat
  | (.string bytes, d) => bytes.length + uptoBulk d + 1
  | (_, d) => uptoBulk d + 1
 end
def uptoSmall : (H : Type) → List (DataW H) → Bool := fun _ ds => decide (uptoBulkAll ds ≤ 1048576)
def OpenSpec.upto (s : _root_.Go.ChangeSpec) : _root_.Go.OpenSpec := { _root_.Go.OpenSpec.ofChange s with cond := some uptoSmall }

/-- 'laws.FnExactCountBoxes', WHERE WHAT IT READS IS OF BULK AT MOST 1048576: true; the input reads as it did. -/
def fnExactCountBoxesUptoRow : OpenClaim := { program := "ytjdkkfbcpbjpkaa", sum := "d84275ba79195ec4e4064dbf88441988e1c2c3eed3d4c551e5a81ed7df73b928", func := "loop.example/g00581/laws.FnExactCountBoxes", spec := "fnExactCountBoxes", apart := false, narrowed := true }
def FnExactCountBoxesUptoSaid : Prop := fnExactCountBoxesUptoRow.holds Try.pinned (OpenSpec.upto fnExactCountBoxesSpec)

/-- 'laws.FnExactEqualEpochBoxes', WHERE WHAT IT READS IS OF BULK AT MOST 1048576: true; the input reads as it did. -/
def fnExactEqualEpochBoxesUptoRow : OpenClaim := { program := "ytjdkkfbcpbjpkaa", sum := "d84275ba79195ec4e4064dbf88441988e1c2c3eed3d4c551e5a81ed7df73b928", func := "loop.example/g00581/laws.FnExactEqualEpochBoxes", spec := "fnExactEqualEpochBoxes", apart := false, narrowed := true }
def FnExactEqualEpochBoxesUptoSaid : Prop := fnExactEqualEpochBoxesUptoRow.holds Try.pinned (OpenSpec.upto fnExactEqualEpochBoxesSpec)

/-- 'laws.FnExactIsValidAccount', WHERE WHAT IT READS IS OF BULK AT MOST 1048576: true; the input reads as it did. -/
def fnExactIsValidAccountUptoRow : OpenClaim := { program := "ytjdkkfbcpbjpkaa", sum := "d84275ba79195ec4e4064dbf88441988e1c2c3eed3d4c551e5a81ed7df73b928", func := "loop.example/g00581/laws.FnExactIsValidAccount", spec := "fnExactIsValidAccount", apart := false, narrowed := true }
def FnExactIsValidAccountUptoSaid : Prop := fnExactIsValidAccountUptoRow.holds Try.pinned (OpenSpec.upto fnExactIsValidAccountSpec)

/-- 'laws.FnExactEqualBrowsers', WHERE WHAT IT READS IS OF BULK AT MOST 1048576: true; the input reads as it did. -/
def fnExactEqualBrowsersUptoRow : OpenClaim := { program := "ytjdkkfbcpbjpkaa", sum := "d84275ba79195ec4e4064dbf88441988e1c2c3eed3d4c551e5a81ed7df73b928", func := "loop.example/g00581/laws.FnExactEqualBrowsers", spec := "fnExactEqualBrowsers", apart := false, narrowed := true }
def FnExactEqualBrowsersUptoSaid : Prop := fnExactEqualBrowsersUptoRow.holds Try.pinned (OpenSpec.upto fnExactEqualBrowsersSpec)

/-- 'laws.FnExactDevicesOf', WHERE WHAT IT READS IS OF BULK AT MOST 1048576: true; the input reads as it did. -/
def fnExactDevicesOfUptoRow : OpenClaim := { program := "ytjdkkfbcpbjpkaa", sum := "d84275ba79195ec4e4064dbf88441988e1c2c3eed3d4c551e5a81ed7df73b928", func := "loop.example/g00581/laws.FnExactDevicesOf", spec := "fnExactDevicesOf", apart := false, narrowed := true }
def FnExactDevicesOfUptoSaid : Prop := fnExactDevicesOfUptoRow.holds Try.pinned (OpenSpec.upto fnExactDevicesOfSpec)

/-- 'laws.FnBundles', WHERE WHAT IT READS IS OF BULK AT MOST 1048576: true; the input reads as it did. -/
def fnBundlesUptoRow : OpenClaim := { program := "ytjdkkfbcpbjpkaa", sum := "d84275ba79195ec4e4064dbf88441988e1c2c3eed3d4c551e5a81ed7df73b928", func := "loop.example/g00581/laws.FnBundles", spec := "fnBundles", apart := false, narrowed := true }
def FnBundlesUptoSaid : Prop := fnBundlesUptoRow.holds Try.pinned (OpenSpec.upto fnBundlesSpec)

end Rows
end Go.Proofs.Ytjdkkfbcpbjpkaa
