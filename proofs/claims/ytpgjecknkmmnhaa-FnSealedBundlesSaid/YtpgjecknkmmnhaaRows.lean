/-
  No cell of these rows narrows 'for every input' (looked for: loops, veiled, ifaces, maps, wideKeys, modest, calm, conditions, laid).
  DERIVED. THE GIVEN ROWS OF THIS SEAT. 4 by the template 'for every input the law returns true; each argument reads behind the call as it read before'; 0 by the template 'total and deterministic' (their statements: YtpgjecknkmmnhaaTotals.lean).
  GIVEN WITH THE SEED: the statements are not yours to turn. If you find one false, say at which input.
  Laid BY PROGRAM, IN A SANDBOX (cutbox-rows.mjs): the forced cells as the released guide's own fill.sh prints them over the translation b7b93a4875d44e01… (all of the seat's roots in one cut). By AI agents, Wed Nov 11 2026. No macro, syntax, notation, axiom, sorry.
-/
import Derived.Test.YtpgjecknkmmnhaaChecked
import GoSem.Claim
import GoSem.ClaimJoined
import GoSem.ClaimMapViews
import Derived.JoinedTies
import Derived.KernelRfl
namespace Go.Proofs.Ytpgjecknkmmnhaa
/- THE CELL 'sum', in the pinned program and in every row, IS THE sha256 OF THE DUMP (.gsa) THAT YtpgjecknkmmnhaaProg.lean LOADS. Nothing in Lean hashes anything: it is a label: what it is worth is what the hold of that sum in a sandbox is worth. -/
noncomputable def Try.pinned : Pinned := { name := "ytpgjecknkmmnhaa", sum := "b7b93a4875d44e0198af2adf9be4d9560e01fdb4989f9502d5dc1ed274595c76", checked := Try.checked }
namespace Rows
def none {H : Type} : Left H := { results := [], args := [] }

/-- 'laws.FnRemoved': WHATEVER THE INPUT: true; the input reads as it did. -/
def fnRemovedSpec : ChangeSpec := { name := "fnRemoved", fn := fun _ => fun
  | [d] => { results := [.lit (.bool true)], args := [d] }
  | _ => none }
def fnRemovedRow : OpenClaim := { program := "ytpgjecknkmmnhaa", sum := "b7b93a4875d44e0198af2adf9be4d9560e01fdb4989f9502d5dc1ed274595c76", func := "loop.example/g00581/laws.FnRemoved", spec := "fnRemoved", apart := false }
def FnRemovedSaid : Prop := fnRemovedRow.holds Try.pinned (OpenSpec.ofChange fnRemovedSpec)

/-- ITS FALSE NEIGHBOUR: 'it returns false'. Refute it at one input. -/
def fnRemovedWrong : ChangeSpec := { name := "fnRemoved", fn := fun _ => fun
  | [d] => { results := [.lit (.bool false)], args := [d] }
  | _ => none }
def FnRemovedWrongFalsely : Prop := fnRemovedRow.holds Try.pinned (OpenSpec.ofChange fnRemovedWrong)

/-- 'laws.FnExactAppendEntry': WHATEVER THE INPUT: true; the input reads as it did. -/
def fnExactAppendEntrySpec : ChangeSpec := { name := "fnExactAppendEntry", fn := fun _ => fun
  | [d1, d2, d3, d4] => { results := [.lit (.bool true)], args := [d1, d2, d3, d4] }
  | _ => none }
def fnExactAppendEntryRow : OpenClaim := { program := "ytpgjecknkmmnhaa", sum := "b7b93a4875d44e0198af2adf9be4d9560e01fdb4989f9502d5dc1ed274595c76", func := "loop.example/g00581/laws.FnExactAppendEntry", spec := "fnExactAppendEntry", apart := false }
def FnExactAppendEntrySaid : Prop := fnExactAppendEntryRow.holds Try.pinned (OpenSpec.ofChange fnExactAppendEntrySpec)

/-- ITS FALSE NEIGHBOUR: 'it returns false'. Refute it at one input. -/
def fnExactAppendEntryWrong : ChangeSpec := { name := "fnExactAppendEntry", fn := fun _ => fun
  | [d1, d2, d3, d4] => { results := [.lit (.bool false)], args := [d1, d2, d3, d4] }
  | _ => none }
def FnExactAppendEntryWrongFalsely : Prop := fnExactAppendEntryRow.holds Try.pinned (OpenSpec.ofChange fnExactAppendEntryWrong)

/-- 'laws.FnSealedBundles': WHATEVER THE INPUT: true; the input reads as it did. -/
def fnSealedBundlesSpec : ChangeSpec := { name := "fnSealedBundles", fn := fun _ => fun
  | [d] => { results := [.lit (.bool true)], args := [d] }
  | _ => none }
def fnSealedBundlesRow : OpenClaim := { program := "ytpgjecknkmmnhaa", sum := "b7b93a4875d44e0198af2adf9be4d9560e01fdb4989f9502d5dc1ed274595c76", func := "loop.example/g00581/laws.FnSealedBundles", spec := "fnSealedBundles", apart := false }
def FnSealedBundlesSaid : Prop := fnSealedBundlesRow.holds Try.pinned (OpenSpec.ofChange fnSealedBundlesSpec)

/-- ITS FALSE NEIGHBOUR: 'it returns false'. Refute it at one input. -/
def fnSealedBundlesWrong : ChangeSpec := { name := "fnSealedBundles", fn := fun _ => fun
  | [d] => { results := [.lit (.bool false)], args := [d] }
  | _ => none }
def FnSealedBundlesWrongFalsely : Prop := fnSealedBundlesRow.holds Try.pinned (OpenSpec.ofChange fnSealedBundlesWrong)

/-- 'laws.FnExactOpenBundle': WHATEVER THE INPUT: true; the input reads as it did. -/
def fnExactOpenBundleSpec : ChangeSpec := { name := "fnExactOpenBundle", fn := fun _ => fun
  | [d1, d2] => { results := [.lit (.bool true)], args := [d1, d2] }
  | _ => none }
def fnExactOpenBundleRow : OpenClaim := { program := "ytpgjecknkmmnhaa", sum := "b7b93a4875d44e0198af2adf9be4d9560e01fdb4989f9502d5dc1ed274595c76", func := "loop.example/g00581/laws.FnExactOpenBundle", spec := "fnExactOpenBundle", apart := false }
def FnExactOpenBundleSaid : Prop := fnExactOpenBundleRow.holds Try.pinned (OpenSpec.ofChange fnExactOpenBundleSpec)

/-- ITS FALSE NEIGHBOUR: 'it returns false'. Refute it at one input. -/
def fnExactOpenBundleWrong : ChangeSpec := { name := "fnExactOpenBundle", fn := fun _ => fun
  | [d1, d2] => { results := [.lit (.bool false)], args := [d1, d2] }
  | _ => none }
def FnExactOpenBundleWrongFalsely : Prop := fnExactOpenBundleRow.holds Try.pinned (OpenSpec.ofChange fnExactOpenBundleWrong)

/- THE SECOND FORM. 'bulk': how many values and letters a reading holds, each counted each time it is reached (what is shared counts as often as it is met; a slice's spare places count too). A statement '..UptoSaid' is the law's where the arguments, and the package variables that the reading takes, are together of bulk at most 1048576: NARROWER than '..Said'. Prove '..Said' where nothing that the law and all that it calls make is longer than what came in: it says more and counts as full. Else prove '..UptoSaid'. A law counts once. -/
mutual
def uptoBulk {H : Type} : DataW H → Nat
  | .lit (.string bytes) => bytes.length + 1
  | .lit _ => 1
  | .nil => 1
  | .ptr d => uptoBulk d + 1
  | .slice elems spare => uptoBulkAll elems + uptoBulkAll spare + 1
  | .agg parts => uptoBulkAll parts + 1
  | .iface _ d => uptoBulk d + 1
  | .map entries => uptoBulkEntries entries + 1
  | .held _ => 1
def uptoBulkAll {H : Type} : List (DataW H) → Nat
  | [] => 0
  | d :: r => uptoBulk d + uptoBulkAll r
def uptoBulkEntries {H : Type} : List (Lit × DataW H) → Nat
  | [] => 0
  | x :: r => uptoBulkEntry x + uptoBulkEntries r
def uptoBulkEntry {H : Type} : Lit × DataW H → Nat
  | (.string bytes, d) => bytes.length + uptoBulk d + 1
  | (_, d) => uptoBulk d + 1
 end
def uptoSmall : (H : Type) → List (DataW H) → Bool := fun _ ds => decide (uptoBulkAll ds ≤ 1048576)
def OpenSpec.upto (s : _root_.Go.ChangeSpec) : _root_.Go.OpenSpec := { _root_.Go.OpenSpec.ofChange s with cond := some uptoSmall }

/-- 'laws.FnRemoved', WHERE WHAT IT READS IS OF BULK AT MOST 1048576: true; the input reads as it did. -/
def fnRemovedUptoRow : OpenClaim := { program := "ytpgjecknkmmnhaa", sum := "b7b93a4875d44e0198af2adf9be4d9560e01fdb4989f9502d5dc1ed274595c76", func := "loop.example/g00581/laws.FnRemoved", spec := "fnRemoved", apart := false, narrowed := true }
def FnRemovedUptoSaid : Prop := fnRemovedUptoRow.holds Try.pinned (OpenSpec.upto fnRemovedSpec)

/-- 'laws.FnExactAppendEntry', WHERE WHAT IT READS IS OF BULK AT MOST 1048576: true; the input reads as it did. -/
def fnExactAppendEntryUptoRow : OpenClaim := { program := "ytpgjecknkmmnhaa", sum := "b7b93a4875d44e0198af2adf9be4d9560e01fdb4989f9502d5dc1ed274595c76", func := "loop.example/g00581/laws.FnExactAppendEntry", spec := "fnExactAppendEntry", apart := false, narrowed := true }
def FnExactAppendEntryUptoSaid : Prop := fnExactAppendEntryUptoRow.holds Try.pinned (OpenSpec.upto fnExactAppendEntrySpec)

/-- 'laws.FnSealedBundles', WHERE WHAT IT READS IS OF BULK AT MOST 1048576: true; the input reads as it did. -/
def fnSealedBundlesUptoRow : OpenClaim := { program := "ytpgjecknkmmnhaa", sum := "b7b93a4875d44e0198af2adf9be4d9560e01fdb4989f9502d5dc1ed274595c76", func := "loop.example/g00581/laws.FnSealedBundles", spec := "fnSealedBundles", apart := false, narrowed := true }
def FnSealedBundlesUptoSaid : Prop := fnSealedBundlesUptoRow.holds Try.pinned (OpenSpec.upto fnSealedBundlesSpec)

/-- 'laws.FnExactOpenBundle', WHERE WHAT IT READS IS OF BULK AT MOST 1048576: true; the input reads as it did. -/
def fnExactOpenBundleUptoRow : OpenClaim := { program := "ytpgjecknkmmnhaa", sum := "b7b93a4875d44e0198af2adf9be4d9560e01fdb4989f9502d5dc1ed274595c76", func := "loop.example/g00581/laws.FnExactOpenBundle", spec := "fnExactOpenBundle", apart := false, narrowed := true }
def FnExactOpenBundleUptoSaid : Prop := fnExactOpenBundleUptoRow.holds Try.pinned (OpenSpec.upto fnExactOpenBundleSpec)

end Rows
end Go.Proofs.Ytpgjecknkmmnhaa
