/-
  No cell of these rows narrows 'for every input' (looked for: loops, veiled, ifaces, maps, wideKeys, modest, calm, conditions, laid).
  DERIVED. THE GIVEN ROWS OF THIS SEAT. 6 by the template 'for every input the law returns true; each argument reads behind the call as it read before'; 0 by the template 'total and deterministic' (their statements: YtnifeegdkhmakaaTotals.lean).
  GIVEN WITH THE SEED: the statements are not yours to turn. If you find one false, say at which input.
  Laid BY PROGRAM, IN A SANDBOX (cutbox-rows.mjs): the forced cells as the released guide's own fill.sh prints them over the translation c62abd04eed45359… (all of the seat's roots in one cut). By AI agents, Wed Nov 11 2026. No macro, syntax, notation, axiom, sorry.
-/
import Derived.Test.YtnifeegdkhmakaaChecked
import GoSem.Claim
import GoSem.ClaimJoined
import GoSem.ClaimMapViews
import Derived.JoinedTies
import Derived.KernelRfl
namespace Go.Proofs.Ytnifeegdkhmakaa
/- THE CELL 'sum', in the pinned program and in every row, IS THE sha256 OF THE DUMP (.gsa) THAT YtnifeegdkhmakaaProg.lean LOADS. Nothing in Lean hashes anything: it is a label: what it is worth is what the hold of that sum in a sandbox is worth. -/
noncomputable def Try.pinned : Pinned := { name := "ytnifeegdkhmakaa", sum := "c62abd04eed4535913597f49f05e999149c503eeb4f776584fa32e0da398d367", checked := Try.checked }
namespace Rows
def none {H : Type} : Left H := { results := [], args := [] }

/-- 'laws.FnExactAllowsMethod': WHATEVER THE INPUT: true; the input reads as it did. -/
def fnExactAllowsMethodSpec : ChangeSpec := { name := "fnExactAllowsMethod", fn := fun _ => fun
  | [d1, d2] => { results := [.lit (.bool true)], args := [d1, d2] }
  | _ => none }
def fnExactAllowsMethodRow : OpenClaim := { program := "ytnifeegdkhmakaa", sum := "c62abd04eed4535913597f49f05e999149c503eeb4f776584fa32e0da398d367", func := "loop.example/g00581/laws.FnExactAllowsMethod", spec := "fnExactAllowsMethod", apart := false }
def FnExactAllowsMethodSaid : Prop := fnExactAllowsMethodRow.holds Try.pinned (OpenSpec.ofChange fnExactAllowsMethodSpec)

/-- ITS FALSE NEIGHBOUR: 'it returns false'. Refute it at one input. -/
def fnExactAllowsMethodWrong : ChangeSpec := { name := "fnExactAllowsMethod", fn := fun _ => fun
  | [d1, d2] => { results := [.lit (.bool false)], args := [d1, d2] }
  | _ => none }
def FnExactAllowsMethodWrongFalsely : Prop := fnExactAllowsMethodRow.holds Try.pinned (OpenSpec.ofChange fnExactAllowsMethodWrong)

/-- 'laws.FnExactDeleteEntry': WHATEVER THE INPUT: true; the input reads as it did. -/
def fnExactDeleteEntrySpec : ChangeSpec := { name := "fnExactDeleteEntry", fn := fun _ => fun
  | [d1, d2, d3] => { results := [.lit (.bool true)], args := [d1, d2, d3] }
  | _ => none }
def fnExactDeleteEntryRow : OpenClaim := { program := "ytnifeegdkhmakaa", sum := "c62abd04eed4535913597f49f05e999149c503eeb4f776584fa32e0da398d367", func := "loop.example/g00581/laws.FnExactDeleteEntry", spec := "fnExactDeleteEntry", apart := false }
def FnExactDeleteEntrySaid : Prop := fnExactDeleteEntryRow.holds Try.pinned (OpenSpec.ofChange fnExactDeleteEntrySpec)

/-- ITS FALSE NEIGHBOUR: 'it returns false'. Refute it at one input. -/
def fnExactDeleteEntryWrong : ChangeSpec := { name := "fnExactDeleteEntry", fn := fun _ => fun
  | [d1, d2, d3] => { results := [.lit (.bool false)], args := [d1, d2, d3] }
  | _ => none }
def FnExactDeleteEntryWrongFalsely : Prop := fnExactDeleteEntryRow.holds Try.pinned (OpenSpec.ofChange fnExactDeleteEntryWrong)

/-- 'laws.FnExactIncludesBundle': WHATEVER THE INPUT: true; the input reads as it did. -/
def fnExactIncludesBundleSpec : ChangeSpec := { name := "fnExactIncludesBundle", fn := fun _ => fun
  | [d1, d2] => { results := [.lit (.bool true)], args := [d1, d2] }
  | _ => none }
def fnExactIncludesBundleRow : OpenClaim := { program := "ytnifeegdkhmakaa", sum := "c62abd04eed4535913597f49f05e999149c503eeb4f776584fa32e0da398d367", func := "loop.example/g00581/laws.FnExactIncludesBundle", spec := "fnExactIncludesBundle", apart := false }
def FnExactIncludesBundleSaid : Prop := fnExactIncludesBundleRow.holds Try.pinned (OpenSpec.ofChange fnExactIncludesBundleSpec)

/-- ITS FALSE NEIGHBOUR: 'it returns false'. Refute it at one input. -/
def fnExactIncludesBundleWrong : ChangeSpec := { name := "fnExactIncludesBundle", fn := fun _ => fun
  | [d1, d2] => { results := [.lit (.bool false)], args := [d1, d2] }
  | _ => none }
def FnExactIncludesBundleWrongFalsely : Prop := fnExactIncludesBundleRow.holds Try.pinned (OpenSpec.ofChange fnExactIncludesBundleWrong)

/-- 'laws.FnExactEncodeBundle': WHATEVER THE INPUT: true; the input reads as it did. -/
def fnExactEncodeBundleSpec : ChangeSpec := { name := "fnExactEncodeBundle", fn := fun _ => fun
  | [d] => { results := [.lit (.bool true)], args := [d] }
  | _ => none }
def fnExactEncodeBundleRow : OpenClaim := { program := "ytnifeegdkhmakaa", sum := "c62abd04eed4535913597f49f05e999149c503eeb4f776584fa32e0da398d367", func := "loop.example/g00581/laws.FnExactEncodeBundle", spec := "fnExactEncodeBundle", apart := false }
def FnExactEncodeBundleSaid : Prop := fnExactEncodeBundleRow.holds Try.pinned (OpenSpec.ofChange fnExactEncodeBundleSpec)

/-- ITS FALSE NEIGHBOUR: 'it returns false'. Refute it at one input. -/
def fnExactEncodeBundleWrong : ChangeSpec := { name := "fnExactEncodeBundle", fn := fun _ => fun
  | [d] => { results := [.lit (.bool false)], args := [d] }
  | _ => none }
def FnExactEncodeBundleWrongFalsely : Prop := fnExactEncodeBundleRow.holds Try.pinned (OpenSpec.ofChange fnExactEncodeBundleWrong)

/-- 'laws.FnExactPutEntry': WHATEVER THE INPUT: true; the input reads as it did. -/
def fnExactPutEntrySpec : ChangeSpec := { name := "fnExactPutEntry", fn := fun _ => fun
  | [d1, d2, d3] => { results := [.lit (.bool true)], args := [d1, d2, d3] }
  | _ => none }
def fnExactPutEntryRow : OpenClaim := { program := "ytnifeegdkhmakaa", sum := "c62abd04eed4535913597f49f05e999149c503eeb4f776584fa32e0da398d367", func := "loop.example/g00581/laws.FnExactPutEntry", spec := "fnExactPutEntry", apart := false }
def FnExactPutEntrySaid : Prop := fnExactPutEntryRow.holds Try.pinned (OpenSpec.ofChange fnExactPutEntrySpec)

/-- ITS FALSE NEIGHBOUR: 'it returns false'. Refute it at one input. -/
def fnExactPutEntryWrong : ChangeSpec := { name := "fnExactPutEntry", fn := fun _ => fun
  | [d1, d2, d3] => { results := [.lit (.bool false)], args := [d1, d2, d3] }
  | _ => none }
def FnExactPutEntryWrongFalsely : Prop := fnExactPutEntryRow.holds Try.pinned (OpenSpec.ofChange fnExactPutEntryWrong)

/-- 'laws.FnExactMergeBundles': WHATEVER THE INPUT: true; the input reads as it did. -/
def fnExactMergeBundlesSpec : ChangeSpec := { name := "fnExactMergeBundles", fn := fun _ => fun
  | [d1, d2] => { results := [.lit (.bool true)], args := [d1, d2] }
  | _ => none }
def fnExactMergeBundlesRow : OpenClaim := { program := "ytnifeegdkhmakaa", sum := "c62abd04eed4535913597f49f05e999149c503eeb4f776584fa32e0da398d367", func := "loop.example/g00581/laws.FnExactMergeBundles", spec := "fnExactMergeBundles", apart := false }
def FnExactMergeBundlesSaid : Prop := fnExactMergeBundlesRow.holds Try.pinned (OpenSpec.ofChange fnExactMergeBundlesSpec)

/-- ITS FALSE NEIGHBOUR: 'it returns false'. Refute it at one input. -/
def fnExactMergeBundlesWrong : ChangeSpec := { name := "fnExactMergeBundles", fn := fun _ => fun
  | [d1, d2] => { results := [.lit (.bool false)], args := [d1, d2] }
  | _ => none }
def FnExactMergeBundlesWrongFalsely : Prop := fnExactMergeBundlesRow.holds Try.pinned (OpenSpec.ofChange fnExactMergeBundlesWrong)

/- THE SECOND FORM. 'bulk': how many values and letters a reading holds, each counted each time it is reached (what is shared counts as often as it is met; a slice's spare places count too). A statement '..UptoSaid' is the law's where the arguments, and the package variables that the reading takes, are together of bulk at most 1048576: NARROWER than '..Said'. Prove '..Said' where nothing that the law and all that it calls make is longer than what came in: it says more and counts as full. Else prove '..UptoSaid'. A law counts once. -/
mutual
def uptoBulk {H : Type} : DataW H → Nat
  | .lit (.string bytes) => bytes.length + 1
  | .lit _ => 1
  | .nil => 1
  | .ptr d => uptoBulk d + 1
  | .slice elems spare => uptoBulkAll elems + uptoBulkAll spare + 1
  | .agg parts => uptoBulkAll parts + 1
  | .iface _ d => uptoBulk d + 1
  | .map entries => uptoBulkEntries entries + 1
  | .held _ => 1
def uptoBulkAll {H : Type} : List (DataW H) → Nat
  | [] => 0
  | d :: r => uptoBulk d + uptoBulkAll r
def uptoBulkEntries {H : Type} : List (Lit × DataW H) → Nat
  | [] => 0
  | x :: r => uptoBulkEntry x + uptoBulkEntries r
def uptoBulkEntry {H : Type} : Lit × DataW H → Nat
  | (.string bytes, d) => bytes.length + uptoBulk d + 1
  | (_, d) => uptoBulk d + 1
 end
def uptoSmall : (H : Type) → List (DataW H) → Bool := fun _ ds => decide (uptoBulkAll ds ≤ 1048576)
def OpenSpec.upto (s : _root_.Go.ChangeSpec) : _root_.Go.OpenSpec := { _root_.Go.OpenSpec.ofChange s with cond := some uptoSmall }

/-- 'laws.FnExactAllowsMethod', WHERE WHAT IT READS IS OF BULK AT MOST 1048576: true; the input reads as it did. -/
def fnExactAllowsMethodUptoRow : OpenClaim := { program := "ytnifeegdkhmakaa", sum := "c62abd04eed4535913597f49f05e999149c503eeb4f776584fa32e0da398d367", func := "loop.example/g00581/laws.FnExactAllowsMethod", spec := "fnExactAllowsMethod", apart := false, narrowed := true }
def FnExactAllowsMethodUptoSaid : Prop := fnExactAllowsMethodUptoRow.holds Try.pinned (OpenSpec.upto fnExactAllowsMethodSpec)

/-- 'laws.FnExactDeleteEntry', WHERE WHAT IT READS IS OF BULK AT MOST 1048576: true; the input reads as it did. -/
def fnExactDeleteEntryUptoRow : OpenClaim := { program := "ytnifeegdkhmakaa", sum := "c62abd04eed4535913597f49f05e999149c503eeb4f776584fa32e0da398d367", func := "loop.example/g00581/laws.FnExactDeleteEntry", spec := "fnExactDeleteEntry", apart := false, narrowed := true }
def FnExactDeleteEntryUptoSaid : Prop := fnExactDeleteEntryUptoRow.holds Try.pinned (OpenSpec.upto fnExactDeleteEntrySpec)

/-- 'laws.FnExactIncludesBundle', WHERE WHAT IT READS IS OF BULK AT MOST 1048576: true; the input reads as it did. -/
def fnExactIncludesBundleUptoRow : OpenClaim := { program := "ytnifeegdkhmakaa", sum := "c62abd04eed4535913597f49f05e999149c503eeb4f776584fa32e0da398d367", func := "loop.example/g00581/laws.FnExactIncludesBundle", spec := "fnExactIncludesBundle", apart := false, narrowed := true }
def FnExactIncludesBundleUptoSaid : Prop := fnExactIncludesBundleUptoRow.holds Try.pinned (OpenSpec.upto fnExactIncludesBundleSpec)

/-- 'laws.FnExactEncodeBundle', WHERE WHAT IT READS IS OF BULK AT MOST 1048576: true; the input reads as it did. -/
def fnExactEncodeBundleUptoRow : OpenClaim := { program := "ytnifeegdkhmakaa", sum := "c62abd04eed4535913597f49f05e999149c503eeb4f776584fa32e0da398d367", func := "loop.example/g00581/laws.FnExactEncodeBundle", spec := "fnExactEncodeBundle", apart := false, narrowed := true }
def FnExactEncodeBundleUptoSaid : Prop := fnExactEncodeBundleUptoRow.holds Try.pinned (OpenSpec.upto fnExactEncodeBundleSpec)

/-- 'laws.FnExactPutEntry', WHERE WHAT IT READS IS OF BULK AT MOST 1048576: true; the input reads as it did. -/
def fnExactPutEntryUptoRow : OpenClaim := { program := "ytnifeegdkhmakaa", sum := "c62abd04eed4535913597f49f05e999149c503eeb4f776584fa32e0da398d367", func := "loop.example/g00581/laws.FnExactPutEntry", spec := "fnExactPutEntry", apart := false, narrowed := true }
def FnExactPutEntryUptoSaid : Prop := fnExactPutEntryUptoRow.holds Try.pinned (OpenSpec.upto fnExactPutEntrySpec)

/-- 'laws.FnExactMergeBundles', WHERE WHAT IT READS IS OF BULK AT MOST 1048576: true; the input reads as it did. -/
def fnExactMergeBundlesUptoRow : OpenClaim := { program := "ytnifeegdkhmakaa", sum := "c62abd04eed4535913597f49f05e999149c503eeb4f776584fa32e0da398d367", func := "loop.example/g00581/laws.FnExactMergeBundles", spec := "fnExactMergeBundles", apart := false, narrowed := true }
def FnExactMergeBundlesUptoSaid : Prop := fnExactMergeBundlesUptoRow.holds Try.pinned (OpenSpec.upto fnExactMergeBundlesSpec)

end Rows
end Go.Proofs.Ytnifeegdkhmakaa
