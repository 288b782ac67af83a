/-
  No cell of these rows narrows 'for every input' (looked for: loops, veiled, ifaces, maps, wideKeys, modest, calm, conditions, laid).
  DERIVED. THE GIVEN ROWS OF THIS SEAT. 5 by the template 'for every input the law returns true; each argument reads behind the call as it read before'; 0 by the template 'total and deterministic' (their statements: YtghbdajdmdcoiabTotals.lean).
  GIVEN WITH THE SEED: the statements are not yours to turn. If you find one false, say at which input.
  Laid BY PROGRAM, IN A SANDBOX (cutbox-rows.mjs): the forced cells as the released guide's own fill.sh prints them over the translation bf2733dd2403ffb5… (all of the seat's roots in one cut). By AI agents, Wed Nov 11 2026. No macro, syntax, notation, axiom, sorry.
-/
import Derived.Test.YtghbdajdmdcoiabChecked
import GoSem.Claim
import GoSem.ClaimJoined
import GoSem.ClaimMapViews
import Derived.JoinedTies
import Derived.KernelRfl
namespace Go.Proofs.Ytghbdajdmdcoiab
/- THE CELL 'sum', in the pinned program and in every row, IS THE sha256 OF THE DUMP (.gsa) THAT YtghbdajdmdcoiabProg.lean LOADS. Nothing in Lean hashes anything: it is a label: what it is worth is what the hold of that sum in a sandbox is worth. -/
noncomputable def Try.pinned : Pinned := { name := "ytghbdajdmdcoiab", sum := "bf2733dd2403ffb5c03804264819074e5404f163632c389688fb3cbc055da1f0", checked := Try.checked }
namespace Rows
def none {H : Type} : Left H := { results := [], args := [] }

/-- 'laws.FnExactFindEntry': WHATEVER THE INPUT: true; the input reads as it did. -/
def fnExactFindEntrySpec : ChangeSpec := { name := "fnExactFindEntry", fn := fun _ => fun
  | [d1, d2, d3] => { results := [.lit (.bool true)], args := [d1, d2, d3] }
  | _ => none }
def fnExactFindEntryRow : OpenClaim := { program := "ytghbdajdmdcoiab", sum := "bf2733dd2403ffb5c03804264819074e5404f163632c389688fb3cbc055da1f0", func := "loop.example/g00581/laws.FnExactFindEntry", spec := "fnExactFindEntry", apart := false }
def FnExactFindEntrySaid : Prop := fnExactFindEntryRow.holds Try.pinned (OpenSpec.ofChange fnExactFindEntrySpec)

/-- ITS FALSE NEIGHBOUR: 'it returns false'. Refute it at one input. -/
def fnExactFindEntryWrong : ChangeSpec := { name := "fnExactFindEntry", fn := fun _ => fun
  | [d1, d2, d3] => { results := [.lit (.bool false)], args := [d1, d2, d3] }
  | _ => none }
def FnExactFindEntryWrongFalsely : Prop := fnExactFindEntryRow.holds Try.pinned (OpenSpec.ofChange fnExactFindEntryWrong)

/-- 'laws.FnExactEqualBundles': WHATEVER THE INPUT: true; the input reads as it did. -/
def fnExactEqualBundlesSpec : ChangeSpec := { name := "fnExactEqualBundles", fn := fun _ => fun
  | [d1, d2] => { results := [.lit (.bool true)], args := [d1, d2] }
  | _ => none }
def fnExactEqualBundlesRow : OpenClaim := { program := "ytghbdajdmdcoiab", sum := "bf2733dd2403ffb5c03804264819074e5404f163632c389688fb3cbc055da1f0", func := "loop.example/g00581/laws.FnExactEqualBundles", spec := "fnExactEqualBundles", apart := false }
def FnExactEqualBundlesSaid : Prop := fnExactEqualBundlesRow.holds Try.pinned (OpenSpec.ofChange fnExactEqualBundlesSpec)

/-- ITS FALSE NEIGHBOUR: 'it returns false'. Refute it at one input. -/
def fnExactEqualBundlesWrong : ChangeSpec := { name := "fnExactEqualBundles", fn := fun _ => fun
  | [d1, d2] => { results := [.lit (.bool false)], args := [d1, d2] }
  | _ => none }
def FnExactEqualBundlesWrongFalsely : Prop := fnExactEqualBundlesRow.holds Try.pinned (OpenSpec.ofChange fnExactEqualBundlesWrong)

/-- 'laws.FnExactIsBundle': WHATEVER THE INPUT: true; the input reads as it did. -/
def fnExactIsBundleSpec : ChangeSpec := { name := "fnExactIsBundle", fn := fun _ => fun
  | [d] => { results := [.lit (.bool true)], args := [d] }
  | _ => none }
def fnExactIsBundleRow : OpenClaim := { program := "ytghbdajdmdcoiab", sum := "bf2733dd2403ffb5c03804264819074e5404f163632c389688fb3cbc055da1f0", func := "loop.example/g00581/laws.FnExactIsBundle", spec := "fnExactIsBundle", apart := false }
def FnExactIsBundleSaid : Prop := fnExactIsBundleRow.holds Try.pinned (OpenSpec.ofChange fnExactIsBundleSpec)

/-- ITS FALSE NEIGHBOUR: 'it returns false'. Refute it at one input. -/
def fnExactIsBundleWrong : ChangeSpec := { name := "fnExactIsBundle", fn := fun _ => fun
  | [d] => { results := [.lit (.bool false)], args := [d] }
  | _ => none }
def FnExactIsBundleWrongFalsely : Prop := fnExactIsBundleRow.holds Try.pinned (OpenSpec.ofChange fnExactIsBundleWrong)

/-- 'laws.FnExactLogHead': WHATEVER THE INPUT: true; the input reads as it did. -/
def fnExactLogHeadSpec : ChangeSpec := { name := "fnExactLogHead", fn := fun _ => fun
  | [d] => { results := [.lit (.bool true)], args := [d] }
  | _ => none }
def fnExactLogHeadRow : OpenClaim := { program := "ytghbdajdmdcoiab", sum := "bf2733dd2403ffb5c03804264819074e5404f163632c389688fb3cbc055da1f0", func := "loop.example/g00581/laws.FnExactLogHead", spec := "fnExactLogHead", apart := false }
def FnExactLogHeadSaid : Prop := fnExactLogHeadRow.holds Try.pinned (OpenSpec.ofChange fnExactLogHeadSpec)

/-- ITS FALSE NEIGHBOUR: 'it returns false'. Refute it at one input. -/
def fnExactLogHeadWrong : ChangeSpec := { name := "fnExactLogHead", fn := fun _ => fun
  | [d] => { results := [.lit (.bool false)], args := [d] }
  | _ => none }
def FnExactLogHeadWrongFalsely : Prop := fnExactLogHeadRow.holds Try.pinned (OpenSpec.ofChange fnExactLogHeadWrong)

/-- 'laws.FnExactBundleMAC': WHATEVER THE INPUT: true; the input reads as it did. -/
def fnExactBundleMACSpec : ChangeSpec := { name := "fnExactBundleMAC", fn := fun _ => fun
  | [d1, d2] => { results := [.lit (.bool true)], args := [d1, d2] }
  | _ => none }
def fnExactBundleMACRow : OpenClaim := { program := "ytghbdajdmdcoiab", sum := "bf2733dd2403ffb5c03804264819074e5404f163632c389688fb3cbc055da1f0", func := "loop.example/g00581/laws.FnExactBundleMAC", spec := "fnExactBundleMAC", apart := false }
def FnExactBundleMACSaid : Prop := fnExactBundleMACRow.holds Try.pinned (OpenSpec.ofChange fnExactBundleMACSpec)

/-- ITS FALSE NEIGHBOUR: 'it returns false'. Refute it at one input. -/
def fnExactBundleMACWrong : ChangeSpec := { name := "fnExactBundleMAC", fn := fun _ => fun
  | [d1, d2] => { results := [.lit (.bool false)], args := [d1, d2] }
  | _ => none }
def FnExactBundleMACWrongFalsely : Prop := fnExactBundleMACRow.holds Try.pinned (OpenSpec.ofChange fnExactBundleMACWrong)

/- THE SECOND FORM. 'bulk': how many values and letters a reading holds, each counted each time it is reached (what is shared counts as often as it is met; a slice's spare places count too). A statement '..UptoSaid' is the law's where the arguments, and the package variables that the reading takes, are together of bulk at most 1048576: NARROWER than '..Said'. Prove '..Said' where nothing that the law and all that it calls make is longer than what came in: it says more and counts as full. Else prove '..UptoSaid'. A law counts once. -/
mutual
def uptoBulk {H : Type} : DataW H → Nat
  | .lit (.string bytes) => bytes.length + 1
  | .lit _ => 1
  | .nil => 1
  | .ptr d => uptoBulk d + 1
  | .slice elems spare => uptoBulkAll elems + uptoBulkAll spare + 1
  | .agg parts => uptoBulkAll parts + 1
  | .iface _ d => uptoBulk d + 1
  | .map entries => uptoBulkEntries entries + 1
  | .held _ => 1
def uptoBulkAll {H : Type} : List (DataW H) → Nat
  | [] => 0
  | d :: r => uptoBulk d + uptoBulkAll r
def uptoBulkEntries {H : Type} : List (Lit × DataW H) → Nat
  | [] => 0
  | x :: r => uptoBulkEntry x + uptoBulkEntries r
def uptoBulkEntry {H : Type} : Lit × DataW H → Nat
  | (.string bytes, d) => bytes.length + uptoBulk d + 1
  | (_, d) => uptoBulk d + 1
 end
def uptoSmall : (H : Type) → List (DataW H) → Bool := fun _ ds => decide (uptoBulkAll ds ≤ 1048576)
def OpenSpec.upto (s : _root_.Go.ChangeSpec) : _root_.Go.OpenSpec := { _root_.Go.OpenSpec.ofChange s with cond := some uptoSmall }

/-- 'laws.FnExactFindEntry', WHERE WHAT IT READS IS OF BULK AT MOST 1048576: true; the input reads as it did. -/
def fnExactFindEntryUptoRow : OpenClaim := { program := "ytghbdajdmdcoiab", sum := "bf2733dd2403ffb5c03804264819074e5404f163632c389688fb3cbc055da1f0", func := "loop.example/g00581/laws.FnExactFindEntry", spec := "fnExactFindEntry", apart := false, narrowed := true }
def FnExactFindEntryUptoSaid : Prop := fnExactFindEntryUptoRow.holds Try.pinned (OpenSpec.upto fnExactFindEntrySpec)

/-- 'laws.FnExactEqualBundles', WHERE WHAT IT READS IS OF BULK AT MOST 1048576: true; the input reads as it did. -/
def fnExactEqualBundlesUptoRow : OpenClaim := { program := "ytghbdajdmdcoiab", sum := "bf2733dd2403ffb5c03804264819074e5404f163632c389688fb3cbc055da1f0", func := "loop.example/g00581/laws.FnExactEqualBundles", spec := "fnExactEqualBundles", apart := false, narrowed := true }
def FnExactEqualBundlesUptoSaid : Prop := fnExactEqualBundlesUptoRow.holds Try.pinned (OpenSpec.upto fnExactEqualBundlesSpec)

/-- 'laws.FnExactIsBundle', WHERE WHAT IT READS IS OF BULK AT MOST 1048576: true; the input reads as it did. -/
def fnExactIsBundleUptoRow : OpenClaim := { program := "ytghbdajdmdcoiab", sum := "bf2733dd2403ffb5c03804264819074e5404f163632c389688fb3cbc055da1f0", func := "loop.example/g00581/laws.FnExactIsBundle", spec := "fnExactIsBundle", apart := false, narrowed := true }
def FnExactIsBundleUptoSaid : Prop := fnExactIsBundleUptoRow.holds Try.pinned (OpenSpec.upto fnExactIsBundleSpec)

/-- 'laws.FnExactLogHead', WHERE WHAT IT READS IS OF BULK AT MOST 1048576: true; the input reads as it did. -/
def fnExactLogHeadUptoRow : OpenClaim := { program := "ytghbdajdmdcoiab", sum := "bf2733dd2403ffb5c03804264819074e5404f163632c389688fb3cbc055da1f0", func := "loop.example/g00581/laws.FnExactLogHead", spec := "fnExactLogHead", apart := false, narrowed := true }
def FnExactLogHeadUptoSaid : Prop := fnExactLogHeadUptoRow.holds Try.pinned (OpenSpec.upto fnExactLogHeadSpec)

/-- 'laws.FnExactBundleMAC', WHERE WHAT IT READS IS OF BULK AT MOST 1048576: true; the input reads as it did. -/
def fnExactBundleMACUptoRow : OpenClaim := { program := "ytghbdajdmdcoiab", sum := "bf2733dd2403ffb5c03804264819074e5404f163632c389688fb3cbc055da1f0", func := "loop.example/g00581/laws.FnExactBundleMAC", spec := "fnExactBundleMAC", apart := false, narrowed := true }
def FnExactBundleMACUptoSaid : Prop := fnExactBundleMACUptoRow.holds Try.pinned (OpenSpec.upto fnExactBundleMACSpec)

end Rows
end Go.Proofs.Ytghbdajdmdcoiab
