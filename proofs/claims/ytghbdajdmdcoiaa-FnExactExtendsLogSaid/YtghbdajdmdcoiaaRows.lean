/-
  No cell of these rows narrows 'for every input' (looked for: loops, veiled, ifaces, maps, wideKeys, modest, calm, conditions, laid).
  DERIVED. THE GIVEN ROWS OF THIS SEAT. 6 by the template 'for every input the law returns true; each argument reads behind the call as it read before'; 0 by the template 'total and deterministic' (their statements: YtghbdajdmdcoiaaTotals.lean).
  GIVEN WITH THE SEED: the statements are not yours to turn. If you find one false, say at which input.
  Laid BY PROGRAM, IN A SANDBOX (cutbox-rows.mjs): the forced cells as the released guide's own fill.sh prints them over the translation 16309ff7f75b364a… (all of the seat's roots in one cut). By AI agents, Wed Nov 11 2026. No macro, syntax, notation, axiom, sorry.
-/
import Derived.Test.YtghbdajdmdcoiaaChecked
import GoSem.Claim
import GoSem.ClaimJoined
import GoSem.ClaimMapViews
import Derived.JoinedTies
import Derived.KernelRfl
namespace Go.Proofs.Ytghbdajdmdcoiaa
/- THE CELL 'sum', in the pinned program and in every row, IS THE sha256 OF THE DUMP (.gsa) THAT YtghbdajdmdcoiaaProg.lean LOADS. Nothing in Lean hashes anything: it is a label: what it is worth is what the hold of that sum in a sandbox is worth. -/
noncomputable def Try.pinned : Pinned := { name := "ytghbdajdmdcoiaa", sum := "16309ff7f75b364a876014b3dfc2a038c4c48235404c0c654db2b0b49f67bf4e", checked := Try.checked }
namespace Rows
def none {H : Type} : Left H := { results := [], args := [] }

/-- 'laws.FnExactEntryHash': WHATEVER THE INPUT: true; the input reads as it did. -/
def fnExactEntryHashSpec : ChangeSpec := { name := "fnExactEntryHash", fn := fun _ => fun
  | [d] => { results := [.lit (.bool true)], args := [d] }
  | _ => none }
def fnExactEntryHashRow : OpenClaim := { program := "ytghbdajdmdcoiaa", sum := "16309ff7f75b364a876014b3dfc2a038c4c48235404c0c654db2b0b49f67bf4e", func := "loop.example/g00581/laws.FnExactEntryHash", spec := "fnExactEntryHash", apart := false }
def FnExactEntryHashSaid : Prop := fnExactEntryHashRow.holds Try.pinned (OpenSpec.ofChange fnExactEntryHashSpec)

/-- ITS FALSE NEIGHBOUR: 'it returns false'. Refute it at one input. -/
def fnExactEntryHashWrong : ChangeSpec := { name := "fnExactEntryHash", fn := fun _ => fun
  | [d] => { results := [.lit (.bool false)], args := [d] }
  | _ => none }
def FnExactEntryHashWrongFalsely : Prop := fnExactEntryHashRow.holds Try.pinned (OpenSpec.ofChange fnExactEntryHashWrong)

/-- 'laws.FnExactIsFresher': WHATEVER THE INPUT: true; the input reads as it did. -/
def fnExactIsFresherSpec : ChangeSpec := { name := "fnExactIsFresher", fn := fun _ => fun
  | [d1, d2] => { results := [.lit (.bool true)], args := [d1, d2] }
  | _ => none }
def fnExactIsFresherRow : OpenClaim := { program := "ytghbdajdmdcoiaa", sum := "16309ff7f75b364a876014b3dfc2a038c4c48235404c0c654db2b0b49f67bf4e", func := "loop.example/g00581/laws.FnExactIsFresher", spec := "fnExactIsFresher", apart := false }
def FnExactIsFresherSaid : Prop := fnExactIsFresherRow.holds Try.pinned (OpenSpec.ofChange fnExactIsFresherSpec)

/-- ITS FALSE NEIGHBOUR: 'it returns false'. Refute it at one input. -/
def fnExactIsFresherWrong : ChangeSpec := { name := "fnExactIsFresher", fn := fun _ => fun
  | [d1, d2] => { results := [.lit (.bool false)], args := [d1, d2] }
  | _ => none }
def FnExactIsFresherWrongFalsely : Prop := fnExactIsFresherRow.holds Try.pinned (OpenSpec.ofChange fnExactIsFresherWrong)

/-- 'laws.FnExactEpochKey': WHATEVER THE INPUT: true; the input reads as it did. -/
def fnExactEpochKeySpec : ChangeSpec := { name := "fnExactEpochKey", fn := fun _ => fun
  | [d1, d2] => { results := [.lit (.bool true)], args := [d1, d2] }
  | _ => none }
def fnExactEpochKeyRow : OpenClaim := { program := "ytghbdajdmdcoiaa", sum := "16309ff7f75b364a876014b3dfc2a038c4c48235404c0c654db2b0b49f67bf4e", func := "loop.example/g00581/laws.FnExactEpochKey", spec := "fnExactEpochKey", apart := false }
def FnExactEpochKeySaid : Prop := fnExactEpochKeyRow.holds Try.pinned (OpenSpec.ofChange fnExactEpochKeySpec)

/-- ITS FALSE NEIGHBOUR: 'it returns false'. Refute it at one input. -/
def fnExactEpochKeyWrong : ChangeSpec := { name := "fnExactEpochKey", fn := fun _ => fun
  | [d1, d2] => { results := [.lit (.bool false)], args := [d1, d2] }
  | _ => none }
def FnExactEpochKeyWrongFalsely : Prop := fnExactEpochKeyRow.holds Try.pinned (OpenSpec.ofChange fnExactEpochKeyWrong)

/-- 'laws.FnExactEqualSealed': WHATEVER THE INPUT: true; the input reads as it did. -/
def fnExactEqualSealedSpec : ChangeSpec := { name := "fnExactEqualSealed", fn := fun _ => fun
  | [d1, d2] => { results := [.lit (.bool true)], args := [d1, d2] }
  | _ => none }
def fnExactEqualSealedRow : OpenClaim := { program := "ytghbdajdmdcoiaa", sum := "16309ff7f75b364a876014b3dfc2a038c4c48235404c0c654db2b0b49f67bf4e", func := "loop.example/g00581/laws.FnExactEqualSealed", spec := "fnExactEqualSealed", apart := false }
def FnExactEqualSealedSaid : Prop := fnExactEqualSealedRow.holds Try.pinned (OpenSpec.ofChange fnExactEqualSealedSpec)

/-- ITS FALSE NEIGHBOUR: 'it returns false'. Refute it at one input. -/
def fnExactEqualSealedWrong : ChangeSpec := { name := "fnExactEqualSealed", fn := fun _ => fun
  | [d1, d2] => { results := [.lit (.bool false)], args := [d1, d2] }
  | _ => none }
def FnExactEqualSealedWrongFalsely : Prop := fnExactEqualSealedRow.holds Try.pinned (OpenSpec.ofChange fnExactEqualSealedWrong)

/-- 'laws.FnExactEpochOf': WHATEVER THE INPUT: true; the input reads as it did. -/
def fnExactEpochOfSpec : ChangeSpec := { name := "fnExactEpochOf", fn := fun _ => fun
  | [d] => { results := [.lit (.bool true)], args := [d] }
  | _ => none }
def fnExactEpochOfRow : OpenClaim := { program := "ytghbdajdmdcoiaa", sum := "16309ff7f75b364a876014b3dfc2a038c4c48235404c0c654db2b0b49f67bf4e", func := "loop.example/g00581/laws.FnExactEpochOf", spec := "fnExactEpochOf", apart := false }
def FnExactEpochOfSaid : Prop := fnExactEpochOfRow.holds Try.pinned (OpenSpec.ofChange fnExactEpochOfSpec)

/-- ITS FALSE NEIGHBOUR: 'it returns false'. Refute it at one input. -/
def fnExactEpochOfWrong : ChangeSpec := { name := "fnExactEpochOf", fn := fun _ => fun
  | [d] => { results := [.lit (.bool false)], args := [d] }
  | _ => none }
def FnExactEpochOfWrongFalsely : Prop := fnExactEpochOfRow.holds Try.pinned (OpenSpec.ofChange fnExactEpochOfWrong)

/-- 'laws.FnExactExtendsLog': WHATEVER THE INPUT: true; the input reads as it did. -/
def fnExactExtendsLogSpec : ChangeSpec := { name := "fnExactExtendsLog", fn := fun _ => fun
  | [d1, d2] => { results := [.lit (.bool true)], args := [d1, d2] }
  | _ => none }
def fnExactExtendsLogRow : OpenClaim := { program := "ytghbdajdmdcoiaa", sum := "16309ff7f75b364a876014b3dfc2a038c4c48235404c0c654db2b0b49f67bf4e", func := "loop.example/g00581/laws.FnExactExtendsLog", spec := "fnExactExtendsLog", apart := false }
def FnExactExtendsLogSaid : Prop := fnExactExtendsLogRow.holds Try.pinned (OpenSpec.ofChange fnExactExtendsLogSpec)

/-- ITS FALSE NEIGHBOUR: 'it returns false'. Refute it at one input. -/
def fnExactExtendsLogWrong : ChangeSpec := { name := "fnExactExtendsLog", fn := fun _ => fun
  | [d1, d2] => { results := [.lit (.bool false)], args := [d1, d2] }
  | _ => none }
def FnExactExtendsLogWrongFalsely : Prop := fnExactExtendsLogRow.holds Try.pinned (OpenSpec.ofChange fnExactExtendsLogWrong)

/- THE SECOND FORM. 'bulk': how many values and letters a reading holds, each counted each time it is reached (what is shared counts as often as it is met; a slice's spare places count too). A statement '..UptoSaid' is the law's where the arguments, and the package variables that the reading takes, are together of bulk at most 1048576: NARROWER than '..Said'. Prove '..Said' where nothing that the law and all that it calls make is longer than what came in: it says more and counts as full. Else prove '..UptoSaid'. A law counts once. -/
mutual
def uptoBulk {H : Type} : DataW H → Nat
  | .lit (.string bytes) => bytes.length + 1
  | .lit _ => 1
  | .nil => 1
  | .ptr d => uptoBulk d + 1
  | .slice elems spare => uptoBulkAll elems + uptoBulkAll spare + 1
  | .agg parts => uptoBulkAll parts + 1
  | .iface _ d => uptoBulk d + 1
  | .map entries => uptoBulkEntries entries + 1
  | .held _ => 1
def uptoBulkAll {H : Type} : List (DataW H) → Nat
  | [] => 0
  | d :: r => uptoBulk d + uptoBulkAll r
def uptoBulkEntries {H : Type} : List (Lit × DataW H) → Nat
  | [] => 0
  | x :: r => uptoBulkEntry x + uptoBulkEntries r
def uptoBulkEntry {H : Type} : Lit × DataW H → Nat
  | (.string bytes, d) => bytes.length + uptoBulk d + 1
  | (_, d) => uptoBulk d + 1
 end
def uptoSmall : (H : Type) → List (DataW H) → Bool := fun _ ds => decide (uptoBulkAll ds ≤ 1048576)
def OpenSpec.upto (s : _root_.Go.ChangeSpec) : _root_.Go.OpenSpec := { _root_.Go.OpenSpec.ofChange s with cond := some uptoSmall }

/-- 'laws.FnExactEntryHash', WHERE WHAT IT READS IS OF BULK AT MOST 1048576: true; the input reads as it did. -/
def fnExactEntryHashUptoRow : OpenClaim := { program := "ytghbdajdmdcoiaa", sum := "16309ff7f75b364a876014b3dfc2a038c4c48235404c0c654db2b0b49f67bf4e", func := "loop.example/g00581/laws.FnExactEntryHash", spec := "fnExactEntryHash", apart := false, narrowed := true }
def FnExactEntryHashUptoSaid : Prop := fnExactEntryHashUptoRow.holds Try.pinned (OpenSpec.upto fnExactEntryHashSpec)

/-- 'laws.FnExactIsFresher', WHERE WHAT IT READS IS OF BULK AT MOST 1048576: true; the input reads as it did. -/
def fnExactIsFresherUptoRow : OpenClaim := { program := "ytghbdajdmdcoiaa", sum := "16309ff7f75b364a876014b3dfc2a038c4c48235404c0c654db2b0b49f67bf4e", func := "loop.example/g00581/laws.FnExactIsFresher", spec := "fnExactIsFresher", apart := false, narrowed := true }
def FnExactIsFresherUptoSaid : Prop := fnExactIsFresherUptoRow.holds Try.pinned (OpenSpec.upto fnExactIsFresherSpec)

/-- 'laws.FnExactEpochKey', WHERE WHAT IT READS IS OF BULK AT MOST 1048576: true; the input reads as it did. -/
def fnExactEpochKeyUptoRow : OpenClaim := { program := "ytghbdajdmdcoiaa", sum := "16309ff7f75b364a876014b3dfc2a038c4c48235404c0c654db2b0b49f67bf4e", func := "loop.example/g00581/laws.FnExactEpochKey", spec := "fnExactEpochKey", apart := false, narrowed := true }
def FnExactEpochKeyUptoSaid : Prop := fnExactEpochKeyUptoRow.holds Try.pinned (OpenSpec.upto fnExactEpochKeySpec)

/-- 'laws.FnExactEqualSealed', WHERE WHAT IT READS IS OF BULK AT MOST 1048576: true; the input reads as it did. -/
def fnExactEqualSealedUptoRow : OpenClaim := { program := "ytghbdajdmdcoiaa", sum := "16309ff7f75b364a876014b3dfc2a038c4c48235404c0c654db2b0b49f67bf4e", func := "loop.example/g00581/laws.FnExactEqualSealed", spec := "fnExactEqualSealed", apart := false, narrowed := true }
def FnExactEqualSealedUptoSaid : Prop := fnExactEqualSealedUptoRow.holds Try.pinned (OpenSpec.upto fnExactEqualSealedSpec)

/-- 'laws.FnExactEpochOf', WHERE WHAT IT READS IS OF BULK AT MOST 1048576: true; the input reads as it did. -/
def fnExactEpochOfUptoRow : OpenClaim := { program := "ytghbdajdmdcoiaa", sum := "16309ff7f75b364a876014b3dfc2a038c4c48235404c0c654db2b0b49f67bf4e", func := "loop.example/g00581/laws.FnExactEpochOf", spec := "fnExactEpochOf", apart := false, narrowed := true }
def FnExactEpochOfUptoSaid : Prop := fnExactEpochOfUptoRow.holds Try.pinned (OpenSpec.upto fnExactEpochOfSpec)

/-- 'laws.FnExactExtendsLog', WHERE WHAT IT READS IS OF BULK AT MOST 1048576: true; the input reads as it did. -/
def fnExactExtendsLogUptoRow : OpenClaim := { program := "ytghbdajdmdcoiaa", sum := "16309ff7f75b364a876014b3dfc2a038c4c48235404c0c654db2b0b49f67bf4e", func := "loop.example/g00581/laws.FnExactExtendsLog", spec := "fnExactExtendsLog", apart := false, narrowed := true }
def FnExactExtendsLogUptoSaid : Prop := fnExactExtendsLogUptoRow.holds Try.pinned (OpenSpec.upto fnExactExtendsLogSpec)

end Rows
end Go.Proofs.Ytghbdajdmdcoiaa
