/-
  No cell of these rows narrows 'for every input' (looked for: loops, veiled, ifaces, maps, wideKeys, modest, calm, conditions, laid).
  DERIVED. THE GIVEN ROWS OF THIS SEAT. 6 by the template 'for every input the law returns true; each argument reads behind the call as it read before'; 0 by the template 'total and deterministic' (their statements: YtoffbjjkegeccaaTotals.lean).
  GIVEN WITH THE SEED: the statements are not yours to turn. If you find one false, say at which input.
  Laid BY PROGRAM, IN A SANDBOX (cutbox-rows.mjs): the forced cells as the released guide's own fill.sh prints them over the translation 8b3307e4ec8d4358… (all of the seat's roots in one cut). By AI agents, Wed Nov 11 2026. No macro, syntax, notation, axiom, sorry.
-/
import Derived.Test.YtoffbjjkegeccaaChecked
import GoSem.Claim
import GoSem.ClaimJoined
import GoSem.ClaimMapViews
import Derived.JoinedTies
import Derived.KernelRfl
namespace Go.Proofs.Ytoffbjjkegeccaa
/- THE CELL 'sum', in the pinned program and in every row, IS THE sha256 OF THE DUMP (.gsa) THAT YtoffbjjkegeccaaProg.lean LOADS. Nothing in Lean hashes anything: it is a label: what it is worth is what the hold of that sum in a sandbox is worth. -/
noncomputable def Try.pinned : Pinned := { name := "ytoffbjjkegeccaa", sum := "8b3307e4ec8d43582591ed3fff56cc4b9277181f6f5b7fd947c15a6f5967c28a", checked := Try.checked }
namespace Rows
def none {H : Type} : Left H := { results := [], args := [] }

/-- 'laws.FnExactRaiseMinimum': WHATEVER THE INPUT: true; the input reads as it did. -/
def fnExactRaiseMinimumSpec : ChangeSpec := { name := "fnExactRaiseMinimum", fn := fun _ => fun
  | [d1, d2] => { results := [.lit (.bool true)], args := [d1, d2] }
  | _ => none }
def fnExactRaiseMinimumRow : OpenClaim := { program := "ytoffbjjkegeccaa", sum := "8b3307e4ec8d43582591ed3fff56cc4b9277181f6f5b7fd947c15a6f5967c28a", func := "loop.example/g00581/laws.FnExactRaiseMinimum", spec := "fnExactRaiseMinimum", apart := false }
def FnExactRaiseMinimumSaid : Prop := fnExactRaiseMinimumRow.holds Try.pinned (OpenSpec.ofChange fnExactRaiseMinimumSpec)

/-- ITS FALSE NEIGHBOUR: 'it returns false'. Refute it at one input. -/
def fnExactRaiseMinimumWrong : ChangeSpec := { name := "fnExactRaiseMinimum", fn := fun _ => fun
  | [d1, d2] => { results := [.lit (.bool false)], args := [d1, d2] }
  | _ => none }
def FnExactRaiseMinimumWrongFalsely : Prop := fnExactRaiseMinimumRow.holds Try.pinned (OpenSpec.ofChange fnExactRaiseMinimumWrong)

/-- 'laws.FnExactAddCredential': WHATEVER THE INPUT: true; the input reads as it did. -/
def fnExactAddCredentialSpec : ChangeSpec := { name := "fnExactAddCredential", fn := fun _ => fun
  | [d1, d2, d3] => { results := [.lit (.bool true)], args := [d1, d2, d3] }
  | _ => none }
def fnExactAddCredentialRow : OpenClaim := { program := "ytoffbjjkegeccaa", sum := "8b3307e4ec8d43582591ed3fff56cc4b9277181f6f5b7fd947c15a6f5967c28a", func := "loop.example/g00581/laws.FnExactAddCredential", spec := "fnExactAddCredential", apart := false }
def FnExactAddCredentialSaid : Prop := fnExactAddCredentialRow.holds Try.pinned (OpenSpec.ofChange fnExactAddCredentialSpec)

/-- ITS FALSE NEIGHBOUR: 'it returns false'. Refute it at one input. -/
def fnExactAddCredentialWrong : ChangeSpec := { name := "fnExactAddCredential", fn := fun _ => fun
  | [d1, d2, d3] => { results := [.lit (.bool false)], args := [d1, d2, d3] }
  | _ => none }
def FnExactAddCredentialWrongFalsely : Prop := fnExactAddCredentialRow.holds Try.pinned (OpenSpec.ofChange fnExactAddCredentialWrong)

/-- 'laws.FnExactCutCredential': WHATEVER THE INPUT: true; the input reads as it did. -/
def fnExactCutCredentialSpec : ChangeSpec := { name := "fnExactCutCredential", fn := fun _ => fun
  | [d1, d2] => { results := [.lit (.bool true)], args := [d1, d2] }
  | _ => none }
def fnExactCutCredentialRow : OpenClaim := { program := "ytoffbjjkegeccaa", sum := "8b3307e4ec8d43582591ed3fff56cc4b9277181f6f5b7fd947c15a6f5967c28a", func := "loop.example/g00581/laws.FnExactCutCredential", spec := "fnExactCutCredential", apart := false }
def FnExactCutCredentialSaid : Prop := fnExactCutCredentialRow.holds Try.pinned (OpenSpec.ofChange fnExactCutCredentialSpec)

/-- ITS FALSE NEIGHBOUR: 'it returns false'. Refute it at one input. -/
def fnExactCutCredentialWrong : ChangeSpec := { name := "fnExactCutCredential", fn := fun _ => fun
  | [d1, d2] => { results := [.lit (.bool false)], args := [d1, d2] }
  | _ => none }
def FnExactCutCredentialWrongFalsely : Prop := fnExactCutCredentialRow.holds Try.pinned (OpenSpec.ofChange fnExactCutCredentialWrong)

/-- 'laws.FnDeletion': WHATEVER THE INPUT: true; the input reads as it did. -/
def fnDeletionSpec : ChangeSpec := { name := "fnDeletion", fn := fun _ => fun
  | [d] => { results := [.lit (.bool true)], args := [d] }
  | _ => none }
def fnDeletionRow : OpenClaim := { program := "ytoffbjjkegeccaa", sum := "8b3307e4ec8d43582591ed3fff56cc4b9277181f6f5b7fd947c15a6f5967c28a", func := "loop.example/g00581/laws.FnDeletion", spec := "fnDeletion", apart := false }
def FnDeletionSaid : Prop := fnDeletionRow.holds Try.pinned (OpenSpec.ofChange fnDeletionSpec)

/-- ITS FALSE NEIGHBOUR: 'it returns false'. Refute it at one input. -/
def fnDeletionWrong : ChangeSpec := { name := "fnDeletion", fn := fun _ => fun
  | [d] => { results := [.lit (.bool false)], args := [d] }
  | _ => none }
def FnDeletionWrongFalsely : Prop := fnDeletionRow.holds Try.pinned (OpenSpec.ofChange fnDeletionWrong)

/-- 'laws.FnExactFindAccount': WHATEVER THE INPUT: true; the input reads as it did. -/
def fnExactFindAccountSpec : ChangeSpec := { name := "fnExactFindAccount", fn := fun _ => fun
  | [d1, d2] => { results := [.lit (.bool true)], args := [d1, d2] }
  | _ => none }
def fnExactFindAccountRow : OpenClaim := { program := "ytoffbjjkegeccaa", sum := "8b3307e4ec8d43582591ed3fff56cc4b9277181f6f5b7fd947c15a6f5967c28a", func := "loop.example/g00581/laws.FnExactFindAccount", spec := "fnExactFindAccount", apart := false }
def FnExactFindAccountSaid : Prop := fnExactFindAccountRow.holds Try.pinned (OpenSpec.ofChange fnExactFindAccountSpec)

/-- ITS FALSE NEIGHBOUR: 'it returns false'. Refute it at one input. -/
def fnExactFindAccountWrong : ChangeSpec := { name := "fnExactFindAccount", fn := fun _ => fun
  | [d1, d2] => { results := [.lit (.bool false)], args := [d1, d2] }
  | _ => none }
def FnExactFindAccountWrongFalsely : Prop := fnExactFindAccountRow.holds Try.pinned (OpenSpec.ofChange fnExactFindAccountWrong)

/-- 'laws.FnExactDecodeBundle': WHATEVER THE INPUT: true; the input reads as it did. -/
def fnExactDecodeBundleSpec : ChangeSpec := { name := "fnExactDecodeBundle", fn := fun _ => fun
  | [d] => { results := [.lit (.bool true)], args := [d] }
  | _ => none }
def fnExactDecodeBundleRow : OpenClaim := { program := "ytoffbjjkegeccaa", sum := "8b3307e4ec8d43582591ed3fff56cc4b9277181f6f5b7fd947c15a6f5967c28a", func := "loop.example/g00581/laws.FnExactDecodeBundle", spec := "fnExactDecodeBundle", apart := false }
def FnExactDecodeBundleSaid : Prop := fnExactDecodeBundleRow.holds Try.pinned (OpenSpec.ofChange fnExactDecodeBundleSpec)

/-- ITS FALSE NEIGHBOUR: 'it returns false'. Refute it at one input. -/
def fnExactDecodeBundleWrong : ChangeSpec := { name := "fnExactDecodeBundle", fn := fun _ => fun
  | [d] => { results := [.lit (.bool false)], args := [d] }
  | _ => none }
def FnExactDecodeBundleWrongFalsely : Prop := fnExactDecodeBundleRow.holds Try.pinned (OpenSpec.ofChange fnExactDecodeBundleWrong)

/- THE SECOND FORM. 'bulk': how many values and letters a reading holds, each counted each time it is reached (what is shared counts as often as it is met; a slice's spare places count too). A statement '..UptoSaid' is the law's where the arguments, and the package variables that the reading takes, are together of bulk at most 1048576: NARROWER than '..Said'. Prove '..Said' where nothing that the law and all that it calls make is longer than what came in: it says more and counts as full. Else prove '..UptoSaid'. A law counts once. -/
mutual
def uptoBulk {H : Type} : DataW H → Nat
  | .lit (.string bytes) => bytes.length + 1
  | .lit _ => 1
  | .nil => 1
  | .ptr d => uptoBulk d + 1
  | .slice elems spare => uptoBulkAll elems + uptoBulkAll spare + 1
  | .agg parts => uptoBulkAll parts + 1
  | .iface _ d => uptoBulk d + 1
  | .map entries => uptoBulkEntries entries + 1
  | .held _ => 1
def uptoBulkAll {H : Type} : List (DataW H) → Nat
  | [] => 0
  | d :: r => uptoBulk d + uptoBulkAll r
def uptoBulkEntries {H : Type} : List (Lit × DataW H) → Nat
  | [] => 0
  | x :: r => uptoBulkEntry x + uptoBulkEntries r
def uptoBulkEntry {H : Type} : Lit × DataW H → Nat
  | (.string bytes, d) => bytes.length + uptoBulk d + 1
  | (_, d) => uptoBulk d + 1
 end
def uptoSmall : (H : Type) → List (DataW H) → Bool := fun _ ds => decide (uptoBulkAll ds ≤ 1048576)
def OpenSpec.upto (s : _root_.Go.ChangeSpec) : _root_.Go.OpenSpec := { _root_.Go.OpenSpec.ofChange s with cond := some uptoSmall }

/-- 'laws.FnExactRaiseMinimum', WHERE WHAT IT READS IS OF BULK AT MOST 1048576: true; the input reads as it did. -/
def fnExactRaiseMinimumUptoRow : OpenClaim := { program := "ytoffbjjkegeccaa", sum := "8b3307e4ec8d43582591ed3fff56cc4b9277181f6f5b7fd947c15a6f5967c28a", func := "loop.example/g00581/laws.FnExactRaiseMinimum", spec := "fnExactRaiseMinimum", apart := false, narrowed := true }
def FnExactRaiseMinimumUptoSaid : Prop := fnExactRaiseMinimumUptoRow.holds Try.pinned (OpenSpec.upto fnExactRaiseMinimumSpec)

/-- 'laws.FnExactAddCredential', WHERE WHAT IT READS IS OF BULK AT MOST 1048576: true; the input reads as it did. -/
def fnExactAddCredentialUptoRow : OpenClaim := { program := "ytoffbjjkegeccaa", sum := "8b3307e4ec8d43582591ed3fff56cc4b9277181f6f5b7fd947c15a6f5967c28a", func := "loop.example/g00581/laws.FnExactAddCredential", spec := "fnExactAddCredential", apart := false, narrowed := true }
def FnExactAddCredentialUptoSaid : Prop := fnExactAddCredentialUptoRow.holds Try.pinned (OpenSpec.upto fnExactAddCredentialSpec)

/-- 'laws.FnExactCutCredential', WHERE WHAT IT READS IS OF BULK AT MOST 1048576: true; the input reads as it did. -/
def fnExactCutCredentialUptoRow : OpenClaim := { program := "ytoffbjjkegeccaa", sum := "8b3307e4ec8d43582591ed3fff56cc4b9277181f6f5b7fd947c15a6f5967c28a", func := "loop.example/g00581/laws.FnExactCutCredential", spec := "fnExactCutCredential", apart := false, narrowed := true }
def FnExactCutCredentialUptoSaid : Prop := fnExactCutCredentialUptoRow.holds Try.pinned (OpenSpec.upto fnExactCutCredentialSpec)

/-- 'laws.FnDeletion', WHERE WHAT IT READS IS OF BULK AT MOST 1048576: true; the input reads as it did. -/
def fnDeletionUptoRow : OpenClaim := { program := "ytoffbjjkegeccaa", sum := "8b3307e4ec8d43582591ed3fff56cc4b9277181f6f5b7fd947c15a6f5967c28a", func := "loop.example/g00581/laws.FnDeletion", spec := "fnDeletion", apart := false, narrowed := true }
def FnDeletionUptoSaid : Prop := fnDeletionUptoRow.holds Try.pinned (OpenSpec.upto fnDeletionSpec)

/-- 'laws.FnExactFindAccount', WHERE WHAT IT READS IS OF BULK AT MOST 1048576: true; the input reads as it did. -/
def fnExactFindAccountUptoRow : OpenClaim := { program := "ytoffbjjkegeccaa", sum := "8b3307e4ec8d43582591ed3fff56cc4b9277181f6f5b7fd947c15a6f5967c28a", func := "loop.example/g00581/laws.FnExactFindAccount", spec := "fnExactFindAccount", apart := false, narrowed := true }
def FnExactFindAccountUptoSaid : Prop := fnExactFindAccountUptoRow.holds Try.pinned (OpenSpec.upto fnExactFindAccountSpec)

/-- 'laws.FnExactDecodeBundle', WHERE WHAT IT READS IS OF BULK AT MOST 1048576: true; the input reads as it did. -/
def fnExactDecodeBundleUptoRow : OpenClaim := { program := "ytoffbjjkegeccaa", sum := "8b3307e4ec8d43582591ed3fff56cc4b9277181f6f5b7fd947c15a6f5967c28a", func := "loop.example/g00581/laws.FnExactDecodeBundle", spec := "fnExactDecodeBundle", apart := false, narrowed := true }
def FnExactDecodeBundleUptoSaid : Prop := fnExactDecodeBundleUptoRow.holds Try.pinned (OpenSpec.upto fnExactDecodeBundleSpec)

end Rows
end Go.Proofs.Ytoffbjjkegeccaa
