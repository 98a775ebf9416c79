/-
  No cell of these rows narrows 'for every input' (looked for: loops, veiled, ifaces, maps, wideKeys, modest, calm, conditions, laid).
  DERIVED. THE GIVEN ROWS OF THIS SEAT. 2 by the template 'for every input the law returns true; each argument reads behind the call as it read before'; 0 by the template 'total and deterministic' (their statements: YtfdnhipjiofnaaaTotals.lean).
  GIVEN WITH THE SEED: the statements are not yours to turn. If you find one false, say at which input.
  Laid BY PROGRAM, IN A SANDBOX (cutbox-rows.mjs): the forced cells as the released guide's own fill.sh prints them over the translation 48efd82818bf587e… (all of the seat's roots in one cut). By AI agents, Wed Nov 11 2026. No macro, syntax, notation, axiom, sorry.
-/
import Derived.Test.YtfdnhipjiofnaaaChecked
import GoSem.Claim
import GoSem.ClaimJoined
import GoSem.ClaimMapViews
import Derived.JoinedTies
import Derived.KernelRfl
namespace Go.Proofs.Ytfdnhipjiofnaaa
/- THE CELL 'sum', in the pinned program and in every row, IS THE sha256 OF THE DUMP (.gsa) THAT YtfdnhipjiofnaaaProg.lean LOADS. Nothing in Lean hashes anything: it is a label: what it is worth is what the hold of that sum in a sandbox is worth. -/
noncomputable def Try.pinned : Pinned := { name := "ytfdnhipjiofnaaa", sum := "48efd82818bf587e7815904cd00ec32dc7a3e2b71b39e985aafd4025c84115ce", checked := Try.checked }
namespace Rows
def none {H : Type} : Left H := { results := [], args := [] }

/-- 'laws.FnExactSeenIn': WHATEVER THE INPUT: true; the input reads as it did. -/
def fnExactSeenInSpec : ChangeSpec := { name := "fnExactSeenIn", fn := fun _ => fun
  | [d1, d2, d3, d4] => { results := [.lit (.bool true)], args := [d1, d2, d3, d4] }
  | _ => none }
def fnExactSeenInRow : OpenClaim := { program := "ytfdnhipjiofnaaa", sum := "48efd82818bf587e7815904cd00ec32dc7a3e2b71b39e985aafd4025c84115ce", func := "loop.example/g01351/laws.FnExactSeenIn", spec := "fnExactSeenIn", unfollowed := true, recurses := true, apart := false }
def FnExactSeenInSaid : Prop := fnExactSeenInRow.holds Try.pinned (OpenSpec.ofChange fnExactSeenInSpec)

/-- ITS FALSE NEIGHBOUR: 'it returns false'. Refute it at one input. -/
def fnExactSeenInWrong : ChangeSpec := { name := "fnExactSeenIn", fn := fun _ => fun
  | [d1, d2, d3, d4] => { results := [.lit (.bool false)], args := [d1, d2, d3, d4] }
  | _ => none }
def FnExactSeenInWrongFalsely : Prop := fnExactSeenInRow.holds Try.pinned (OpenSpec.ofChange fnExactSeenInWrong)

/-- 'laws.FnMirrorsSeen': WHATEVER THE INPUT: true; the input reads as it did. -/
def fnMirrorsSeenSpec : ChangeSpec := { name := "fnMirrorsSeen", fn := fun _ => fun
  | [d1, d2] => { results := [.lit (.bool true)], args := [d1, d2] }
  | _ => none }
def fnMirrorsSeenRow : OpenClaim := { program := "ytfdnhipjiofnaaa", sum := "48efd82818bf587e7815904cd00ec32dc7a3e2b71b39e985aafd4025c84115ce", func := "loop.example/g01351/laws.FnMirrorsSeen", spec := "fnMirrorsSeen", unfollowed := true, recurses := true, apart := false }
def FnMirrorsSeenSaid : Prop := fnMirrorsSeenRow.holds Try.pinned (OpenSpec.ofChange fnMirrorsSeenSpec)

/-- ITS FALSE NEIGHBOUR: 'it returns false'. Refute it at one input. -/
def fnMirrorsSeenWrong : ChangeSpec := { name := "fnMirrorsSeen", fn := fun _ => fun
  | [d1, d2] => { results := [.lit (.bool false)], args := [d1, d2] }
  | _ => none }
def FnMirrorsSeenWrongFalsely : Prop := fnMirrorsSeenRow.holds Try.pinned (OpenSpec.ofChange fnMirrorsSeenWrong)

/- THE SECOND FORM. 'bulk': how many values and letters a reading holds, each counted each time it is reached (what is shared counts as often as it is met; a slice's spare places count too). A statement '..UptoSaid' is the law's where the arguments, and the package variables that the reading takes, are together of bulk at most 1048576: NARROWER than '..Said'. Prove '..Said' where nothing that the law and all that it calls make is longer than what came in: it says more and counts as full. Else prove '..UptoSaid'. A law counts once. -/
mutual
def uptoBulk {H : Type} : DataW H → Nat
  | .lit (.string bytes) => bytes.length + 1
  | .lit _ => 1
  | .nil => 1
  | .ptr d => uptoBulk d + 1
  | .slice elems spare => uptoBulkAll elems + uptoBulkAll spare + 1
  | .agg parts => uptoBulkAll parts + 1
  | .iface _ d => uptoBulk d + 1
  | .map entries => uptoBulkEntries entries + 1
  | .held _ => 1
def uptoBulkAll {H : Type} : List (DataW H) → Nat
  | [] => 0
  | d :: r => uptoBulk d + uptoBulkAll r
def uptoBulkEntries {H : Type} : List (Lit × DataW H) → Nat
  | [] => 0
  | x :: r => uptoBulkEntry x + uptoBulkEntries r
def uptoBulkEntry {H : Type} : Lit × DataW H → Nat
  | (.string bytes, d) => bytes.length + uptoBulk d + 1
  | (_, d) => uptoBulk d + 1
 end
def uptoSmall : (H : Type) → List (DataW H) → Bool := fun _ ds => decide (uptoBulkAll ds ≤ 1048576)
def OpenSpec.upto (s : _root_.Go.ChangeSpec) : _root_.Go.OpenSpec := { _root_.Go.OpenSpec.ofChange s with cond := some uptoSmall }

/-- 'laws.FnExactSeenIn', WHERE WHAT IT READS IS OF BULK AT MOST 1048576: true; the input reads as it did. -/
def fnExactSeenInUptoRow : OpenClaim := { program := "ytfdnhipjiofnaaa", sum := "48efd82818bf587e7815904cd00ec32dc7a3e2b71b39e985aafd4025c84115ce", func := "loop.example/g01351/laws.FnExactSeenIn", spec := "fnExactSeenIn", unfollowed := true, recurses := true, apart := false, narrowed := true }
def FnExactSeenInUptoSaid : Prop := fnExactSeenInUptoRow.holds Try.pinned (OpenSpec.upto fnExactSeenInSpec)

/-- 'laws.FnMirrorsSeen', WHERE WHAT IT READS IS OF BULK AT MOST 1048576: true; the input reads as it did. -/
def fnMirrorsSeenUptoRow : OpenClaim := { program := "ytfdnhipjiofnaaa", sum := "48efd82818bf587e7815904cd00ec32dc7a3e2b71b39e985aafd4025c84115ce", func := "loop.example/g01351/laws.FnMirrorsSeen", spec := "fnMirrorsSeen", unfollowed := true, recurses := true, apart := false, narrowed := true }
def FnMirrorsSeenUptoSaid : Prop := fnMirrorsSeenUptoRow.holds Try.pinned (OpenSpec.upto fnMirrorsSeenSpec)

end Rows
end Go.Proofs.Ytfdnhipjiofnaaa
