/-
  No cell of these rows narrows 'for every input' (looked for: loops, veiled, ifaces, maps, wideKeys, modest, calm, conditions, laid).
  DERIVED. THE GIVEN ROWS OF THIS SEAT. 8 by the template 'for every input the law returns true; each argument reads behind the call as it read before'; 0 by the template 'total and deterministic' (their statements: YtnapdbffnlhibaaTotals.lean).
  GIVEN WITH THE SEED: the statements are not yours to turn. If you find one false, say at which input.
  Laid BY PROGRAM, IN A SANDBOX (cutbox-rows.mjs): the forced cells as the released guide's own fill.sh prints them over the translation 9bc735c45e42bb99… (all of the seat's roots in one cut). By AI agents, Wed Nov 11 2026. No macro, syntax, notation, axiom, sorry.
-/
import Derived.Test.YtnapdbffnlhibaaChecked
import GoSem.Claim
import GoSem.ClaimJoined
import GoSem.ClaimMapViews
import Derived.JoinedTies
import Derived.KernelRfl
namespace Go.Proofs.Ytnapdbffnlhibaa
/- THE CELL 'sum', in the pinned program and in every row, IS THE sha256 OF THE DUMP (.gsa) THAT YtnapdbffnlhibaaProg.lean LOADS. Nothing in Lean hashes anything: it is a label: what it is worth is what the hold of that sum in a sandbox is worth. -/
noncomputable def Try.pinned : Pinned := { name := "ytnapdbffnlhibaa", sum := "9bc735c45e42bb999723c05e3c633d04bf21d6fc73db925636e9389933c75b55", checked := Try.checked }
namespace Rows
def none {H : Type} : Left H := { results := [], args := [] }

/-- 'laws.FnExactTouchOf': WHATEVER THE INPUT: true; the input reads as it did. -/
def fnExactTouchOfSpec : ChangeSpec := { name := "fnExactTouchOf", fn := fun _ => fun
  | [d1, d2] => { results := [.lit (.bool true)], args := [d1, d2] }
  | _ => none }
def fnExactTouchOfRow : OpenClaim := { program := "ytnapdbffnlhibaa", sum := "9bc735c45e42bb999723c05e3c633d04bf21d6fc73db925636e9389933c75b55", func := "loop.example/g01351/laws.FnExactTouchOf", spec := "fnExactTouchOf", unfollowed := true, recurses := true, apart := false }
def FnExactTouchOfSaid : Prop := fnExactTouchOfRow.holds Try.pinned (OpenSpec.ofChange fnExactTouchOfSpec)

/-- ITS FALSE NEIGHBOUR: 'it returns false'. Refute it at one input. -/
def fnExactTouchOfWrong : ChangeSpec := { name := "fnExactTouchOf", fn := fun _ => fun
  | [d1, d2] => { results := [.lit (.bool false)], args := [d1, d2] }
  | _ => none }
def FnExactTouchOfWrongFalsely : Prop := fnExactTouchOfRow.holds Try.pinned (OpenSpec.ofChange fnExactTouchOfWrong)

/-- 'laws.FnExactIsWholeTouch': WHATEVER THE INPUT: true; the input reads as it did. -/
def fnExactIsWholeTouchSpec : ChangeSpec := { name := "fnExactIsWholeTouch", fn := fun _ => fun
  | [d1, d2] => { results := [.lit (.bool true)], args := [d1, d2] }
  | _ => none }
def fnExactIsWholeTouchRow : OpenClaim := { program := "ytnapdbffnlhibaa", sum := "9bc735c45e42bb999723c05e3c633d04bf21d6fc73db925636e9389933c75b55", func := "loop.example/g01351/laws.FnExactIsWholeTouch", spec := "fnExactIsWholeTouch", unfollowed := true, recurses := true, apart := false }
def FnExactIsWholeTouchSaid : Prop := fnExactIsWholeTouchRow.holds Try.pinned (OpenSpec.ofChange fnExactIsWholeTouchSpec)

/-- ITS FALSE NEIGHBOUR: 'it returns false'. Refute it at one input. -/
def fnExactIsWholeTouchWrong : ChangeSpec := { name := "fnExactIsWholeTouch", fn := fun _ => fun
  | [d1, d2] => { results := [.lit (.bool false)], args := [d1, d2] }
  | _ => none }
def FnExactIsWholeTouchWrongFalsely : Prop := fnExactIsWholeTouchRow.holds Try.pinned (OpenSpec.ofChange fnExactIsWholeTouchWrong)

/-- 'laws.FnExactSquareInCorridor': WHATEVER THE INPUT: true; the input reads as it did. -/
def fnExactSquareInCorridorSpec : ChangeSpec := { name := "fnExactSquareInCorridor", fn := fun _ => fun
  | [d1, d2, d3, d4, d5] => { results := [.lit (.bool true)], args := [d1, d2, d3, d4, d5] }
  | _ => none }
def fnExactSquareInCorridorRow : OpenClaim := { program := "ytnapdbffnlhibaa", sum := "9bc735c45e42bb999723c05e3c633d04bf21d6fc73db925636e9389933c75b55", func := "loop.example/g01351/laws.FnExactSquareInCorridor", spec := "fnExactSquareInCorridor", unfollowed := true, recurses := true, apart := false }
def FnExactSquareInCorridorSaid : Prop := fnExactSquareInCorridorRow.holds Try.pinned (OpenSpec.ofChange fnExactSquareInCorridorSpec)

/-- ITS FALSE NEIGHBOUR: 'it returns false'. Refute it at one input. -/
def fnExactSquareInCorridorWrong : ChangeSpec := { name := "fnExactSquareInCorridor", fn := fun _ => fun
  | [d1, d2, d3, d4, d5] => { results := [.lit (.bool false)], args := [d1, d2, d3, d4, d5] }
  | _ => none }
def FnExactSquareInCorridorWrongFalsely : Prop := fnExactSquareInCorridorRow.holds Try.pinned (OpenSpec.ofChange fnExactSquareInCorridorWrong)

/-- 'laws.FnExactBestInCorridor': WHATEVER THE INPUT: true; the input reads as it did. -/
def fnExactBestInCorridorSpec : ChangeSpec := { name := "fnExactBestInCorridor", fn := fun _ => fun
  | [d1, d2, d3, d4] => { results := [.lit (.bool true)], args := [d1, d2, d3, d4] }
  | _ => none }
def fnExactBestInCorridorRow : OpenClaim := { program := "ytnapdbffnlhibaa", sum := "9bc735c45e42bb999723c05e3c633d04bf21d6fc73db925636e9389933c75b55", func := "loop.example/g01351/laws.FnExactBestInCorridor", spec := "fnExactBestInCorridor", unfollowed := true, recurses := true, apart := false }
def FnExactBestInCorridorSaid : Prop := fnExactBestInCorridorRow.holds Try.pinned (OpenSpec.ofChange fnExactBestInCorridorSpec)

/-- ITS FALSE NEIGHBOUR: 'it returns false'. Refute it at one input. -/
def fnExactBestInCorridorWrong : ChangeSpec := { name := "fnExactBestInCorridor", fn := fun _ => fun
  | [d1, d2, d3, d4] => { results := [.lit (.bool false)], args := [d1, d2, d3, d4] }
  | _ => none }
def FnExactBestInCorridorWrongFalsely : Prop := fnExactBestInCorridorRow.holds Try.pinned (OpenSpec.ofChange fnExactBestInCorridorWrong)

/-- 'laws.FnExactWaysWithin': WHATEVER THE INPUT: true; the input reads as it did. -/
def fnExactWaysWithinSpec : ChangeSpec := { name := "fnExactWaysWithin", fn := fun _ => fun
  | [d1, d2, d3, d4] => { results := [.lit (.bool true)], args := [d1, d2, d3, d4] }
  | _ => none }
def fnExactWaysWithinRow : OpenClaim := { program := "ytnapdbffnlhibaa", sum := "9bc735c45e42bb999723c05e3c633d04bf21d6fc73db925636e9389933c75b55", func := "loop.example/g01351/laws.FnExactWaysWithin", spec := "fnExactWaysWithin", unfollowed := true, recurses := true, apart := false }
def FnExactWaysWithinSaid : Prop := fnExactWaysWithinRow.holds Try.pinned (OpenSpec.ofChange fnExactWaysWithinSpec)

/-- ITS FALSE NEIGHBOUR: 'it returns false'. Refute it at one input. -/
def fnExactWaysWithinWrong : ChangeSpec := { name := "fnExactWaysWithin", fn := fun _ => fun
  | [d1, d2, d3, d4] => { results := [.lit (.bool false)], args := [d1, d2, d3, d4] }
  | _ => none }
def FnExactWaysWithinWrongFalsely : Prop := fnExactWaysWithinRow.holds Try.pinned (OpenSpec.ofChange fnExactWaysWithinWrong)

/-- 'laws.FnExactNearestByMirror': WHATEVER THE INPUT: true; the input reads as it did. -/
def fnExactNearestByMirrorSpec : ChangeSpec := { name := "fnExactNearestByMirror", fn := fun _ => fun
  | [d1, d2] => { results := [.lit (.bool true)], args := [d1, d2] }
  | _ => none }
def fnExactNearestByMirrorRow : OpenClaim := { program := "ytnapdbffnlhibaa", sum := "9bc735c45e42bb999723c05e3c633d04bf21d6fc73db925636e9389933c75b55", func := "loop.example/g01351/laws.FnExactNearestByMirror", spec := "fnExactNearestByMirror", unfollowed := true, recurses := true, apart := false }
def FnExactNearestByMirrorSaid : Prop := fnExactNearestByMirrorRow.holds Try.pinned (OpenSpec.ofChange fnExactNearestByMirrorSpec)

/-- ITS FALSE NEIGHBOUR: 'it returns false'. Refute it at one input. -/
def fnExactNearestByMirrorWrong : ChangeSpec := { name := "fnExactNearestByMirror", fn := fun _ => fun
  | [d1, d2] => { results := [.lit (.bool false)], args := [d1, d2] }
  | _ => none }
def FnExactNearestByMirrorWrongFalsely : Prop := fnExactNearestByMirrorRow.holds Try.pinned (OpenSpec.ofChange fnExactNearestByMirrorWrong)

/-- 'laws.FnExactTouchesByCorner': WHATEVER THE INPUT: true; the input reads as it did. -/
def fnExactTouchesByCornerSpec : ChangeSpec := { name := "fnExactTouchesByCorner", fn := fun _ => fun
  | [d1, d2] => { results := [.lit (.bool true)], args := [d1, d2] }
  | _ => none }
def fnExactTouchesByCornerRow : OpenClaim := { program := "ytnapdbffnlhibaa", sum := "9bc735c45e42bb999723c05e3c633d04bf21d6fc73db925636e9389933c75b55", func := "loop.example/g01351/laws.FnExactTouchesByCorner", spec := "fnExactTouchesByCorner", unfollowed := true, recurses := true, apart := false }
def FnExactTouchesByCornerSaid : Prop := fnExactTouchesByCornerRow.holds Try.pinned (OpenSpec.ofChange fnExactTouchesByCornerSpec)

/-- ITS FALSE NEIGHBOUR: 'it returns false'. Refute it at one input. -/
def fnExactTouchesByCornerWrong : ChangeSpec := { name := "fnExactTouchesByCorner", fn := fun _ => fun
  | [d1, d2] => { results := [.lit (.bool false)], args := [d1, d2] }
  | _ => none }
def FnExactTouchesByCornerWrongFalsely : Prop := fnExactTouchesByCornerRow.holds Try.pinned (OpenSpec.ofChange fnExactTouchesByCornerWrong)

/-- 'laws.FnExactWholeWays': WHATEVER THE INPUT: true; the input reads as it did. -/
def fnExactWholeWaysSpec : ChangeSpec := { name := "fnExactWholeWays", fn := fun _ => fun
  | [d1, d2, d3] => { results := [.lit (.bool true)], args := [d1, d2, d3] }
  | _ => none }
def fnExactWholeWaysRow : OpenClaim := { program := "ytnapdbffnlhibaa", sum := "9bc735c45e42bb999723c05e3c633d04bf21d6fc73db925636e9389933c75b55", func := "loop.example/g01351/laws.FnExactWholeWays", spec := "fnExactWholeWays", unfollowed := true, recurses := true, apart := false }
def FnExactWholeWaysSaid : Prop := fnExactWholeWaysRow.holds Try.pinned (OpenSpec.ofChange fnExactWholeWaysSpec)

/-- ITS FALSE NEIGHBOUR: 'it returns false'. Refute it at one input. -/
def fnExactWholeWaysWrong : ChangeSpec := { name := "fnExactWholeWays", fn := fun _ => fun
  | [d1, d2, d3] => { results := [.lit (.bool false)], args := [d1, d2, d3] }
  | _ => none }
def FnExactWholeWaysWrongFalsely : Prop := fnExactWholeWaysRow.holds Try.pinned (OpenSpec.ofChange fnExactWholeWaysWrong)

/- THE SECOND FORM. 'bulk': how many values and letters a reading holds, each counted each time it is reached (what is shared counts as often as it is met; a slice's spare places count too). A statement '..UptoSaid' is the law's where the arguments, and the package variables that the reading takes, are together of bulk at most 1048576: NARROWER than '..Said'. Prove '..Said' where nothing that the law and all that it calls make is longer than what came in: it says more and counts as full. Else prove '..UptoSaid'. A law counts once. -/
mutual
def uptoBulk {H : Type} : DataW H → Nat
  | .lit (.string bytes) => bytes.length + 1
  | .lit _ => 1
  | .nil => 1
  | .ptr d => uptoBulk d + 1
  | .slice elems spare => uptoBulkAll elems + uptoBulkAll spare + 1
  | .agg parts => uptoBulkAll parts + 1
  | .iface _ d => uptoBulk d + 1
  | .map entries => uptoBulkEntries entries + 1
  | .held _ => 1
def uptoBulkAll {H : Type} : List (DataW H) → Nat
  | [] => 0
  | d :: r => uptoBulk d + uptoBulkAll r
def uptoBulkEntries {H : Type} : List (Lit × DataW H) → Nat
  | [] => 0
  | x :: r => uptoBulkEntry x + uptoBulkEntries r
def uptoBulkEntry {H : Type} : Lit × DataW H → Nat
  | (.string bytes, d) => bytes.length + uptoBulk d + 1
  | (_, d) => uptoBulk d + 1
 end
def uptoSmall : (H : Type) → List (DataW H) → Bool := fun _ ds => decide (uptoBulkAll ds ≤ 1048576)
def OpenSpec.upto (s : _root_.Go.ChangeSpec) : _root_.Go.OpenSpec := { _root_.Go.OpenSpec.ofChange s with cond := some uptoSmall }

/-- 'laws.FnExactTouchOf', WHERE WHAT IT READS IS OF BULK AT MOST 1048576: true; the input reads as it did. -/
def fnExactTouchOfUptoRow : OpenClaim := { program := "ytnapdbffnlhibaa", sum := "9bc735c45e42bb999723c05e3c633d04bf21d6fc73db925636e9389933c75b55", func := "loop.example/g01351/laws.FnExactTouchOf", spec := "fnExactTouchOf", unfollowed := true, recurses := true, apart := false, narrowed := true }
def FnExactTouchOfUptoSaid : Prop := fnExactTouchOfUptoRow.holds Try.pinned (OpenSpec.upto fnExactTouchOfSpec)

/-- 'laws.FnExactIsWholeTouch', WHERE WHAT IT READS IS OF BULK AT MOST 1048576: true; the input reads as it did. -/
def fnExactIsWholeTouchUptoRow : OpenClaim := { program := "ytnapdbffnlhibaa", sum := "9bc735c45e42bb999723c05e3c633d04bf21d6fc73db925636e9389933c75b55", func := "loop.example/g01351/laws.FnExactIsWholeTouch", spec := "fnExactIsWholeTouch", unfollowed := true, recurses := true, apart := false, narrowed := true }
def FnExactIsWholeTouchUptoSaid : Prop := fnExactIsWholeTouchUptoRow.holds Try.pinned (OpenSpec.upto fnExactIsWholeTouchSpec)

/-- 'laws.FnExactSquareInCorridor', WHERE WHAT IT READS IS OF BULK AT MOST 1048576: true; the input reads as it did. -/
def fnExactSquareInCorridorUptoRow : OpenClaim := { program := "ytnapdbffnlhibaa", sum := "9bc735c45e42bb999723c05e3c633d04bf21d6fc73db925636e9389933c75b55", func := "loop.example/g01351/laws.FnExactSquareInCorridor", spec := "fnExactSquareInCorridor", unfollowed := true, recurses := true, apart := false, narrowed := true }
def FnExactSquareInCorridorUptoSaid : Prop := fnExactSquareInCorridorUptoRow.holds Try.pinned (OpenSpec.upto fnExactSquareInCorridorSpec)

/-- 'laws.FnExactBestInCorridor', WHERE WHAT IT READS IS OF BULK AT MOST 1048576: true; the input reads as it did. -/
def fnExactBestInCorridorUptoRow : OpenClaim := { program := "ytnapdbffnlhibaa", sum := "9bc735c45e42bb999723c05e3c633d04bf21d6fc73db925636e9389933c75b55", func := "loop.example/g01351/laws.FnExactBestInCorridor", spec := "fnExactBestInCorridor", unfollowed := true, recurses := true, apart := false, narrowed := true }
def FnExactBestInCorridorUptoSaid : Prop := fnExactBestInCorridorUptoRow.holds Try.pinned (OpenSpec.upto fnExactBestInCorridorSpec)

/-- 'laws.FnExactWaysWithin', WHERE WHAT IT READS IS OF BULK AT MOST 1048576: true; the input reads as it did. -/
def fnExactWaysWithinUptoRow : OpenClaim := { program := "ytnapdbffnlhibaa", sum := "9bc735c45e42bb999723c05e3c633d04bf21d6fc73db925636e9389933c75b55", func := "loop.example/g01351/laws.FnExactWaysWithin", spec := "fnExactWaysWithin", unfollowed := true, recurses := true, apart := false, narrowed := true }
def FnExactWaysWithinUptoSaid : Prop := fnExactWaysWithinUptoRow.holds Try.pinned (OpenSpec.upto fnExactWaysWithinSpec)

/-- 'laws.FnExactNearestByMirror', WHERE WHAT IT READS IS OF BULK AT MOST 1048576: true; the input reads as it did. -/
def fnExactNearestByMirrorUptoRow : OpenClaim := { program := "ytnapdbffnlhibaa", sum := "9bc735c45e42bb999723c05e3c633d04bf21d6fc73db925636e9389933c75b55", func := "loop.example/g01351/laws.FnExactNearestByMirror", spec := "fnExactNearestByMirror", unfollowed := true, recurses := true, apart := false, narrowed := true }
def FnExactNearestByMirrorUptoSaid : Prop := fnExactNearestByMirrorUptoRow.holds Try.pinned (OpenSpec.upto fnExactNearestByMirrorSpec)

/-- 'laws.FnExactTouchesByCorner', WHERE WHAT IT READS IS OF BULK AT MOST 1048576: true; the input reads as it did. -/
def fnExactTouchesByCornerUptoRow : OpenClaim := { program := "ytnapdbffnlhibaa", sum := "9bc735c45e42bb999723c05e3c633d04bf21d6fc73db925636e9389933c75b55", func := "loop.example/g01351/laws.FnExactTouchesByCorner", spec := "fnExactTouchesByCorner", unfollowed := true, recurses := true, apart := false, narrowed := true }
def FnExactTouchesByCornerUptoSaid : Prop := fnExactTouchesByCornerUptoRow.holds Try.pinned (OpenSpec.upto fnExactTouchesByCornerSpec)

/-- 'laws.FnExactWholeWays', WHERE WHAT IT READS IS OF BULK AT MOST 1048576: true; the input reads as it did. -/
def fnExactWholeWaysUptoRow : OpenClaim := { program := "ytnapdbffnlhibaa", sum := "9bc735c45e42bb999723c05e3c633d04bf21d6fc73db925636e9389933c75b55", func := "loop.example/g01351/laws.FnExactWholeWays", spec := "fnExactWholeWays", unfollowed := true, recurses := true, apart := false, narrowed := true }
def FnExactWholeWaysUptoSaid : Prop := fnExactWholeWaysUptoRow.holds Try.pinned (OpenSpec.upto fnExactWholeWaysSpec)

end Rows
end Go.Proofs.Ytnapdbffnlhibaa
