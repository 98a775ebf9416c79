/-
  No cell of these rows narrows 'for every input' (looked for: loops, veiled, ifaces, maps, wideKeys, modest, calm, conditions, laid).
  DERIVED. THE GIVEN ROWS OF THIS SEAT. 12 by the template 'for every input the law returns true; each argument reads behind the call as it read before'; 0 by the template 'total and deterministic' (their statements: YtfpigffkfiklmaaTotals.lean).
  GIVEN WITH THE SEED: the statements are not yours to turn. If you find one false, say at which input.
  Laid BY PROGRAM, IN A SANDBOX (cutbox-rows.mjs): the forced cells as the released guide's own fill.sh prints them over the translation 8c38b9d3e8367594… (all of the seat's roots in one cut). By AI agents, Wed Nov 11 2026. No macro, syntax, notation, axiom, sorry.
-/
import Derived.Test.YtfpigffkfiklmaaChecked
import GoSem.Claim
import GoSem.ClaimJoined
import GoSem.ClaimMapViews
import Derived.JoinedTies
import Derived.KernelRfl
namespace Go.Proofs.Ytfpigffkfiklmaa
/- THE CELL 'sum', in the pinned program and in every row, IS THE sha256 OF THE DUMP (.gsa) THAT YtfpigffkfiklmaaProg.lean LOADS. Nothing in Lean hashes anything: it is a label: what it is worth is what the hold of that sum in a sandbox is worth. -/
noncomputable def Try.pinned : Pinned := { name := "ytfpigffkfiklmaa", sum := "8c38b9d3e836759468bf571abd670f9de445d50dc8ee478922f1911fff2ee4fe", checked := Try.checked }
namespace Rows
def none {H : Type} : Left H := { results := [], args := [] }

/-- 'laws.FnExactIsSpot': WHATEVER THE INPUT: true; the input reads as it did. -/
def fnExactIsSpotSpec : ChangeSpec := { name := "fnExactIsSpot", fn := fun _ => fun
  | [d] => { results := [.lit (.bool true)], args := [d] }
  | _ => none }
def fnExactIsSpotRow : OpenClaim := { program := "ytfpigffkfiklmaa", sum := "8c38b9d3e836759468bf571abd670f9de445d50dc8ee478922f1911fff2ee4fe", func := "loop.example/g01351/laws.FnExactIsSpot", spec := "fnExactIsSpot", apart := false }
def FnExactIsSpotSaid : Prop := fnExactIsSpotRow.holds Try.pinned (OpenSpec.ofChange fnExactIsSpotSpec)

/-- ITS FALSE NEIGHBOUR: 'it returns false'. Refute it at one input. -/
def fnExactIsSpotWrong : ChangeSpec := { name := "fnExactIsSpot", fn := fun _ => fun
  | [d] => { results := [.lit (.bool false)], args := [d] }
  | _ => none }
def FnExactIsSpotWrongFalsely : Prop := fnExactIsSpotRow.holds Try.pinned (OpenSpec.ofChange fnExactIsSpotWrong)

/-- 'laws.FnExactCanSeeAll': WHATEVER THE INPUT: true; the input reads as it did. -/
def fnExactCanSeeAllSpec : ChangeSpec := { name := "fnExactCanSeeAll", fn := fun _ => fun
  | [d1, d2, d3, d4] => { results := [.lit (.bool true)], args := [d1, d2, d3, d4] }
  | _ => none }
def fnExactCanSeeAllRow : OpenClaim := { program := "ytfpigffkfiklmaa", sum := "8c38b9d3e836759468bf571abd670f9de445d50dc8ee478922f1911fff2ee4fe", func := "loop.example/g01351/laws.FnExactCanSeeAll", spec := "fnExactCanSeeAll", apart := false }
def FnExactCanSeeAllSaid : Prop := fnExactCanSeeAllRow.holds Try.pinned (OpenSpec.ofChange fnExactCanSeeAllSpec)

/-- ITS FALSE NEIGHBOUR: 'it returns false'. Refute it at one input. -/
def fnExactCanSeeAllWrong : ChangeSpec := { name := "fnExactCanSeeAll", fn := fun _ => fun
  | [d1, d2, d3, d4] => { results := [.lit (.bool false)], args := [d1, d2, d3, d4] }
  | _ => none }
def FnExactCanSeeAllWrongFalsely : Prop := fnExactCanSeeAllRow.holds Try.pinned (OpenSpec.ofChange fnExactCanSeeAllWrong)

/-- 'laws.FnExactTurnSpot': WHATEVER THE INPUT: true; the input reads as it did. -/
def fnExactTurnSpotSpec : ChangeSpec := { name := "fnExactTurnSpot", fn := fun _ => fun
  | [d] => { results := [.lit (.bool true)], args := [d] }
  | _ => none }
def fnExactTurnSpotRow : OpenClaim := { program := "ytfpigffkfiklmaa", sum := "8c38b9d3e836759468bf571abd670f9de445d50dc8ee478922f1911fff2ee4fe", func := "loop.example/g01351/laws.FnExactTurnSpot", spec := "fnExactTurnSpot", apart := false }
def FnExactTurnSpotSaid : Prop := fnExactTurnSpotRow.holds Try.pinned (OpenSpec.ofChange fnExactTurnSpotSpec)

/-- ITS FALSE NEIGHBOUR: 'it returns false'. Refute it at one input. -/
def fnExactTurnSpotWrong : ChangeSpec := { name := "fnExactTurnSpot", fn := fun _ => fun
  | [d] => { results := [.lit (.bool false)], args := [d] }
  | _ => none }
def FnExactTurnSpotWrongFalsely : Prop := fnExactTurnSpotRow.holds Try.pinned (OpenSpec.ofChange fnExactTurnSpotWrong)

/-- 'laws.FnExactMirrorFor': WHATEVER THE INPUT: true; the input reads as it did. -/
def fnExactMirrorForSpec : ChangeSpec := { name := "fnExactMirrorFor", fn := fun _ => fun
  | [d1, d2] => { results := [.lit (.bool true)], args := [d1, d2] }
  | _ => none }
def fnExactMirrorForRow : OpenClaim := { program := "ytfpigffkfiklmaa", sum := "8c38b9d3e836759468bf571abd670f9de445d50dc8ee478922f1911fff2ee4fe", func := "loop.example/g01351/laws.FnExactMirrorFor", spec := "fnExactMirrorFor", apart := false }
def FnExactMirrorForSaid : Prop := fnExactMirrorForRow.holds Try.pinned (OpenSpec.ofChange fnExactMirrorForSpec)

/-- ITS FALSE NEIGHBOUR: 'it returns false'. Refute it at one input. -/
def fnExactMirrorForWrong : ChangeSpec := { name := "fnExactMirrorFor", fn := fun _ => fun
  | [d1, d2] => { results := [.lit (.bool false)], args := [d1, d2] }
  | _ => none }
def FnExactMirrorForWrongFalsely : Prop := fnExactMirrorForRow.holds Try.pinned (OpenSpec.ofChange fnExactMirrorForWrong)

/-- 'laws.FnExactSeenOfPerson': WHATEVER THE INPUT: true; the input reads as it did. -/
def fnExactSeenOfPersonSpec : ChangeSpec := { name := "fnExactSeenOfPerson", fn := fun _ => fun
  | [d1, d2, d3, d4] => { results := [.lit (.bool true)], args := [d1, d2, d3, d4] }
  | _ => none }
def fnExactSeenOfPersonRow : OpenClaim := { program := "ytfpigffkfiklmaa", sum := "8c38b9d3e836759468bf571abd670f9de445d50dc8ee478922f1911fff2ee4fe", func := "loop.example/g01351/laws.FnExactSeenOfPerson", spec := "fnExactSeenOfPerson", apart := false }
def FnExactSeenOfPersonSaid : Prop := fnExactSeenOfPersonRow.holds Try.pinned (OpenSpec.ofChange fnExactSeenOfPersonSpec)

/-- ITS FALSE NEIGHBOUR: 'it returns false'. Refute it at one input. -/
def fnExactSeenOfPersonWrong : ChangeSpec := { name := "fnExactSeenOfPerson", fn := fun _ => fun
  | [d1, d2, d3, d4] => { results := [.lit (.bool false)], args := [d1, d2, d3, d4] }
  | _ => none }
def FnExactSeenOfPersonWrongFalsely : Prop := fnExactSeenOfPersonRow.holds Try.pinned (OpenSpec.ofChange fnExactSeenOfPersonWrong)

/-- 'laws.FnExactSquareByMirror': WHATEVER THE INPUT: true; the input reads as it did. -/
def fnExactSquareByMirrorSpec : ChangeSpec := { name := "fnExactSquareByMirror", fn := fun _ => fun
  | [d1, d2] => { results := [.lit (.bool true)], args := [d1, d2] }
  | _ => none }
def fnExactSquareByMirrorRow : OpenClaim := { program := "ytfpigffkfiklmaa", sum := "8c38b9d3e836759468bf571abd670f9de445d50dc8ee478922f1911fff2ee4fe", func := "loop.example/g01351/laws.FnExactSquareByMirror", spec := "fnExactSquareByMirror", unfollowed := true, recurses := true, apart := false }
def FnExactSquareByMirrorSaid : Prop := fnExactSquareByMirrorRow.holds Try.pinned (OpenSpec.ofChange fnExactSquareByMirrorSpec)

/-- ITS FALSE NEIGHBOUR: 'it returns false'. Refute it at one input. -/
def fnExactSquareByMirrorWrong : ChangeSpec := { name := "fnExactSquareByMirror", fn := fun _ => fun
  | [d1, d2] => { results := [.lit (.bool false)], args := [d1, d2] }
  | _ => none }
def FnExactSquareByMirrorWrongFalsely : Prop := fnExactSquareByMirrorRow.holds Try.pinned (OpenSpec.ofChange fnExactSquareByMirrorWrong)

/-- 'laws.FnExactSquareStraight': WHATEVER THE INPUT: true; the input reads as it did. -/
def fnExactSquareStraightSpec : ChangeSpec := { name := "fnExactSquareStraight", fn := fun _ => fun
  | [d1, d2] => { results := [.lit (.bool true)], args := [d1, d2] }
  | _ => none }
def fnExactSquareStraightRow : OpenClaim := { program := "ytfpigffkfiklmaa", sum := "8c38b9d3e836759468bf571abd670f9de445d50dc8ee478922f1911fff2ee4fe", func := "loop.example/g01351/laws.FnExactSquareStraight", spec := "fnExactSquareStraight", unfollowed := true, recurses := true, apart := false }
def FnExactSquareStraightSaid : Prop := fnExactSquareStraightRow.holds Try.pinned (OpenSpec.ofChange fnExactSquareStraightSpec)

/-- ITS FALSE NEIGHBOUR: 'it returns false'. Refute it at one input. -/
def fnExactSquareStraightWrong : ChangeSpec := { name := "fnExactSquareStraight", fn := fun _ => fun
  | [d1, d2] => { results := [.lit (.bool false)], args := [d1, d2] }
  | _ => none }
def FnExactSquareStraightWrongFalsely : Prop := fnExactSquareStraightRow.holds Try.pinned (OpenSpec.ofChange fnExactSquareStraightWrong)

/-- 'laws.FnExactMoveSpot': WHATEVER THE INPUT: true; the input reads as it did. -/
def fnExactMoveSpotSpec : ChangeSpec := { name := "fnExactMoveSpot", fn := fun _ => fun
  | [d1, d2, d3] => { results := [.lit (.bool true)], args := [d1, d2, d3] }
  | _ => none }
def fnExactMoveSpotRow : OpenClaim := { program := "ytfpigffkfiklmaa", sum := "8c38b9d3e836759468bf571abd670f9de445d50dc8ee478922f1911fff2ee4fe", func := "loop.example/g01351/laws.FnExactMoveSpot", spec := "fnExactMoveSpot", apart := false }
def FnExactMoveSpotSaid : Prop := fnExactMoveSpotRow.holds Try.pinned (OpenSpec.ofChange fnExactMoveSpotSpec)

/-- ITS FALSE NEIGHBOUR: 'it returns false'. Refute it at one input. -/
def fnExactMoveSpotWrong : ChangeSpec := { name := "fnExactMoveSpot", fn := fun _ => fun
  | [d1, d2, d3] => { results := [.lit (.bool false)], args := [d1, d2, d3] }
  | _ => none }
def FnExactMoveSpotWrongFalsely : Prop := fnExactMoveSpotRow.holds Try.pinned (OpenSpec.ofChange fnExactMoveSpotWrong)

/-- 'laws.FnExactSquareByCorner': WHATEVER THE INPUT: true; the input reads as it did. -/
def fnExactSquareByCornerSpec : ChangeSpec := { name := "fnExactSquareByCorner", fn := fun _ => fun
  | [d1, d2] => { results := [.lit (.bool true)], args := [d1, d2] }
  | _ => none }
def fnExactSquareByCornerRow : OpenClaim := { program := "ytfpigffkfiklmaa", sum := "8c38b9d3e836759468bf571abd670f9de445d50dc8ee478922f1911fff2ee4fe", func := "loop.example/g01351/laws.FnExactSquareByCorner", spec := "fnExactSquareByCorner", unfollowed := true, recurses := true, apart := false }
def FnExactSquareByCornerSaid : Prop := fnExactSquareByCornerRow.holds Try.pinned (OpenSpec.ofChange fnExactSquareByCornerSpec)

/-- ITS FALSE NEIGHBOUR: 'it returns false'. Refute it at one input. -/
def fnExactSquareByCornerWrong : ChangeSpec := { name := "fnExactSquareByCorner", fn := fun _ => fun
  | [d1, d2] => { results := [.lit (.bool false)], args := [d1, d2] }
  | _ => none }
def FnExactSquareByCornerWrongFalsely : Prop := fnExactSquareByCornerRow.holds Try.pinned (OpenSpec.ofChange fnExactSquareByCornerWrong)

/-- 'laws.FnExactHeightForTouch': WHATEVER THE INPUT: true; the input reads as it did. -/
def fnExactHeightForTouchSpec : ChangeSpec := { name := "fnExactHeightForTouch", fn := fun _ => fun
  | [d1, d2, d3] => { results := [.lit (.bool true)], args := [d1, d2, d3] }
  | _ => none }
def fnExactHeightForTouchRow : OpenClaim := { program := "ytfpigffkfiklmaa", sum := "8c38b9d3e836759468bf571abd670f9de445d50dc8ee478922f1911fff2ee4fe", func := "loop.example/g01351/laws.FnExactHeightForTouch", spec := "fnExactHeightForTouch", apart := false }
def FnExactHeightForTouchSaid : Prop := fnExactHeightForTouchRow.holds Try.pinned (OpenSpec.ofChange fnExactHeightForTouchSpec)

/-- ITS FALSE NEIGHBOUR: 'it returns false'. Refute it at one input. -/
def fnExactHeightForTouchWrong : ChangeSpec := { name := "fnExactHeightForTouch", fn := fun _ => fun
  | [d1, d2, d3] => { results := [.lit (.bool false)], args := [d1, d2, d3] }
  | _ => none }
def FnExactHeightForTouchWrongFalsely : Prop := fnExactHeightForTouchRow.holds Try.pinned (OpenSpec.ofChange fnExactHeightForTouchWrong)

/-- 'laws.FnExactOrderByCorner': WHATEVER THE INPUT: true; the input reads as it did. -/
def fnExactOrderByCornerSpec : ChangeSpec := { name := "fnExactOrderByCorner", fn := fun _ => fun
  | [d1, d2] => { results := [.lit (.bool true)], args := [d1, d2] }
  | _ => none }
def fnExactOrderByCornerRow : OpenClaim := { program := "ytfpigffkfiklmaa", sum := "8c38b9d3e836759468bf571abd670f9de445d50dc8ee478922f1911fff2ee4fe", func := "loop.example/g01351/laws.FnExactOrderByCorner", spec := "fnExactOrderByCorner", unfollowed := true, recurses := true, apart := false }
def FnExactOrderByCornerSaid : Prop := fnExactOrderByCornerRow.holds Try.pinned (OpenSpec.ofChange fnExactOrderByCornerSpec)

/-- ITS FALSE NEIGHBOUR: 'it returns false'. Refute it at one input. -/
def fnExactOrderByCornerWrong : ChangeSpec := { name := "fnExactOrderByCorner", fn := fun _ => fun
  | [d1, d2] => { results := [.lit (.bool false)], args := [d1, d2] }
  | _ => none }
def FnExactOrderByCornerWrongFalsely : Prop := fnExactOrderByCornerRow.holds Try.pinned (OpenSpec.ofChange fnExactOrderByCornerWrong)

/-- 'laws.FnExactRiseInCorridor': WHATEVER THE INPUT: true; the input reads as it did. -/
def fnExactRiseInCorridorSpec : ChangeSpec := { name := "fnExactRiseInCorridor", fn := fun _ => fun
  | [d1, d2, d3, d4, d5] => { results := [.lit (.bool true)], args := [d1, d2, d3, d4, d5] }
  | _ => none }
def fnExactRiseInCorridorRow : OpenClaim := { program := "ytfpigffkfiklmaa", sum := "8c38b9d3e836759468bf571abd670f9de445d50dc8ee478922f1911fff2ee4fe", func := "loop.example/g01351/laws.FnExactRiseInCorridor", spec := "fnExactRiseInCorridor", unfollowed := true, recurses := true, apart := false }
def FnExactRiseInCorridorSaid : Prop := fnExactRiseInCorridorRow.holds Try.pinned (OpenSpec.ofChange fnExactRiseInCorridorSpec)

/-- ITS FALSE NEIGHBOUR: 'it returns false'. Refute it at one input. -/
def fnExactRiseInCorridorWrong : ChangeSpec := { name := "fnExactRiseInCorridor", fn := fun _ => fun
  | [d1, d2, d3, d4, d5] => { results := [.lit (.bool false)], args := [d1, d2, d3, d4, d5] }
  | _ => none }
def FnExactRiseInCorridorWrongFalsely : Prop := fnExactRiseInCorridorRow.holds Try.pinned (OpenSpec.ofChange fnExactRiseInCorridorWrong)

/- THE SECOND FORM. 'bulk': how many values and letters a reading holds, each counted each time it is reached (what is shared counts as often as it is met; a slice's spare places count too). A statement '..UptoSaid' is the law's where the arguments, and the package variables that the reading takes, are together of bulk at most 1048576: NARROWER than '..Said'. Prove '..Said' where nothing that the law and all that it calls make is longer than what came in: it says more and counts as full. Else prove '..UptoSaid'. A law counts once. -/
mutual
def uptoBulk {H : Type} : DataW H → Nat
  | .lit (.string bytes) => bytes.length + 1
  | .lit _ => 1
  | .nil => 1
  | .ptr d => uptoBulk d + 1
  | .slice elems spare => uptoBulkAll elems + uptoBulkAll spare + 1
  | .agg parts => uptoBulkAll parts + 1
  | .iface _ d => uptoBulk d + 1
  | .map entries => uptoBulkEntries entries + 1
  | .held _ => 1
def uptoBulkAll {H : Type} : List (DataW H) → Nat
  | [] => 0
  | d :: r => uptoBulk d + uptoBulkAll r
def uptoBulkEntries {H : Type} : List (Lit × DataW H) → Nat
  | [] => 0
  | x :: r => uptoBulkEntry x + uptoBulkEntries r
def uptoBulkEntry {H : Type} : Lit × DataW H → Nat
  | (.string bytes, d) => bytes.length + uptoBulk d + 1
  | (_, d) => uptoBulk d + 1
 end
def uptoSmall : (H : Type) → List (DataW H) → Bool := fun _ ds => decide (uptoBulkAll ds ≤ 1048576)
def OpenSpec.upto (s : _root_.Go.ChangeSpec) : _root_.Go.OpenSpec := { _root_.Go.OpenSpec.ofChange s with cond := some uptoSmall }

/-- 'laws.FnExactIsSpot', WHERE WHAT IT READS IS OF BULK AT MOST 1048576: true; the input reads as it did. -/
def fnExactIsSpotUptoRow : OpenClaim := { program := "ytfpigffkfiklmaa", sum := "8c38b9d3e836759468bf571abd670f9de445d50dc8ee478922f1911fff2ee4fe", func := "loop.example/g01351/laws.FnExactIsSpot", spec := "fnExactIsSpot", apart := false, narrowed := true }
def FnExactIsSpotUptoSaid : Prop := fnExactIsSpotUptoRow.holds Try.pinned (OpenSpec.upto fnExactIsSpotSpec)

/-- 'laws.FnExactCanSeeAll', WHERE WHAT IT READS IS OF BULK AT MOST 1048576: true; the input reads as it did. -/
def fnExactCanSeeAllUptoRow : OpenClaim := { program := "ytfpigffkfiklmaa", sum := "8c38b9d3e836759468bf571abd670f9de445d50dc8ee478922f1911fff2ee4fe", func := "loop.example/g01351/laws.FnExactCanSeeAll", spec := "fnExactCanSeeAll", apart := false, narrowed := true }
def FnExactCanSeeAllUptoSaid : Prop := fnExactCanSeeAllUptoRow.holds Try.pinned (OpenSpec.upto fnExactCanSeeAllSpec)

/-- 'laws.FnExactTurnSpot', WHERE WHAT IT READS IS OF BULK AT MOST 1048576: true; the input reads as it did. -/
def fnExactTurnSpotUptoRow : OpenClaim := { program := "ytfpigffkfiklmaa", sum := "8c38b9d3e836759468bf571abd670f9de445d50dc8ee478922f1911fff2ee4fe", func := "loop.example/g01351/laws.FnExactTurnSpot", spec := "fnExactTurnSpot", apart := false, narrowed := true }
def FnExactTurnSpotUptoSaid : Prop := fnExactTurnSpotUptoRow.holds Try.pinned (OpenSpec.upto fnExactTurnSpotSpec)

/-- 'laws.FnExactMirrorFor', WHERE WHAT IT READS IS OF BULK AT MOST 1048576: true; the input reads as it did. -/
def fnExactMirrorForUptoRow : OpenClaim := { program := "ytfpigffkfiklmaa", sum := "8c38b9d3e836759468bf571abd670f9de445d50dc8ee478922f1911fff2ee4fe", func := "loop.example/g01351/laws.FnExactMirrorFor", spec := "fnExactMirrorFor", apart := false, narrowed := true }
def FnExactMirrorForUptoSaid : Prop := fnExactMirrorForUptoRow.holds Try.pinned (OpenSpec.upto fnExactMirrorForSpec)

/-- 'laws.FnExactSeenOfPerson', WHERE WHAT IT READS IS OF BULK AT MOST 1048576: true; the input reads as it did. -/
def fnExactSeenOfPersonUptoRow : OpenClaim := { program := "ytfpigffkfiklmaa", sum := "8c38b9d3e836759468bf571abd670f9de445d50dc8ee478922f1911fff2ee4fe", func := "loop.example/g01351/laws.FnExactSeenOfPerson", spec := "fnExactSeenOfPerson", apart := false, narrowed := true }
def FnExactSeenOfPersonUptoSaid : Prop := fnExactSeenOfPersonUptoRow.holds Try.pinned (OpenSpec.upto fnExactSeenOfPersonSpec)

/-- 'laws.FnExactSquareByMirror', WHERE WHAT IT READS IS OF BULK AT MOST 1048576: true; the input reads as it did. -/
def fnExactSquareByMirrorUptoRow : OpenClaim := { program := "ytfpigffkfiklmaa", sum := "8c38b9d3e836759468bf571abd670f9de445d50dc8ee478922f1911fff2ee4fe", func := "loop.example/g01351/laws.FnExactSquareByMirror", spec := "fnExactSquareByMirror", unfollowed := true, recurses := true, apart := false, narrowed := true }
def FnExactSquareByMirrorUptoSaid : Prop := fnExactSquareByMirrorUptoRow.holds Try.pinned (OpenSpec.upto fnExactSquareByMirrorSpec)

/-- 'laws.FnExactSquareStraight', WHERE WHAT IT READS IS OF BULK AT MOST 1048576: true; the input reads as it did. -/
def fnExactSquareStraightUptoRow : OpenClaim := { program := "ytfpigffkfiklmaa", sum := "8c38b9d3e836759468bf571abd670f9de445d50dc8ee478922f1911fff2ee4fe", func := "loop.example/g01351/laws.FnExactSquareStraight", spec := "fnExactSquareStraight", unfollowed := true, recurses := true, apart := false, narrowed := true }
def FnExactSquareStraightUptoSaid : Prop := fnExactSquareStraightUptoRow.holds Try.pinned (OpenSpec.upto fnExactSquareStraightSpec)

/-- 'laws.FnExactMoveSpot', WHERE WHAT IT READS IS OF BULK AT MOST 1048576: true; the input reads as it did. -/
def fnExactMoveSpotUptoRow : OpenClaim := { program := "ytfpigffkfiklmaa", sum := "8c38b9d3e836759468bf571abd670f9de445d50dc8ee478922f1911fff2ee4fe", func := "loop.example/g01351/laws.FnExactMoveSpot", spec := "fnExactMoveSpot", apart := false, narrowed := true }
def FnExactMoveSpotUptoSaid : Prop := fnExactMoveSpotUptoRow.holds Try.pinned (OpenSpec.upto fnExactMoveSpotSpec)

/-- 'laws.FnExactSquareByCorner', WHERE WHAT IT READS IS OF BULK AT MOST 1048576: true; the input reads as it did. -/
def fnExactSquareByCornerUptoRow : OpenClaim := { program := "ytfpigffkfiklmaa", sum := "8c38b9d3e836759468bf571abd670f9de445d50dc8ee478922f1911fff2ee4fe", func := "loop.example/g01351/laws.FnExactSquareByCorner", spec := "fnExactSquareByCorner", unfollowed := true, recurses := true, apart := false, narrowed := true }
def FnExactSquareByCornerUptoSaid : Prop := fnExactSquareByCornerUptoRow.holds Try.pinned (OpenSpec.upto fnExactSquareByCornerSpec)

/-- 'laws.FnExactHeightForTouch', WHERE WHAT IT READS IS OF BULK AT MOST 1048576: true; the input reads as it did. -/
def fnExactHeightForTouchUptoRow : OpenClaim := { program := "ytfpigffkfiklmaa", sum := "8c38b9d3e836759468bf571abd670f9de445d50dc8ee478922f1911fff2ee4fe", func := "loop.example/g01351/laws.FnExactHeightForTouch", spec := "fnExactHeightForTouch", apart := false, narrowed := true }
def FnExactHeightForTouchUptoSaid : Prop := fnExactHeightForTouchUptoRow.holds Try.pinned (OpenSpec.upto fnExactHeightForTouchSpec)

/-- 'laws.FnExactOrderByCorner', WHERE WHAT IT READS IS OF BULK AT MOST 1048576: true; the input reads as it did. -/
def fnExactOrderByCornerUptoRow : OpenClaim := { program := "ytfpigffkfiklmaa", sum := "8c38b9d3e836759468bf571abd670f9de445d50dc8ee478922f1911fff2ee4fe", func := "loop.example/g01351/laws.FnExactOrderByCorner", spec := "fnExactOrderByCorner", unfollowed := true, recurses := true, apart := false, narrowed := true }
def FnExactOrderByCornerUptoSaid : Prop := fnExactOrderByCornerUptoRow.holds Try.pinned (OpenSpec.upto fnExactOrderByCornerSpec)

/-- 'laws.FnExactRiseInCorridor', WHERE WHAT IT READS IS OF BULK AT MOST 1048576: true; the input reads as it did. -/
def fnExactRiseInCorridorUptoRow : OpenClaim := { program := "ytfpigffkfiklmaa", sum := "8c38b9d3e836759468bf571abd670f9de445d50dc8ee478922f1911fff2ee4fe", func := "loop.example/g01351/laws.FnExactRiseInCorridor", spec := "fnExactRiseInCorridor", unfollowed := true, recurses := true, apart := false, narrowed := true }
def FnExactRiseInCorridorUptoSaid : Prop := fnExactRiseInCorridorUptoRow.holds Try.pinned (OpenSpec.upto fnExactRiseInCorridorSpec)

end Rows
end Go.Proofs.Ytfpigffkfiklmaa
