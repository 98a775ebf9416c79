/-
  No cell of these rows narrows 'for every input' (looked for: loops, veiled, ifaces, maps, wideKeys, modest, calm, conditions, laid).
  DERIVED. THE GIVEN ROWS OF THIS SEAT. 9 by the template 'for every input the law returns true; each argument reads behind the call as it read before'; 0 by the template 'total and deterministic' (their statements: YtgepcafeldhncaaTotals.lean).
  GIVEN WITH THE SEED: the statements are not yours to turn. If you find one false, say at which input.
  Laid BY PROGRAM, IN A SANDBOX (cutbox-rows.mjs): the forced cells as the released guide's own fill.sh prints them over the translation e2ff2b3344fad340… (all of the seat's roots in one cut). By AI agents, Wed Nov 11 2026. No macro, syntax, notation, axiom, sorry.
-/
import Derived.Test.YtgepcafeldhncaaChecked
import GoSem.Claim
import GoSem.ClaimJoined
import GoSem.ClaimMapViews
import Derived.JoinedTies
import Derived.KernelRfl
namespace Go.Proofs.Ytgepcafeldhncaa
/- THE CELL 'sum', in the pinned program and in every row, IS THE sha256 OF THE DUMP (.gsa) THAT YtgepcafeldhncaaProg.lean LOADS. Nothing in Lean hashes anything: it is a label: what it is worth is what the hold of that sum in a sandbox is worth. -/
noncomputable def Try.pinned : Pinned := { name := "ytgepcafeldhncaa", sum := "e2ff2b3344fad3402786b4989df8e6cf6b45d45cf3384a4c2743e86dc1aae03d", checked := Try.checked }
namespace Rows
def none {H : Type} : Left H := { results := [], args := [] }

/-- 'laws.FnExactAnglesFor': WHATEVER THE INPUT: true; the input reads as it did. -/
def fnExactAnglesForSpec : ChangeSpec := { name := "fnExactAnglesFor", fn := fun _ => fun
  | [d] => { results := [.lit (.bool true)], args := [d] }
  | _ => none }
def fnExactAnglesForRow : OpenClaim := { program := "ytgepcafeldhncaa", sum := "e2ff2b3344fad3402786b4989df8e6cf6b45d45cf3384a4c2743e86dc1aae03d", func := "loop.example/g01351/laws.FnExactAnglesFor", spec := "fnExactAnglesFor", apart := false }
def FnExactAnglesForSaid : Prop := fnExactAnglesForRow.holds Try.pinned (OpenSpec.ofChange fnExactAnglesForSpec)

/-- ITS FALSE NEIGHBOUR: 'it returns false'. Refute it at one input. -/
def fnExactAnglesForWrong : ChangeSpec := { name := "fnExactAnglesFor", fn := fun _ => fun
  | [d] => { results := [.lit (.bool false)], args := [d] }
  | _ => none }
def FnExactAnglesForWrongFalsely : Prop := fnExactAnglesForRow.holds Try.pinned (OpenSpec.ofChange fnExactAnglesForWrong)

/-- 'laws.FnExactWedgeSteps': WHATEVER THE INPUT: true; the input reads as it did. -/
def fnExactWedgeStepsSpec : ChangeSpec := { name := "fnExactWedgeSteps", fn := fun _ => fun
  | [d1, d2, d3] => { results := [.lit (.bool true)], args := [d1, d2, d3] }
  | _ => none }
def fnExactWedgeStepsRow : OpenClaim := { program := "ytgepcafeldhncaa", sum := "e2ff2b3344fad3402786b4989df8e6cf6b45d45cf3384a4c2743e86dc1aae03d", func := "loop.example/g01351/laws.FnExactWedgeSteps", spec := "fnExactWedgeSteps", apart := false }
def FnExactWedgeStepsSaid : Prop := fnExactWedgeStepsRow.holds Try.pinned (OpenSpec.ofChange fnExactWedgeStepsSpec)

/-- ITS FALSE NEIGHBOUR: 'it returns false'. Refute it at one input. -/
def fnExactWedgeStepsWrong : ChangeSpec := { name := "fnExactWedgeSteps", fn := fun _ => fun
  | [d1, d2, d3] => { results := [.lit (.bool false)], args := [d1, d2, d3] }
  | _ => none }
def FnExactWedgeStepsWrongFalsely : Prop := fnExactWedgeStepsRow.holds Try.pinned (OpenSpec.ofChange fnExactWedgeStepsWrong)

/-- 'laws.FnExactCountWedge': WHATEVER THE INPUT: true; the input reads as it did. -/
def fnExactCountWedgeSpec : ChangeSpec := { name := "fnExactCountWedge", fn := fun _ => fun
  | [d1, d2] => { results := [.lit (.bool true)], args := [d1, d2] }
  | _ => none }
def fnExactCountWedgeRow : OpenClaim := { program := "ytgepcafeldhncaa", sum := "e2ff2b3344fad3402786b4989df8e6cf6b45d45cf3384a4c2743e86dc1aae03d", func := "loop.example/g01351/laws.FnExactCountWedge", spec := "fnExactCountWedge", apart := false }
def FnExactCountWedgeSaid : Prop := fnExactCountWedgeRow.holds Try.pinned (OpenSpec.ofChange fnExactCountWedgeSpec)

/-- ITS FALSE NEIGHBOUR: 'it returns false'. Refute it at one input. -/
def fnExactCountWedgeWrong : ChangeSpec := { name := "fnExactCountWedge", fn := fun _ => fun
  | [d1, d2] => { results := [.lit (.bool false)], args := [d1, d2] }
  | _ => none }
def FnExactCountWedgeWrongFalsely : Prop := fnExactCountWedgeRow.holds Try.pinned (OpenSpec.ofChange fnExactCountWedgeWrong)

/-- 'laws.FnExactWedgeImages': WHATEVER THE INPUT: true; the input reads as it did. -/
def fnExactWedgeImagesSpec : ChangeSpec := { name := "fnExactWedgeImages", fn := fun _ => fun
  | [d1, d2] => { results := [.lit (.bool true)], args := [d1, d2] }
  | _ => none }
def fnExactWedgeImagesRow : OpenClaim := { program := "ytgepcafeldhncaa", sum := "e2ff2b3344fad3402786b4989df8e6cf6b45d45cf3384a4c2743e86dc1aae03d", func := "loop.example/g01351/laws.FnExactWedgeImages", spec := "fnExactWedgeImages", apart := false }
def FnExactWedgeImagesSaid : Prop := fnExactWedgeImagesRow.holds Try.pinned (OpenSpec.ofChange fnExactWedgeImagesSpec)

/-- ITS FALSE NEIGHBOUR: 'it returns false'. Refute it at one input. -/
def fnExactWedgeImagesWrong : ChangeSpec := { name := "fnExactWedgeImages", fn := fun _ => fun
  | [d1, d2] => { results := [.lit (.bool false)], args := [d1, d2] }
  | _ => none }
def FnExactWedgeImagesWrongFalsely : Prop := fnExactWedgeImagesRow.holds Try.pinned (OpenSpec.ofChange fnExactWedgeImagesWrong)

/-- 'laws.FnExactWordOfImage': WHATEVER THE INPUT: true; the input reads as it did. -/
def fnExactWordOfImageSpec : ChangeSpec := { name := "fnExactWordOfImage", fn := fun _ => fun
  | [d1, d2, d3] => { results := [.lit (.bool true)], args := [d1, d2, d3] }
  | _ => none }
def fnExactWordOfImageRow : OpenClaim := { program := "ytgepcafeldhncaa", sum := "e2ff2b3344fad3402786b4989df8e6cf6b45d45cf3384a4c2743e86dc1aae03d", func := "loop.example/g01351/laws.FnExactWordOfImage", spec := "fnExactWordOfImage", inPlace := ["internal/abi.NoEscape", "internal/bytealg.MakeNoZero"], apart := false }
def FnExactWordOfImageSaid : Prop := fnExactWordOfImageRow.holds Try.pinned (OpenSpec.ofChange fnExactWordOfImageSpec)

/-- ITS FALSE NEIGHBOUR: 'it returns false'. Refute it at one input. -/
def fnExactWordOfImageWrong : ChangeSpec := { name := "fnExactWordOfImage", fn := fun _ => fun
  | [d1, d2, d3] => { results := [.lit (.bool false)], args := [d1, d2, d3] }
  | _ => none }
def FnExactWordOfImageWrongFalsely : Prop := fnExactWordOfImageRow.holds Try.pinned (OpenSpec.ofChange fnExactWordOfImageWrong)

/-- 'laws.FnExactCountNear': WHATEVER THE INPUT: true; the input reads as it did. -/
def fnExactCountNearSpec : ChangeSpec := { name := "fnExactCountNear", fn := fun _ => fun
  | [d1, d2, d3, d4] => { results := [.lit (.bool true)], args := [d1, d2, d3, d4] }
  | _ => none }
def fnExactCountNearRow : OpenClaim := { program := "ytgepcafeldhncaa", sum := "e2ff2b3344fad3402786b4989df8e6cf6b45d45cf3384a4c2743e86dc1aae03d", func := "loop.example/g01351/laws.FnExactCountNear", spec := "fnExactCountNear", unfollowed := true, recurses := true, apart := false }
def FnExactCountNearSaid : Prop := fnExactCountNearRow.holds Try.pinned (OpenSpec.ofChange fnExactCountNearSpec)

/-- ITS FALSE NEIGHBOUR: 'it returns false'. Refute it at one input. -/
def fnExactCountNearWrong : ChangeSpec := { name := "fnExactCountNear", fn := fun _ => fun
  | [d1, d2, d3, d4] => { results := [.lit (.bool false)], args := [d1, d2, d3, d4] }
  | _ => none }
def FnExactCountNearWrongFalsely : Prop := fnExactCountNearRow.holds Try.pinned (OpenSpec.ofChange fnExactCountNearWrong)

/-- 'laws.FnExactNearestImage': WHATEVER THE INPUT: true; the input reads as it did. -/
def fnExactNearestImageSpec : ChangeSpec := { name := "fnExactNearestImage", fn := fun _ => fun
  | [d1, d2, d3] => { results := [.lit (.bool true)], args := [d1, d2, d3] }
  | _ => none }
def fnExactNearestImageRow : OpenClaim := { program := "ytgepcafeldhncaa", sum := "e2ff2b3344fad3402786b4989df8e6cf6b45d45cf3384a4c2743e86dc1aae03d", func := "loop.example/g01351/laws.FnExactNearestImage", spec := "fnExactNearestImage", unfollowed := true, recurses := true, apart := false }
def FnExactNearestImageSaid : Prop := fnExactNearestImageRow.holds Try.pinned (OpenSpec.ofChange fnExactNearestImageSpec)

/-- ITS FALSE NEIGHBOUR: 'it returns false'. Refute it at one input. -/
def fnExactNearestImageWrong : ChangeSpec := { name := "fnExactNearestImage", fn := fun _ => fun
  | [d1, d2, d3] => { results := [.lit (.bool false)], args := [d1, d2, d3] }
  | _ => none }
def FnExactNearestImageWrongFalsely : Prop := fnExactNearestImageRow.holds Try.pinned (OpenSpec.ofChange fnExactNearestImageWrong)

/-- 'laws.FnExactFarthestOf': WHATEVER THE INPUT: true; the input reads as it did. -/
def fnExactFarthestOfSpec : ChangeSpec := { name := "fnExactFarthestOf", fn := fun _ => fun
  | [d1, d2, d3, d4] => { results := [.lit (.bool true)], args := [d1, d2, d3, d4] }
  | _ => none }
def fnExactFarthestOfRow : OpenClaim := { program := "ytgepcafeldhncaa", sum := "e2ff2b3344fad3402786b4989df8e6cf6b45d45cf3384a4c2743e86dc1aae03d", func := "loop.example/g01351/laws.FnExactFarthestOf", spec := "fnExactFarthestOf", unfollowed := true, recurses := true, apart := false }
def FnExactFarthestOfSaid : Prop := fnExactFarthestOfRow.holds Try.pinned (OpenSpec.ofChange fnExactFarthestOfSpec)

/-- ITS FALSE NEIGHBOUR: 'it returns false'. Refute it at one input. -/
def fnExactFarthestOfWrong : ChangeSpec := { name := "fnExactFarthestOf", fn := fun _ => fun
  | [d1, d2, d3, d4] => { results := [.lit (.bool false)], args := [d1, d2, d3, d4] }
  | _ => none }
def FnExactFarthestOfWrongFalsely : Prop := fnExactFarthestOfRow.holds Try.pinned (OpenSpec.ofChange fnExactFarthestOfWrong)

/-- 'laws.FnExactImagesUpTo': WHATEVER THE INPUT: true; the input reads as it did. -/
def fnExactImagesUpToSpec : ChangeSpec := { name := "fnExactImagesUpTo", fn := fun _ => fun
  | [d1, d2, d3] => { results := [.lit (.bool true)], args := [d1, d2, d3] }
  | _ => none }
def fnExactImagesUpToRow : OpenClaim := { program := "ytgepcafeldhncaa", sum := "e2ff2b3344fad3402786b4989df8e6cf6b45d45cf3384a4c2743e86dc1aae03d", func := "loop.example/g01351/laws.FnExactImagesUpTo", spec := "fnExactImagesUpTo", inPlace := ["internal/abi.NoEscape", "internal/bytealg.MakeNoZero"], recurses := true, apart := false }
def FnExactImagesUpToSaid : Prop := fnExactImagesUpToRow.holds Try.pinned (OpenSpec.ofChange fnExactImagesUpToSpec)

/-- ITS FALSE NEIGHBOUR: 'it returns false'. Refute it at one input. -/
def fnExactImagesUpToWrong : ChangeSpec := { name := "fnExactImagesUpTo", fn := fun _ => fun
  | [d1, d2, d3] => { results := [.lit (.bool false)], args := [d1, d2, d3] }
  | _ => none }
def FnExactImagesUpToWrongFalsely : Prop := fnExactImagesUpToRow.holds Try.pinned (OpenSpec.ofChange fnExactImagesUpToWrong)

/- THE SECOND FORM. 'bulk': how many values and letters a reading holds, each counted each time it is reached (what is shared counts as often as it is met; a slice's spare places count too). A statement '..UptoSaid' is the law's where the arguments, and the package variables that the reading takes, are together of bulk at most 1048576: NARROWER than '..Said'. Prove '..Said' where nothing that the law and all that it calls make is longer than what came in: it says more and counts as full. Else prove '..UptoSaid'. A law counts once. -/
mutual
def uptoBulk {H : Type} : DataW H → Nat
  | .lit (.string bytes) => bytes.length + 1
  | .lit _ => 1
  | .nil => 1
  | .ptr d => uptoBulk d + 1
  | .slice elems spare => uptoBulkAll elems + uptoBulkAll spare + 1
  | .agg parts => uptoBulkAll parts + 1
  | .iface _ d => uptoBulk d + 1
  | .map entries => uptoBulkEntries entries + 1
  | .held _ => 1
def uptoBulkAll {H : Type} : List (DataW H) → Nat
  | [] => 0
  | d :: r => uptoBulk d + uptoBulkAll r
def uptoBulkEntries {H : Type} : List (Lit × DataW H) → Nat
  | [] => 0
  | x :: r => uptoBulkEntry x + uptoBulkEntries r
def uptoBulkEntry {H : Type} : Lit × DataW H → Nat
  | (.string bytes, d) => bytes.length + uptoBulk d + 1
  | (_, d) => uptoBulk d + 1
 end
def uptoSmall : (H : Type) → List (DataW H) → Bool := fun _ ds => decide (uptoBulkAll ds ≤ 1048576)
def OpenSpec.upto (s : _root_.Go.ChangeSpec) : _root_.Go.OpenSpec := { _root_.Go.OpenSpec.ofChange s with cond := some uptoSmall }

/-- 'laws.FnExactAnglesFor', WHERE WHAT IT READS IS OF BULK AT MOST 1048576: true; the input reads as it did. -/
def fnExactAnglesForUptoRow : OpenClaim := { program := "ytgepcafeldhncaa", sum := "e2ff2b3344fad3402786b4989df8e6cf6b45d45cf3384a4c2743e86dc1aae03d", func := "loop.example/g01351/laws.FnExactAnglesFor", spec := "fnExactAnglesFor", apart := false, narrowed := true }
def FnExactAnglesForUptoSaid : Prop := fnExactAnglesForUptoRow.holds Try.pinned (OpenSpec.upto fnExactAnglesForSpec)

/-- 'laws.FnExactWedgeSteps', WHERE WHAT IT READS IS OF BULK AT MOST 1048576: true; the input reads as it did. -/
def fnExactWedgeStepsUptoRow : OpenClaim := { program := "ytgepcafeldhncaa", sum := "e2ff2b3344fad3402786b4989df8e6cf6b45d45cf3384a4c2743e86dc1aae03d", func := "loop.example/g01351/laws.FnExactWedgeSteps", spec := "fnExactWedgeSteps", apart := false, narrowed := true }
def FnExactWedgeStepsUptoSaid : Prop := fnExactWedgeStepsUptoRow.holds Try.pinned (OpenSpec.upto fnExactWedgeStepsSpec)

/-- 'laws.FnExactCountWedge', WHERE WHAT IT READS IS OF BULK AT MOST 1048576: true; the input reads as it did. -/
def fnExactCountWedgeUptoRow : OpenClaim := { program := "ytgepcafeldhncaa", sum := "e2ff2b3344fad3402786b4989df8e6cf6b45d45cf3384a4c2743e86dc1aae03d", func := "loop.example/g01351/laws.FnExactCountWedge", spec := "fnExactCountWedge", apart := false, narrowed := true }
def FnExactCountWedgeUptoSaid : Prop := fnExactCountWedgeUptoRow.holds Try.pinned (OpenSpec.upto fnExactCountWedgeSpec)

/-- 'laws.FnExactWedgeImages', WHERE WHAT IT READS IS OF BULK AT MOST 1048576: true; the input reads as it did. -/
def fnExactWedgeImagesUptoRow : OpenClaim := { program := "ytgepcafeldhncaa", sum := "e2ff2b3344fad3402786b4989df8e6cf6b45d45cf3384a4c2743e86dc1aae03d", func := "loop.example/g01351/laws.FnExactWedgeImages", spec := "fnExactWedgeImages", apart := false, narrowed := true }
def FnExactWedgeImagesUptoSaid : Prop := fnExactWedgeImagesUptoRow.holds Try.pinned (OpenSpec.upto fnExactWedgeImagesSpec)

/-- 'laws.FnExactWordOfImage', WHERE WHAT IT READS IS OF BULK AT MOST 1048576: true; the input reads as it did. -/
def fnExactWordOfImageUptoRow : OpenClaim := { program := "ytgepcafeldhncaa", sum := "e2ff2b3344fad3402786b4989df8e6cf6b45d45cf3384a4c2743e86dc1aae03d", func := "loop.example/g01351/laws.FnExactWordOfImage", spec := "fnExactWordOfImage", inPlace := ["internal/abi.NoEscape", "internal/bytealg.MakeNoZero"], apart := false, narrowed := true }
def FnExactWordOfImageUptoSaid : Prop := fnExactWordOfImageUptoRow.holds Try.pinned (OpenSpec.upto fnExactWordOfImageSpec)

/-- 'laws.FnExactCountNear', WHERE WHAT IT READS IS OF BULK AT MOST 1048576: true; the input reads as it did. -/
def fnExactCountNearUptoRow : OpenClaim := { program := "ytgepcafeldhncaa", sum := "e2ff2b3344fad3402786b4989df8e6cf6b45d45cf3384a4c2743e86dc1aae03d", func := "loop.example/g01351/laws.FnExactCountNear", spec := "fnExactCountNear", unfollowed := true, recurses := true, apart := false, narrowed := true }
def FnExactCountNearUptoSaid : Prop := fnExactCountNearUptoRow.holds Try.pinned (OpenSpec.upto fnExactCountNearSpec)

/-- 'laws.FnExactNearestImage', WHERE WHAT IT READS IS OF BULK AT MOST 1048576: true; the input reads as it did. -/
def fnExactNearestImageUptoRow : OpenClaim := { program := "ytgepcafeldhncaa", sum := "e2ff2b3344fad3402786b4989df8e6cf6b45d45cf3384a4c2743e86dc1aae03d", func := "loop.example/g01351/laws.FnExactNearestImage", spec := "fnExactNearestImage", unfollowed := true, recurses := true, apart := false, narrowed := true }
def FnExactNearestImageUptoSaid : Prop := fnExactNearestImageUptoRow.holds Try.pinned (OpenSpec.upto fnExactNearestImageSpec)

/-- 'laws.FnExactFarthestOf', WHERE WHAT IT READS IS OF BULK AT MOST 1048576: true; the input reads as it did. -/
def fnExactFarthestOfUptoRow : OpenClaim := { program := "ytgepcafeldhncaa", sum := "e2ff2b3344fad3402786b4989df8e6cf6b45d45cf3384a4c2743e86dc1aae03d", func := "loop.example/g01351/laws.FnExactFarthestOf", spec := "fnExactFarthestOf", unfollowed := true, recurses := true, apart := false, narrowed := true }
def FnExactFarthestOfUptoSaid : Prop := fnExactFarthestOfUptoRow.holds Try.pinned (OpenSpec.upto fnExactFarthestOfSpec)

/-- 'laws.FnExactImagesUpTo', WHERE WHAT IT READS IS OF BULK AT MOST 1048576: true; the input reads as it did. -/
def fnExactImagesUpToUptoRow : OpenClaim := { program := "ytgepcafeldhncaa", sum := "e2ff2b3344fad3402786b4989df8e6cf6b45d45cf3384a4c2743e86dc1aae03d", func := "loop.example/g01351/laws.FnExactImagesUpTo", spec := "fnExactImagesUpTo", inPlace := ["internal/abi.NoEscape", "internal/bytealg.MakeNoZero"], recurses := true, apart := false, narrowed := true }
def FnExactImagesUpToUptoSaid : Prop := fnExactImagesUpToUptoRow.holds Try.pinned (OpenSpec.upto fnExactImagesUpToSpec)

end Rows
end Go.Proofs.Ytgepcafeldhncaa
