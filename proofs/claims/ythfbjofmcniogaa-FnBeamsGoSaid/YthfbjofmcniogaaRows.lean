/-
  No cell of these rows narrows 'for every input' (looked for: loops, veiled, ifaces, maps, wideKeys, modest, calm, conditions, laid).
  DERIVED. THE GIVEN ROWS OF THIS SEAT. 4 by the template 'for every input the law returns true; each argument reads behind the call as it read before'; 0 by the template 'total and deterministic' (their statements: YthfbjofmcniogaaTotals.lean).
  GIVEN WITH THE SEED: the statements are not yours to turn. If you find one false, say at which input.
  Laid BY PROGRAM, IN A SANDBOX (cutbox-rows.mjs): the forced cells as the released guide's own fill.sh prints them over the translation bba6d65d4d9c8996… (all of the seat's roots in one cut). By AI agents, Wed Nov 11 2026. No macro, syntax, notation, axiom, sorry.
-/
import Derived.Test.YthfbjofmcniogaaChecked
import GoSem.Claim
import GoSem.ClaimJoined
import GoSem.ClaimMapViews
import Derived.JoinedTies
import Derived.KernelRfl
namespace Go.Proofs.Ythfbjofmcniogaa
/- THE CELL 'sum', in the pinned program and in every row, IS THE sha256 OF THE DUMP (.gsa) THAT YthfbjofmcniogaaProg.lean LOADS. Nothing in Lean hashes anything: it is a label: what it is worth is what the hold of that sum in a sandbox is worth. -/
noncomputable def Try.pinned : Pinned := { name := "ythfbjofmcniogaa", sum := "bba6d65d4d9c89969d5a5d2a82f43b7ea9a7ef631a301ff84fd5092ab87bf6d6", checked := Try.checked }
namespace Rows
def none {H : Type} : Left H := { results := [], args := [] }

/-- 'laws.FnExactCountPlaces': WHATEVER THE INPUT: true; the input reads as it did. -/
def fnExactCountPlacesSpec : ChangeSpec := { name := "fnExactCountPlaces", fn := fun _ => fun
  | [d1, d2] => { results := [.lit (.bool true)], args := [d1, d2] }
  | _ => none }
def fnExactCountPlacesRow : OpenClaim := { program := "ythfbjofmcniogaa", sum := "bba6d65d4d9c89969d5a5d2a82f43b7ea9a7ef631a301ff84fd5092ab87bf6d6", func := "loop.example/g01351/laws.FnExactCountPlaces", spec := "fnExactCountPlaces", unfollowed := true, recurses := true, plainKeys := false, apart := false }
def FnExactCountPlacesSaid : Prop := fnExactCountPlacesRow.holds Try.pinned (OpenSpec.ofChange fnExactCountPlacesSpec)

/-- ITS FALSE NEIGHBOUR: 'it returns false'. Refute it at one input. -/
def fnExactCountPlacesWrong : ChangeSpec := { name := "fnExactCountPlaces", fn := fun _ => fun
  | [d1, d2] => { results := [.lit (.bool false)], args := [d1, d2] }
  | _ => none }
def FnExactCountPlacesWrongFalsely : Prop := fnExactCountPlacesRow.holds Try.pinned (OpenSpec.ofChange fnExactCountPlacesWrong)

/-- 'laws.FnExactCountCrossings': WHATEVER THE INPUT: true; the input reads as it did. -/
def fnExactCountCrossingsSpec : ChangeSpec := { name := "fnExactCountCrossings", fn := fun _ => fun
  | [d1, d2] => { results := [.lit (.bool true)], args := [d1, d2] }
  | _ => none }
def fnExactCountCrossingsRow : OpenClaim := { program := "ythfbjofmcniogaa", sum := "bba6d65d4d9c89969d5a5d2a82f43b7ea9a7ef631a301ff84fd5092ab87bf6d6", func := "loop.example/g01351/laws.FnExactCountCrossings", spec := "fnExactCountCrossings", unfollowed := true, recurses := true, plainKeys := false, apart := false }
def FnExactCountCrossingsSaid : Prop := fnExactCountCrossingsRow.holds Try.pinned (OpenSpec.ofChange fnExactCountCrossingsSpec)

/-- ITS FALSE NEIGHBOUR: 'it returns false'. Refute it at one input. -/
def fnExactCountCrossingsWrong : ChangeSpec := { name := "fnExactCountCrossings", fn := fun _ => fun
  | [d1, d2] => { results := [.lit (.bool false)], args := [d1, d2] }
  | _ => none }
def FnExactCountCrossingsWrongFalsely : Prop := fnExactCountCrossingsRow.holds Try.pinned (OpenSpec.ofChange fnExactCountCrossingsWrong)

/-- 'laws.FnBeamsGoOfAll': WHATEVER THE INPUT: true; the input reads as it did. -/
def fnBeamsGoOfAllSpec : ChangeSpec := { name := "fnBeamsGoOfAll", fn := fun _ => fun
  | [d1, d2, d3, d4, d5, d6, d7, d8, d9, d10] => { results := [.lit (.bool true)], args := [d1, d2, d3, d4, d5, d6, d7, d8, d9, d10] }
  | _ => none }
def fnBeamsGoOfAllRow : OpenClaim := { program := "ythfbjofmcniogaa", sum := "bba6d65d4d9c89969d5a5d2a82f43b7ea9a7ef631a301ff84fd5092ab87bf6d6", func := "loop.example/g01351/laws.FnBeamsGoOfAll", spec := "fnBeamsGoOfAll", unfollowed := true, recurses := true, plainKeys := false, apart := false }
def FnBeamsGoOfAllSaid : Prop := fnBeamsGoOfAllRow.holds Try.pinned (OpenSpec.ofChange fnBeamsGoOfAllSpec)

/-- ITS FALSE NEIGHBOUR: 'it returns false'. Refute it at one input. -/
def fnBeamsGoOfAllWrong : ChangeSpec := { name := "fnBeamsGoOfAll", fn := fun _ => fun
  | [d1, d2, d3, d4, d5, d6, d7, d8, d9, d10] => { results := [.lit (.bool false)], args := [d1, d2, d3, d4, d5, d6, d7, d8, d9, d10] }
  | _ => none }
def FnBeamsGoOfAllWrongFalsely : Prop := fnBeamsGoOfAllRow.holds Try.pinned (OpenSpec.ofChange fnBeamsGoOfAllWrong)

/-- 'laws.FnBeamsGo': WHATEVER THE INPUT: true; the input reads as it did. -/
def fnBeamsGoSpec : ChangeSpec := { name := "fnBeamsGo", fn := fun _ => fun
  | [d1, d2] => { results := [.lit (.bool true)], args := [d1, d2] }
  | _ => none }
def fnBeamsGoRow : OpenClaim := { program := "ythfbjofmcniogaa", sum := "bba6d65d4d9c89969d5a5d2a82f43b7ea9a7ef631a301ff84fd5092ab87bf6d6", func := "loop.example/g01351/laws.FnBeamsGo", spec := "fnBeamsGo", unfollowed := true, recurses := true, plainKeys := false, apart := false }
def FnBeamsGoSaid : Prop := fnBeamsGoRow.holds Try.pinned (OpenSpec.ofChange fnBeamsGoSpec)

/-- ITS FALSE NEIGHBOUR: 'it returns false'. Refute it at one input. -/
def fnBeamsGoWrong : ChangeSpec := { name := "fnBeamsGo", fn := fun _ => fun
  | [d1, d2] => { results := [.lit (.bool false)], args := [d1, d2] }
  | _ => none }
def FnBeamsGoWrongFalsely : Prop := fnBeamsGoRow.holds Try.pinned (OpenSpec.ofChange fnBeamsGoWrong)

/- THE SECOND FORM. 'bulk': how many values and letters a reading holds, each counted each time it is reached (what is shared counts as often as it is met; a slice's spare places count too). A statement '..UptoSaid' is the law's where the arguments, and the package variables that the reading takes, are together of bulk at most 1048576: NARROWER than '..Said'. Prove '..Said' where nothing that the law and all that it calls make is longer than what came in: it says more and counts as full. Else prove '..UptoSaid'. A law counts once. -/
mutual
def uptoBulk {H : Type} : DataW H → Nat
  | .lit (.string bytes) => bytes.length + 1
  | .lit _ => 1
  | .nil => 1
  | .ptr d => uptoBulk d + 1
  | .slice elems spare => uptoBulkAll elems + uptoBulkAll spare + 1
  | .agg parts => uptoBulkAll parts + 1
  | .iface _ d => uptoBulk d + 1
  | .map entries => uptoBulkEntries entries + 1
  | .held _ => 1
def uptoBulkAll {H : Type} : List (DataW H) → Nat
  | [] => 0
  | d :: r => uptoBulk d + uptoBulkAll r
def uptoBulkEntries {H : Type} : List (Lit × DataW H) → Nat
  | [] => 0
  | x :: r => uptoBulkEntry x + uptoBulkEntries r
def uptoBulkEntry {H : Type} : Lit × DataW H → Nat
  | (.string bytes, d) => bytes.length + uptoBulk d + 1
  | (_, d) => uptoBulk d + 1
 end
def uptoSmall : (H : Type) → List (DataW H) → Bool := fun _ ds => decide (uptoBulkAll ds ≤ 1048576)
def OpenSpec.upto (s : _root_.Go.ChangeSpec) : _root_.Go.OpenSpec := { _root_.Go.OpenSpec.ofChange s with cond := some uptoSmall }

/-- 'laws.FnExactCountPlaces', WHERE WHAT IT READS IS OF BULK AT MOST 1048576: true; the input reads as it did. -/
def fnExactCountPlacesUptoRow : OpenClaim := { program := "ythfbjofmcniogaa", sum := "bba6d65d4d9c89969d5a5d2a82f43b7ea9a7ef631a301ff84fd5092ab87bf6d6", func := "loop.example/g01351/laws.FnExactCountPlaces", spec := "fnExactCountPlaces", unfollowed := true, recurses := true, plainKeys := false, apart := false, narrowed := true }
def FnExactCountPlacesUptoSaid : Prop := fnExactCountPlacesUptoRow.holds Try.pinned (OpenSpec.upto fnExactCountPlacesSpec)

/-- 'laws.FnExactCountCrossings', WHERE WHAT IT READS IS OF BULK AT MOST 1048576: true; the input reads as it did. -/
def fnExactCountCrossingsUptoRow : OpenClaim := { program := "ythfbjofmcniogaa", sum := "bba6d65d4d9c89969d5a5d2a82f43b7ea9a7ef631a301ff84fd5092ab87bf6d6", func := "loop.example/g01351/laws.FnExactCountCrossings", spec := "fnExactCountCrossings", unfollowed := true, recurses := true, plainKeys := false, apart := false, narrowed := true }
def FnExactCountCrossingsUptoSaid : Prop := fnExactCountCrossingsUptoRow.holds Try.pinned (OpenSpec.upto fnExactCountCrossingsSpec)

/-- 'laws.FnBeamsGoOfAll', WHERE WHAT IT READS IS OF BULK AT MOST 1048576: true; the input reads as it did. -/
def fnBeamsGoOfAllUptoRow : OpenClaim := { program := "ythfbjofmcniogaa", sum := "bba6d65d4d9c89969d5a5d2a82f43b7ea9a7ef631a301ff84fd5092ab87bf6d6", func := "loop.example/g01351/laws.FnBeamsGoOfAll", spec := "fnBeamsGoOfAll", unfollowed := true, recurses := true, plainKeys := false, apart := false, narrowed := true }
def FnBeamsGoOfAllUptoSaid : Prop := fnBeamsGoOfAllUptoRow.holds Try.pinned (OpenSpec.upto fnBeamsGoOfAllSpec)

/-- 'laws.FnBeamsGo', WHERE WHAT IT READS IS OF BULK AT MOST 1048576: true; the input reads as it did. -/
def fnBeamsGoUptoRow : OpenClaim := { program := "ythfbjofmcniogaa", sum := "bba6d65d4d9c89969d5a5d2a82f43b7ea9a7ef631a301ff84fd5092ab87bf6d6", func := "loop.example/g01351/laws.FnBeamsGo", spec := "fnBeamsGo", unfollowed := true, recurses := true, plainKeys := false, apart := false, narrowed := true }
def FnBeamsGoUptoSaid : Prop := fnBeamsGoUptoRow.holds Try.pinned (OpenSpec.upto fnBeamsGoSpec)

end Rows
end Go.Proofs.Ythfbjofmcniogaa
