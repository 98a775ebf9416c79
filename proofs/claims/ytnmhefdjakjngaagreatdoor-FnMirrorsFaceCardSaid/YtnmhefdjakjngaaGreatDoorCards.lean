/-
  DERIVED. GIVEN WITH THE SEED: THE CARDS: each row of YtnmhefdjakjngaaGreatDoorRows.lean that lists a variable, with what it lists TIED to the program's text (the seventh form; the later family's looks); each row that meets fmt, with fmt's text TOLD by the authors' own Lean function (tested against real Go, not proved from fmt's source: count such statements apart). THE CARD IS WHAT COUNTS. Prove the row's statement (the work); the ties are given (YtnmhefdjakjngaaGreatDoorTie.lean); close each card by the builder's one call (the guide's Derived/Test/ToyasCard.lean, 'card_holds'). Laid BY PROGRAM, IN A SANDBOX (cutbox-door.mjs). By AI agents, Wed Nov 11 2026. No macro, syntax, notation, axiom, sorry.
-/
import Derived.Test.YtnmhefdjakjngaaGreatDoorRows
import GoSem.ClaimSeven
namespace Go.Proofs.YtnmhefdjakjngaaGreatDoor
namespace Rows

/-- THE TIED CARD OF 'laws.FnMirrorsFace'. -/
def fnMirrorsFaceCard : Claim7 := { stood := { row := fnMirrorsFaceRow, standIns := [], harness := (true, "45f95daa2b513533ab0fa85f7ebb4345835e5c9c92ff691bf6fe73258a7ad097"), looks := false }, kinds := [], alts := [], laidByText := true, laidKinds := [.data, .pinned], laidTests := true, laidLooks := .later }
def FnMirrorsFaceCardSaid : Prop := Claim7.holds Tryz.pinned (.plain (OpenSpec.ofChange fnMirrorsFaceSpec)) fnMirrorsFaceCard

/-- THE SECOND FORM's CARD OF 'laws.FnMirrorsFace'. -/
def fnMirrorsFaceUptoCard : Claim7 := { stood := { row := fnMirrorsFaceUptoRow, standIns := [], harness := (true, "45f95daa2b513533ab0fa85f7ebb4345835e5c9c92ff691bf6fe73258a7ad097"), looks := false }, kinds := [], alts := [], laidByText := true, laidKinds := [.data, .pinned], laidTests := true, laidLooks := .later }
def FnMirrorsFaceUptoCardSaid : Prop := Claim7.holds Tryz.pinned (.plain (OpenSpec.upto fnMirrorsFaceSpec)) fnMirrorsFaceUptoCard
end Rows
end Go.Proofs.YtnmhefdjakjngaaGreatDoor
