/-
  DERIVED. GIVEN WITH THE SEED: THE CARDS: each row of YtcfknhmdhglmfaaGreatDoorRows.lean that lists a variable, with what it lists TIED to the program's text (the seventh form; the later family's looks); each row that meets fmt, with fmt's text TOLD by the authors' own Lean function (tested against real Go, not proved from fmt's source: count such statements apart). THE CARD IS WHAT COUNTS. Prove the row's statement (the work); the ties are given (YtcfknhmdhglmfaaGreatDoorTie.lean); close each card by the builder's one call (the guide's Derived/Test/ToyasCard.lean, 'card_holds'). Laid BY PROGRAM, IN A SANDBOX (cutbox-door.mjs). By AI agents, Wed Nov 11 2026. No macro, syntax, notation, axiom, sorry.
-/
import Derived.Test.YtcfknhmdhglmfaaGreatDoorRows
import GoSem.ClaimSeven
namespace Go.Proofs.YtcfknhmdhglmfaaGreatDoor
namespace Rows

/-- THE TIED CARD OF 'laws.FnLaddersWhole'. -/
def fnLaddersWholeCard : Claim7 := { stood := { row := fnLaddersWholeRow, standIns := [], harness := (true, "7cdd72e78b0e625ab6eeec5f8703eac35979223bf0d2d7ff6de6f7abe4d63887"), looks := true }, kinds := [], alts := [], laidByText := true, laidKinds := [.data, .data, .data, .sentinel, .sentinel], laidTests := true, laidLooks := .later }
def FnLaddersWholeCardSaid : Prop := Claim7.holds Tryz.pinned (.plain (OpenSpec.ofChange fnLaddersWholeSpec)) fnLaddersWholeCard

/-- THE SECOND FORM's CARD OF 'laws.FnLaddersWhole'. -/
def fnLaddersWholeUptoCard : Claim7 := { stood := { row := fnLaddersWholeUptoRow, standIns := [], harness := (true, "7cdd72e78b0e625ab6eeec5f8703eac35979223bf0d2d7ff6de6f7abe4d63887"), looks := true }, kinds := [], alts := [], laidByText := true, laidKinds := [.data, .data, .data, .sentinel, .sentinel], laidTests := true, laidLooks := .later }
def FnLaddersWholeUptoCardSaid : Prop := Claim7.holds Tryz.pinned (.plain (OpenSpec.upto fnLaddersWholeSpec)) fnLaddersWholeUptoCard
end Rows
end Go.Proofs.YtcfknhmdhglmfaaGreatDoor
