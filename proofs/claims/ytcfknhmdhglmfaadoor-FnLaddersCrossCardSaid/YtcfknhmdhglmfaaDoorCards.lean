/-
  DERIVED. GIVEN WITH THE SEED: THE CARDS: each row of YtcfknhmdhglmfaaDoorRows.lean that lists a variable, with what it lists TIED to the program's text (the seventh form; the later family's looks); each row that meets fmt, with fmt's text TOLD by the authors' own Lean function (tested against real Go, not proved from fmt's source: count such statements apart). THE CARD IS WHAT COUNTS. Prove the row's statement (the work); the ties are given (YtcfknhmdhglmfaaDoorTie.lean); close each card by the builder's one call (the guide's Derived/Test/ToyasCard.lean, 'card_holds'). Laid BY PROGRAM, IN A SANDBOX (cutbox-door.mjs). By AI agents, Wed Nov 11 2026. No macro, syntax, notation, axiom, sorry.
-/
import Derived.Test.YtcfknhmdhglmfaaDoorRows
import GoSem.ClaimSeven
namespace Go.Proofs.YtcfknhmdhglmfaaDoor
namespace Rows

/-- THE TIED CARD OF 'laws.FnLaddersCross'. -/
def fnLaddersCrossCard : Claim7 := { stood := { row := fnLaddersCrossRow, standIns := [], harness := (true, "992640e370ed626574586131d13732f2ab16430eca9e9100bccda02df3d3eaac"), looks := true }, kinds := [], alts := [], laidByText := true, laidKinds := [.data, .data, .data, .sentinel, .sentinel], laidTests := true, laidLooks := .later }
def FnLaddersCrossCardSaid : Prop := Claim7.holds Tryd.pinned (.plain (OpenSpec.ofChange fnLaddersCrossSpec)) fnLaddersCrossCard

/-- THE SECOND FORM's CARD OF 'laws.FnLaddersCross'. -/
def fnLaddersCrossUptoCard : Claim7 := { stood := { row := fnLaddersCrossUptoRow, standIns := [], harness := (true, "992640e370ed626574586131d13732f2ab16430eca9e9100bccda02df3d3eaac"), looks := true }, kinds := [], alts := [], laidByText := true, laidKinds := [.data, .data, .data, .sentinel, .sentinel], laidTests := true, laidLooks := .later }
def FnLaddersCrossUptoCardSaid : Prop := Claim7.holds Tryd.pinned (.plain (OpenSpec.upto fnLaddersCrossSpec)) fnLaddersCrossUptoCard
end Rows
end Go.Proofs.YtcfknhmdhglmfaaDoor
