/-
  DERIVED. GIVEN WITH THE SEED: THE CARDS: each row of YtlmiaadpnbehgaaDoorRows.lean that lists a variable, with what it lists TIED to the program's text (the seventh form; the later family's looks); each row that meets fmt, with fmt's text TOLD by the authors' own Lean function (tested against real Go, not proved from fmt's source: count such statements apart). THE CARD IS WHAT COUNTS. Prove the row's statement (the work); the ties are given (YtlmiaadpnbehgaaDoorTie.lean); close each card by the builder's one call (the guide's Derived/Test/ToyasCard.lean, 'card_holds'). Laid BY PROGRAM, IN A SANDBOX (cutbox-door.mjs). By AI agents, Wed Nov 11 2026. No macro, syntax, notation, axiom, sorry.
-/
import Derived.Test.YtlmiaadpnbehgaaDoorRows
import GoSem.ClaimSeven
namespace Go.Proofs.YtlmiaadpnbehgaaDoor
namespace Rows

/-- THE TIED CARD OF 'laws.FnBeamsEndOfAll'. -/
def fnBeamsEndOfAllCard : Claim7 := { stood := { row := fnBeamsEndOfAllRow, standIns := [], harness := (true, "fd23a192a261334ee270bf3f03a5ff6cefe47af6b2cbd0102a39e074dde4f845"), looks := true }, kinds := [], alts := [], laidByText := true, laidKinds := [.data, .data, .data, .sentinel, .sentinel], laidTests := true, laidLooks := .later }
def FnBeamsEndOfAllCardSaid : Prop := Claim7.holds Tryd.pinned (.plain (OpenSpec.ofChange fnBeamsEndOfAllSpec)) fnBeamsEndOfAllCard

/-- THE SECOND FORM's CARD OF 'laws.FnBeamsEndOfAll'. -/
def fnBeamsEndOfAllUptoCard : Claim7 := { stood := { row := fnBeamsEndOfAllUptoRow, standIns := [], harness := (true, "fd23a192a261334ee270bf3f03a5ff6cefe47af6b2cbd0102a39e074dde4f845"), looks := true }, kinds := [], alts := [], laidByText := true, laidKinds := [.data, .data, .data, .sentinel, .sentinel], laidTests := true, laidLooks := .later }
def FnBeamsEndOfAllUptoCardSaid : Prop := Claim7.holds Tryd.pinned (.plain (OpenSpec.upto fnBeamsEndOfAllSpec)) fnBeamsEndOfAllUptoCard
end Rows
end Go.Proofs.YtlmiaadpnbehgaaDoor
