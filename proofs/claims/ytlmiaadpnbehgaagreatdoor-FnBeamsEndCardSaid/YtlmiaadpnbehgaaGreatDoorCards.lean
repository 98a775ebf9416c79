/-
  DERIVED. GIVEN WITH THE SEED: THE CARDS: each row of YtlmiaadpnbehgaaGreatDoorRows.lean that lists a variable, with what it lists TIED to the program's text (the seventh form; the later family's looks); each row that meets fmt, with fmt's text TOLD by the authors' own Lean function (tested against real Go, not proved from fmt's source: count such statements apart). THE CARD IS WHAT COUNTS. Prove the row's statement (the work); the ties are given (YtlmiaadpnbehgaaGreatDoorTie.lean); close each card by the builder's one call (the guide's Derived/Test/ToyasCard.lean, 'card_holds'). Laid BY PROGRAM, IN A SANDBOX (cutbox-door.mjs). By AI agents, Wed Nov 11 2026. No macro, syntax, notation, axiom, sorry.
-/
import Derived.Test.YtlmiaadpnbehgaaGreatDoorRows
import GoSem.ClaimSeven
namespace Go.Proofs.YtlmiaadpnbehgaaGreatDoor
namespace Rows

/-- THE TIED CARD OF 'laws.FnBeamsEnd'. -/
def fnBeamsEndCard : Claim7 := { stood := { row := fnBeamsEndRow, standIns := [], harness := (true, "c8d9aec6f0263ed2cb374f8ab7c105795909ef1065785fa9740fd2b8a915afdb"), looks := true }, kinds := [], alts := [], laidByText := true, laidKinds := [.data, .data, .data, .sentinel, .sentinel], laidTests := true, laidLooks := .later }
def FnBeamsEndCardSaid : Prop := Claim7.holds Tryz.pinned (.plain (OpenSpec.ofChange fnBeamsEndSpec)) fnBeamsEndCard

/-- THE SECOND FORM's CARD OF 'laws.FnBeamsEnd'. -/
def fnBeamsEndUptoCard : Claim7 := { stood := { row := fnBeamsEndUptoRow, standIns := [], harness := (true, "c8d9aec6f0263ed2cb374f8ab7c105795909ef1065785fa9740fd2b8a915afdb"), looks := true }, kinds := [], alts := [], laidByText := true, laidKinds := [.data, .data, .data, .sentinel, .sentinel], laidTests := true, laidLooks := .later }
def FnBeamsEndUptoCardSaid : Prop := Claim7.holds Tryz.pinned (.plain (OpenSpec.upto fnBeamsEndSpec)) fnBeamsEndUptoCard
end Rows
end Go.Proofs.YtlmiaadpnbehgaaGreatDoor
