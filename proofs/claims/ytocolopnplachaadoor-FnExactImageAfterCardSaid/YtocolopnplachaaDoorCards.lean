/-
  DERIVED. GIVEN WITH THE SEED: THE CARDS: each row of YtocolopnplachaaDoorRows.lean that lists a variable, with what it lists TIED to the program's text (the seventh form; the later family's looks); each row that meets fmt, with fmt's text TOLD by the authors' own Lean function (tested against real Go, not proved from fmt's source: count such statements apart). THE CARD IS WHAT COUNTS. Prove the row's statement (the work); the ties are given (YtocolopnplachaaDoorTie.lean); close each card by the builder's one call (the guide's Derived/Test/ToyasCard.lean, 'card_holds'). Laid BY PROGRAM, IN A SANDBOX (cutbox-door.mjs). By AI agents, Wed Nov 11 2026. No macro, syntax, notation, axiom, sorry.
-/
import Derived.Test.YtocolopnplachaaDoorRows
import GoSem.ClaimSeven
namespace Go.Proofs.YtocolopnplachaaDoor
namespace Rows

/-- THE TIED CARD OF 'laws.FnExactImageAfter'. -/
def fnExactImageAfterCard : Claim7 := { stood := { row := fnExactImageAfterRow, standIns := [], harness := (true, "19c56e6ba8beff8d11db160085989308b23c023d1d53051772273bbf06318874"), looks := false }, kinds := [], alts := [], laidByText := true, laidKinds := [.data, .pinned], laidTests := true, laidLooks := .later }
def FnExactImageAfterCardSaid : Prop := Claim7.holds Tryd.pinned (.plain (OpenSpec.ofChange fnExactImageAfterSpec)) fnExactImageAfterCard

/-- THE SECOND FORM's CARD OF 'laws.FnExactImageAfter'. -/
def fnExactImageAfterUptoCard : Claim7 := { stood := { row := fnExactImageAfterUptoRow, standIns := [], harness := (true, "19c56e6ba8beff8d11db160085989308b23c023d1d53051772273bbf06318874"), looks := false }, kinds := [], alts := [], laidByText := true, laidKinds := [.data, .pinned], laidTests := true, laidLooks := .later }
def FnExactImageAfterUptoCardSaid : Prop := Claim7.holds Tryd.pinned (.plain (OpenSpec.upto fnExactImageAfterSpec)) fnExactImageAfterUptoCard
end Rows
end Go.Proofs.YtocolopnplachaaDoor
