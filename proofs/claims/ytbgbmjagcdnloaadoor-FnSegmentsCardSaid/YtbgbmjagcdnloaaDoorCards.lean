/-
  DERIVED. GIVEN WITH THE SEED: THE CARDS: each row of YtbgbmjagcdnloaaDoorRows.lean that lists a variable, with what it lists TIED to the program's text (the seventh form; the later family's looks); each row that meets fmt, with fmt's text TOLD by the authors' own Lean function (tested against real Go, not proved from fmt's source: count such statements apart). THE CARD IS WHAT COUNTS. Prove the row's statement (the work); the ties are given (YtbgbmjagcdnloaaDoorTie.lean); close each card by the builder's one call (the guide's Derived/Test/ToyasCard.lean, 'card_holds'). Laid BY PROGRAM, IN A SANDBOX (cutbox-door.mjs). By AI agents, Wed Nov 11 2026. No macro, syntax, notation, axiom, sorry.
-/
import Derived.Test.YtbgbmjagcdnloaaDoorRows
import GoSem.ClaimSeven
namespace Go.Proofs.YtbgbmjagcdnloaaDoor
namespace Rows

/-- THE TIED CARD OF 'laws.FnSegments'. -/
def fnSegmentsCard : Claim7 := { stood := { row := fnSegmentsRow, standIns := [], harness := (true, "4644b058e210e5fb8afd543308e52dcd5cc94ea1842777525c8fcf2782e1d89e"), looks := false }, kinds := [], alts := [], laidByText := true, laidKinds := [.data, .data, .data], laidTests := true, laidLooks := .later }
def FnSegmentsCardSaid : Prop := Claim7.holds Tryd.pinned (.plain (OpenSpec.ofChange fnSegmentsSpec)) fnSegmentsCard

/-- THE SECOND FORM's CARD OF 'laws.FnSegments'. -/
def fnSegmentsUptoCard : Claim7 := { stood := { row := fnSegmentsUptoRow, standIns := [], harness := (true, "4644b058e210e5fb8afd543308e52dcd5cc94ea1842777525c8fcf2782e1d89e"), looks := false }, kinds := [], alts := [], laidByText := true, laidKinds := [.data, .data, .data], laidTests := true, laidLooks := .later }
def FnSegmentsUptoCardSaid : Prop := Claim7.holds Tryd.pinned (.plain (OpenSpec.upto fnSegmentsSpec)) fnSegmentsUptoCard
end Rows
end Go.Proofs.YtbgbmjagcdnloaaDoor
