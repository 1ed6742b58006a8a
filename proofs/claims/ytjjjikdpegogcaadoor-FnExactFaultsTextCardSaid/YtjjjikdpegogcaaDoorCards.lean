/-
  DERIVED. GIVEN WITH THE SEED: THE CARDS: each row of YtjjjikdpegogcaaDoorRows.lean that lists a variable, with what it lists TIED to the program's text (the seventh form; the later family's looks); each row that meets fmt, with fmt's text TOLD by the authors' own Lean function (tested against real Go, not proved from fmt's source: count such statements apart). THE CARD IS WHAT COUNTS. Prove the row's statement (the work); the ties are given (YtjjjikdpegogcaaDoorTie.lean); close each card by the builder's one call (the guide's Derived/Test/ToyasCard.lean, 'card_holds'). Laid BY PROGRAM, IN A SANDBOX (cutbox-door.mjs). By AI agents, Wed Nov 11 2026. No macro, syntax, notation, axiom, sorry.
-/
import Derived.Test.YtjjjikdpegogcaaDoorRows
import GoSem.ClaimSeven
namespace Go.Proofs.YtjjjikdpegogcaaDoor
namespace Rows

/-- THE TIED CARD OF 'laws.FnExactSegmentsText'. -/
def fnExactSegmentsTextCard : Claim7 := { stood := { row := fnExactSegmentsTextRow, standIns := [], harness := (true, "32cdc899004bc3d74e35d2bdc8510e056d52bd357aaee1a1eaf39b5262a57328"), looks := false }, kinds := [], alts := [], laidByText := true, laidKinds := [.data, .data, .data], laidTests := true, laidLooks := .later }
def FnExactSegmentsTextCardSaid : Prop := Claim7.holds Tryd.pinned (.plain (OpenSpec.ofChange fnExactSegmentsTextSpec)) fnExactSegmentsTextCard

/-- THE TIED CARD OF 'laws.FnExactFaultsText'. -/
def fnExactFaultsTextCard : Claim7 := { stood := { row := fnExactFaultsTextRow, standIns := [], harness := (true, "32cdc899004bc3d74e35d2bdc8510e056d52bd357aaee1a1eaf39b5262a57328"), looks := false }, kinds := [], alts := [], laidByText := true, laidKinds := [.data, .data, .data], laidTests := true, laidLooks := .later }
def FnExactFaultsTextCardSaid : Prop := Claim7.holds Tryd.pinned (.plain (OpenSpec.ofChange fnExactFaultsTextSpec)) fnExactFaultsTextCard

/-- THE TIED CARD OF 'laws.FnExactReaderText'. -/
def fnExactReaderTextCard : Claim7 := { stood := { row := fnExactReaderTextRow, standIns := [], harness := (true, "32cdc899004bc3d74e35d2bdc8510e056d52bd357aaee1a1eaf39b5262a57328"), looks := false }, kinds := [], alts := [], laidByText := true, laidKinds := [.data, .data, .data], laidTests := true, laidLooks := .later }
def FnExactReaderTextCardSaid : Prop := Claim7.holds Tryd.pinned (.plain (OpenSpec.ofChange fnExactReaderTextSpec)) fnExactReaderTextCard

/-- THE TIED CARD OF 'laws.FnExactPlayedText'. -/
def fnExactPlayedTextCard : Claim7 := { stood := { row := fnExactPlayedTextRow, standIns := [], harness := (true, "32cdc899004bc3d74e35d2bdc8510e056d52bd357aaee1a1eaf39b5262a57328"), looks := false }, kinds := [], alts := [], laidByText := true, laidKinds := [.data, .data, .data], laidTests := true, laidLooks := .later }
def FnExactPlayedTextCardSaid : Prop := Claim7.holds Tryd.pinned (.plain (OpenSpec.ofChange fnExactPlayedTextSpec)) fnExactPlayedTextCard

/-- THE SECOND FORM's CARD OF 'laws.FnExactSegmentsText'. -/
def fnExactSegmentsTextUptoCard : Claim7 := { stood := { row := fnExactSegmentsTextUptoRow, standIns := [], harness := (true, "32cdc899004bc3d74e35d2bdc8510e056d52bd357aaee1a1eaf39b5262a57328"), looks := false }, kinds := [], alts := [], laidByText := true, laidKinds := [.data, .data, .data], laidTests := true, laidLooks := .later }
def FnExactSegmentsTextUptoCardSaid : Prop := Claim7.holds Tryd.pinned (.plain (OpenSpec.upto fnExactSegmentsTextSpec)) fnExactSegmentsTextUptoCard

/-- THE SECOND FORM's CARD OF 'laws.FnExactFaultsText'. -/
def fnExactFaultsTextUptoCard : Claim7 := { stood := { row := fnExactFaultsTextUptoRow, standIns := [], harness := (true, "32cdc899004bc3d74e35d2bdc8510e056d52bd357aaee1a1eaf39b5262a57328"), looks := false }, kinds := [], alts := [], laidByText := true, laidKinds := [.data, .data, .data], laidTests := true, laidLooks := .later }
def FnExactFaultsTextUptoCardSaid : Prop := Claim7.holds Tryd.pinned (.plain (OpenSpec.upto fnExactFaultsTextSpec)) fnExactFaultsTextUptoCard

/-- THE SECOND FORM's CARD OF 'laws.FnExactReaderText'. -/
def fnExactReaderTextUptoCard : Claim7 := { stood := { row := fnExactReaderTextUptoRow, standIns := [], harness := (true, "32cdc899004bc3d74e35d2bdc8510e056d52bd357aaee1a1eaf39b5262a57328"), looks := false }, kinds := [], alts := [], laidByText := true, laidKinds := [.data, .data, .data], laidTests := true, laidLooks := .later }
def FnExactReaderTextUptoCardSaid : Prop := Claim7.holds Tryd.pinned (.plain (OpenSpec.upto fnExactReaderTextSpec)) fnExactReaderTextUptoCard

/-- THE SECOND FORM's CARD OF 'laws.FnExactPlayedText'. -/
def fnExactPlayedTextUptoCard : Claim7 := { stood := { row := fnExactPlayedTextUptoRow, standIns := [], harness := (true, "32cdc899004bc3d74e35d2bdc8510e056d52bd357aaee1a1eaf39b5262a57328"), looks := false }, kinds := [], alts := [], laidByText := true, laidKinds := [.data, .data, .data], laidTests := true, laidLooks := .later }
def FnExactPlayedTextUptoCardSaid : Prop := Claim7.holds Tryd.pinned (.plain (OpenSpec.upto fnExactPlayedTextSpec)) fnExactPlayedTextUptoCard
end Rows
end Go.Proofs.YtjjjikdpegogcaaDoor
