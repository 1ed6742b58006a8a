/-
  DERIVED. GIVEN WITH THE SEED: THE CARDS: each row of YtjdkdbeenggfaaaDoorRows.lean that lists a variable, with what it lists TIED to the program's text (the seventh form; the later family's looks); each row that meets fmt, with fmt's text TOLD by the authors' own Lean function (tested against real Go, not proved from fmt's source: count such statements apart). THE CARD IS WHAT COUNTS. Prove the row's statement (the work); the ties are given (YtjdkdbeenggfaaaDoorTie.lean); close each card by the builder's one call (the guide's Derived/Test/ToyasCard.lean, 'card_holds'). Laid BY PROGRAM, IN A SANDBOX (cutbox-door.mjs). By AI agents, Wed Nov 11 2026. No macro, syntax, notation, axiom, sorry.
-/
import Derived.Test.YtjdkdbeenggfaaaDoorRows
import GoSem.ClaimSeven
namespace Go.Proofs.YtjdkdbeenggfaaaDoor
namespace Rows

/-- THE TIED CARD OF 'laws.FnExactPlayedText'. -/
def fnExactPlayedTextCard : Claim7 := { stood := { row := fnExactPlayedTextRow, standIns := [], harness := (true, "0b86df1e60adffe53bf040fa2c79c99f7866a8cd314790bc122da957fdbead44"), looks := false }, kinds := [], alts := [], laidByText := true, laidKinds := [.data, .data, .data], laidTests := true, laidLooks := .later }
def FnExactPlayedTextCardSaid : Prop := Claim7.holds Tryd.pinned (.plain (OpenSpec.ofChange fnExactPlayedTextSpec)) fnExactPlayedTextCard

/-- THE TIED CARD OF 'laws.FnExactReaderText'. -/
def fnExactReaderTextCard : Claim7 := { stood := { row := fnExactReaderTextRow, standIns := [], harness := (true, "0b86df1e60adffe53bf040fa2c79c99f7866a8cd314790bc122da957fdbead44"), looks := false }, kinds := [], alts := [], laidByText := true, laidKinds := [.data, .data, .data], laidTests := true, laidLooks := .later }
def FnExactReaderTextCardSaid : Prop := Claim7.holds Tryd.pinned (.plain (OpenSpec.ofChange fnExactReaderTextSpec)) fnExactReaderTextCard

/-- THE SECOND FORM's CARD OF 'laws.FnExactPlayedText'. -/
def fnExactPlayedTextUptoCard : Claim7 := { stood := { row := fnExactPlayedTextUptoRow, standIns := [], harness := (true, "0b86df1e60adffe53bf040fa2c79c99f7866a8cd314790bc122da957fdbead44"), looks := false }, kinds := [], alts := [], laidByText := true, laidKinds := [.data, .data, .data], laidTests := true, laidLooks := .later }
def FnExactPlayedTextUptoCardSaid : Prop := Claim7.holds Tryd.pinned (.plain (OpenSpec.upto fnExactPlayedTextSpec)) fnExactPlayedTextUptoCard

/-- THE SECOND FORM's CARD OF 'laws.FnExactReaderText'. -/
def fnExactReaderTextUptoCard : Claim7 := { stood := { row := fnExactReaderTextUptoRow, standIns := [], harness := (true, "0b86df1e60adffe53bf040fa2c79c99f7866a8cd314790bc122da957fdbead44"), looks := false }, kinds := [], alts := [], laidByText := true, laidKinds := [.data, .data, .data], laidTests := true, laidLooks := .later }
def FnExactReaderTextUptoCardSaid : Prop := Claim7.holds Tryd.pinned (.plain (OpenSpec.upto fnExactReaderTextSpec)) fnExactReaderTextUptoCard
end Rows
end Go.Proofs.YtjdkdbeenggfaaaDoor
