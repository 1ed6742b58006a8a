/-
  No cell of these rows narrows 'for every input' (looked for: loops, veiled, ifaces, maps, wideKeys, modest, calm, conditions, laid).
  DERIVED. THE GIVEN ROWS OF THIS SEAT. 10 by the template 'for every input the law returns true; each argument reads behind the call as it read before'; 0 by the template 'total and deterministic' (their statements: YtlficoabcpmjdaaTotals.lean).
  GIVEN WITH THE SEED: the statements are not yours to turn. If you find one false, say at which input.
  Laid BY PROGRAM, IN A SANDBOX (cutbox-rows.mjs): the forced cells as the released guide's own fill.sh prints them over the translation 87ce034ce300e1c7… (all of the seat's roots in one cut). By AI agents, Wed Nov 11 2026. No macro, syntax, notation, axiom, sorry.
-/
import Derived.Test.YtlficoabcpmjdaaChecked
import GoSem.Claim
import GoSem.ClaimJoined
import GoSem.ClaimMapViews
import Derived.JoinedTies
import Derived.KernelRfl
namespace Go.Proofs.Ytlficoabcpmjdaa
/- THE CELL 'sum', in the pinned program and in every row, IS THE sha256 OF THE DUMP (.gsa) THAT YtlficoabcpmjdaaProg.lean LOADS. Nothing in Lean hashes anything: it is a label: what it is worth is what the hold of that sum in a sandbox is worth. -/
noncomputable def Try.pinned : Pinned := { name := "ytlficoabcpmjdaa", sum := "87ce034ce300e1c7dc67382cac3ed5bae61e08dbbe566e2212700e9a6209e921", checked := Try.checked }
namespace Rows
def none {H : Type} : Left H := { results := [], args := [] }

/-- 'laws.FnExactQuietSteps': WHATEVER THE INPUT: true; the input reads as it did. -/
def fnExactQuietStepsSpec : ChangeSpec := { name := "fnExactQuietSteps", fn := fun _ => fun
  | [d] => { results := [.lit (.bool true)], args := [d] }
  | _ => none }
def fnExactQuietStepsRow : OpenClaim := { program := "ytlficoabcpmjdaa", sum := "87ce034ce300e1c7dc67382cac3ed5bae61e08dbbe566e2212700e9a6209e921", func := "loop.example/g00949/laws.FnExactQuietSteps", spec := "fnExactQuietSteps", apart := false }
def FnExactQuietStepsSaid : Prop := fnExactQuietStepsRow.holds Try.pinned (OpenSpec.ofChange fnExactQuietStepsSpec)

/-- ITS FALSE NEIGHBOUR: 'it returns false'. Refute it at one input. -/
def fnExactQuietStepsWrong : ChangeSpec := { name := "fnExactQuietSteps", fn := fun _ => fun
  | [d] => { results := [.lit (.bool false)], args := [d] }
  | _ => none }
def FnExactQuietStepsWrongFalsely : Prop := fnExactQuietStepsRow.holds Try.pinned (OpenSpec.ofChange fnExactQuietStepsWrong)

/-- 'laws.FnExactMostTracksOpen': WHATEVER THE INPUT: true; the input reads as it did. -/
def fnExactMostTracksOpenSpec : ChangeSpec := { name := "fnExactMostTracksOpen", fn := fun _ => fun
  | [d] => { results := [.lit (.bool true)], args := [d] }
  | _ => none }
def fnExactMostTracksOpenRow : OpenClaim := { program := "ytlficoabcpmjdaa", sum := "87ce034ce300e1c7dc67382cac3ed5bae61e08dbbe566e2212700e9a6209e921", func := "loop.example/g00949/laws.FnExactMostTracksOpen", spec := "fnExactMostTracksOpen", recurses := true, apart := false }
def FnExactMostTracksOpenSaid : Prop := fnExactMostTracksOpenRow.holds Try.pinned (OpenSpec.ofChange fnExactMostTracksOpenSpec)

/-- ITS FALSE NEIGHBOUR: 'it returns false'. Refute it at one input. -/
def fnExactMostTracksOpenWrong : ChangeSpec := { name := "fnExactMostTracksOpen", fn := fun _ => fun
  | [d] => { results := [.lit (.bool false)], args := [d] }
  | _ => none }
def FnExactMostTracksOpenWrongFalsely : Prop := fnExactMostTracksOpenRow.holds Try.pinned (OpenSpec.ofChange fnExactMostTracksOpenWrong)

/-- 'laws.FnExactIsReader': WHATEVER THE INPUT: true; the input reads as it did. -/
def fnExactIsReaderSpec : ChangeSpec := { name := "fnExactIsReader", fn := fun _ => fun
  | [d] => { results := [.lit (.bool true)], args := [d] }
  | _ => none }
def fnExactIsReaderRow : OpenClaim := { program := "ytlficoabcpmjdaa", sum := "87ce034ce300e1c7dc67382cac3ed5bae61e08dbbe566e2212700e9a6209e921", func := "loop.example/g00949/laws.FnExactIsReader", spec := "fnExactIsReader", recurses := true, apart := false }
def FnExactIsReaderSaid : Prop := fnExactIsReaderRow.holds Try.pinned (OpenSpec.ofChange fnExactIsReaderSpec)

/-- ITS FALSE NEIGHBOUR: 'it returns false'. Refute it at one input. -/
def fnExactIsReaderWrong : ChangeSpec := { name := "fnExactIsReader", fn := fun _ => fun
  | [d] => { results := [.lit (.bool false)], args := [d] }
  | _ => none }
def FnExactIsReaderWrongFalsely : Prop := fnExactIsReaderRow.holds Try.pinned (OpenSpec.ofChange fnExactIsReaderWrong)

/-- 'laws.FnExactNewReader': WHATEVER THE INPUT: true; the input reads as it did. -/
def fnExactNewReaderSpec : ChangeSpec := { name := "fnExactNewReader", fn := fun _ => fun
  | [d] => { results := [.lit (.bool true)], args := [d] }
  | _ => none }
def fnExactNewReaderRow : OpenClaim := { program := "ytlficoabcpmjdaa", sum := "87ce034ce300e1c7dc67382cac3ed5bae61e08dbbe566e2212700e9a6209e921", func := "loop.example/g00949/laws.FnExactNewReader", spec := "fnExactNewReader", recurses := true, apart := false }
def FnExactNewReaderSaid : Prop := fnExactNewReaderRow.holds Try.pinned (OpenSpec.ofChange fnExactNewReaderSpec)

/-- ITS FALSE NEIGHBOUR: 'it returns false'. Refute it at one input. -/
def fnExactNewReaderWrong : ChangeSpec := { name := "fnExactNewReader", fn := fun _ => fun
  | [d] => { results := [.lit (.bool false)], args := [d] }
  | _ => none }
def FnExactNewReaderWrongFalsely : Prop := fnExactNewReaderRow.holds Try.pinned (OpenSpec.ofChange fnExactNewReaderWrong)

/-- 'laws.FnExactEventsOf': WHATEVER THE INPUT: true; the input reads as it did. -/
def fnExactEventsOfSpec : ChangeSpec := { name := "fnExactEventsOf", fn := fun _ => fun
  | [d] => { results := [.lit (.bool true)], args := [d] }
  | _ => none }
def fnExactEventsOfRow : OpenClaim := { program := "ytlficoabcpmjdaa", sum := "87ce034ce300e1c7dc67382cac3ed5bae61e08dbbe566e2212700e9a6209e921", func := "loop.example/g00949/laws.FnExactEventsOf", spec := "fnExactEventsOf", unfollowed := true, recurses := true, apart := false }
def FnExactEventsOfSaid : Prop := fnExactEventsOfRow.holds Try.pinned (OpenSpec.ofChange fnExactEventsOfSpec)

/-- ITS FALSE NEIGHBOUR: 'it returns false'. Refute it at one input. -/
def fnExactEventsOfWrong : ChangeSpec := { name := "fnExactEventsOf", fn := fun _ => fun
  | [d] => { results := [.lit (.bool false)], args := [d] }
  | _ => none }
def FnExactEventsOfWrongFalsely : Prop := fnExactEventsOfRow.holds Try.pinned (OpenSpec.ofChange fnExactEventsOfWrong)

/-- 'laws.FnExactWindTo': WHATEVER THE INPUT: true; the input reads as it did. -/
def fnExactWindToSpec : ChangeSpec := { name := "fnExactWindTo", fn := fun _ => fun
  | [d1, d2] => { results := [.lit (.bool true)], args := [d1, d2] }
  | _ => none }
def fnExactWindToRow : OpenClaim := { program := "ytlficoabcpmjdaa", sum := "87ce034ce300e1c7dc67382cac3ed5bae61e08dbbe566e2212700e9a6209e921", func := "loop.example/g00949/laws.FnExactWindTo", spec := "fnExactWindTo", recurses := true, apart := false }
def FnExactWindToSaid : Prop := fnExactWindToRow.holds Try.pinned (OpenSpec.ofChange fnExactWindToSpec)

/-- ITS FALSE NEIGHBOUR: 'it returns false'. Refute it at one input. -/
def fnExactWindToWrong : ChangeSpec := { name := "fnExactWindTo", fn := fun _ => fun
  | [d1, d2] => { results := [.lit (.bool false)], args := [d1, d2] }
  | _ => none }
def FnExactWindToWrongFalsely : Prop := fnExactWindToRow.holds Try.pinned (OpenSpec.ofChange fnExactWindToWrong)

/-- 'laws.FnExactReadSteps': WHATEVER THE INPUT: true; the input reads as it did. -/
def fnExactReadStepsSpec : ChangeSpec := { name := "fnExactReadSteps", fn := fun _ => fun
  | [d1, d2] => { results := [.lit (.bool true)], args := [d1, d2] }
  | _ => none }
def fnExactReadStepsRow : OpenClaim := { program := "ytlficoabcpmjdaa", sum := "87ce034ce300e1c7dc67382cac3ed5bae61e08dbbe566e2212700e9a6209e921", func := "loop.example/g00949/laws.FnExactReadSteps", spec := "fnExactReadSteps", recurses := true, apart := false }
def FnExactReadStepsSaid : Prop := fnExactReadStepsRow.holds Try.pinned (OpenSpec.ofChange fnExactReadStepsSpec)

/-- ITS FALSE NEIGHBOUR: 'it returns false'. Refute it at one input. -/
def fnExactReadStepsWrong : ChangeSpec := { name := "fnExactReadSteps", fn := fun _ => fun
  | [d1, d2] => { results := [.lit (.bool false)], args := [d1, d2] }
  | _ => none }
def FnExactReadStepsWrongFalsely : Prop := fnExactReadStepsRow.holds Try.pinned (OpenSpec.ofChange fnExactReadStepsWrong)

/-- 'laws.FnExactReadStep': WHATEVER THE INPUT: true; the input reads as it did. -/
def fnExactReadStepSpec : ChangeSpec := { name := "fnExactReadStep", fn := fun _ => fun
  | [d] => { results := [.lit (.bool true)], args := [d] }
  | _ => none }
def fnExactReadStepRow : OpenClaim := { program := "ytlficoabcpmjdaa", sum := "87ce034ce300e1c7dc67382cac3ed5bae61e08dbbe566e2212700e9a6209e921", func := "loop.example/g00949/laws.FnExactReadStep", spec := "fnExactReadStep", recurses := true, apart := false }
def FnExactReadStepSaid : Prop := fnExactReadStepRow.holds Try.pinned (OpenSpec.ofChange fnExactReadStepSpec)

/-- ITS FALSE NEIGHBOUR: 'it returns false'. Refute it at one input. -/
def fnExactReadStepWrong : ChangeSpec := { name := "fnExactReadStep", fn := fun _ => fun
  | [d] => { results := [.lit (.bool false)], args := [d] }
  | _ => none }
def FnExactReadStepWrongFalsely : Prop := fnExactReadStepRow.holds Try.pinned (OpenSpec.ofChange fnExactReadStepWrong)

/-- 'laws.FnExactNextChange': WHATEVER THE INPUT: true; the input reads as it did. -/
def fnExactNextChangeSpec : ChangeSpec := { name := "fnExactNextChange", fn := fun _ => fun
  | [d] => { results := [.lit (.bool true)], args := [d] }
  | _ => none }
def fnExactNextChangeRow : OpenClaim := { program := "ytlficoabcpmjdaa", sum := "87ce034ce300e1c7dc67382cac3ed5bae61e08dbbe566e2212700e9a6209e921", func := "loop.example/g00949/laws.FnExactNextChange", spec := "fnExactNextChange", unfollowed := true, recurses := true, apart := false }
def FnExactNextChangeSaid : Prop := fnExactNextChangeRow.holds Try.pinned (OpenSpec.ofChange fnExactNextChangeSpec)

/-- ITS FALSE NEIGHBOUR: 'it returns false'. Refute it at one input. -/
def fnExactNextChangeWrong : ChangeSpec := { name := "fnExactNextChange", fn := fun _ => fun
  | [d] => { results := [.lit (.bool false)], args := [d] }
  | _ => none }
def FnExactNextChangeWrongFalsely : Prop := fnExactNextChangeRow.holds Try.pinned (OpenSpec.ofChange fnExactNextChangeWrong)

/-- 'laws.FnExactSheetOfEvents': WHATEVER THE INPUT: true; the input reads as it did. -/
def fnExactSheetOfEventsSpec : ChangeSpec := { name := "fnExactSheetOfEvents", fn := fun _ => fun
  | [d] => { results := [.lit (.bool true)], args := [d] }
  | _ => none }
def fnExactSheetOfEventsRow : OpenClaim := { program := "ytlficoabcpmjdaa", sum := "87ce034ce300e1c7dc67382cac3ed5bae61e08dbbe566e2212700e9a6209e921", func := "loop.example/g00949/laws.FnExactSheetOfEvents", spec := "fnExactSheetOfEvents", inPlace := ["internal/reflectlite.ValueOf", "internal/reflectlite.Swapper", "(internal/reflectlite.Value).Len"], unfollowed := true, recurses := true, apart := false }
def FnExactSheetOfEventsSaid : Prop := fnExactSheetOfEventsRow.holds Try.pinned (OpenSpec.ofChange fnExactSheetOfEventsSpec)

/-- ITS FALSE NEIGHBOUR: 'it returns false'. Refute it at one input. -/
def fnExactSheetOfEventsWrong : ChangeSpec := { name := "fnExactSheetOfEvents", fn := fun _ => fun
  | [d] => { results := [.lit (.bool false)], args := [d] }
  | _ => none }
def FnExactSheetOfEventsWrongFalsely : Prop := fnExactSheetOfEventsRow.holds Try.pinned (OpenSpec.ofChange fnExactSheetOfEventsWrong)

/- THE SECOND FORM. 'bulk': how many values and letters a reading holds, each counted each time it is reached (what is shared counts as often as it is met; a slice's spare places count too). A statement '..UptoSaid' is the law's where the arguments, and the package variables that the reading takes, are together of bulk at most 1048576: NARROWER than '..Said'. Prove '..Said' where nothing that the law and all that it calls make is longer than what came in: it says more and counts as full. Else prove '..UptoSaid'. A law counts once. -/
mutual
def uptoBulk {H : Type} : DataW H → Nat
  | .lit (.string bytes) => bytes.length + 1
  | .lit _ => 1
  | .nil => 1
  | .ptr d => uptoBulk d + 1
  | .slice elems spare => uptoBulkAll elems + uptoBulkAll spare + 1
  | .agg parts => uptoBulkAll parts + 1
  | .iface _ d => uptoBulk d + 1
  | .map entries => uptoBulkEntries entries + 1
  | .held _ => 1
def uptoBulkAll {H : Type} : List (DataW H) → Nat
  | [] => 0
  | d :: r => uptoBulk d + uptoBulkAll r
def uptoBulkEntries {H : Type} : List (Lit × DataW H) → Nat
  | [] => 0
  | x :: r => uptoBulkEntry x + uptoBulkEntries r
def uptoBulkEntry {H : Type} : Lit × DataW H → Nat
  | (.string bytes, d) => bytes.length + uptoBulk d + 1
  | (_, d) => uptoBulk d + 1
 end
def uptoSmall : (H : Type) → List (DataW H) → Bool := fun _ ds => decide (uptoBulkAll ds ≤ 1048576)
def OpenSpec.upto (s : _root_.Go.ChangeSpec) : _root_.Go.OpenSpec := { _root_.Go.OpenSpec.ofChange s with cond := some uptoSmall }

/-- 'laws.FnExactQuietSteps', WHERE WHAT IT READS IS OF BULK AT MOST 1048576: true; the input reads as it did. -/
def fnExactQuietStepsUptoRow : OpenClaim := { program := "ytlficoabcpmjdaa", sum := "87ce034ce300e1c7dc67382cac3ed5bae61e08dbbe566e2212700e9a6209e921", func := "loop.example/g00949/laws.FnExactQuietSteps", spec := "fnExactQuietSteps", apart := false, narrowed := true }
def FnExactQuietStepsUptoSaid : Prop := fnExactQuietStepsUptoRow.holds Try.pinned (OpenSpec.upto fnExactQuietStepsSpec)

/-- 'laws.FnExactMostTracksOpen', WHERE WHAT IT READS IS OF BULK AT MOST 1048576: true; the input reads as it did. -/
def fnExactMostTracksOpenUptoRow : OpenClaim := { program := "ytlficoabcpmjdaa", sum := "87ce034ce300e1c7dc67382cac3ed5bae61e08dbbe566e2212700e9a6209e921", func := "loop.example/g00949/laws.FnExactMostTracksOpen", spec := "fnExactMostTracksOpen", recurses := true, apart := false, narrowed := true }
def FnExactMostTracksOpenUptoSaid : Prop := fnExactMostTracksOpenUptoRow.holds Try.pinned (OpenSpec.upto fnExactMostTracksOpenSpec)

/-- 'laws.FnExactIsReader', WHERE WHAT IT READS IS OF BULK AT MOST 1048576: true; the input reads as it did. -/
def fnExactIsReaderUptoRow : OpenClaim := { program := "ytlficoabcpmjdaa", sum := "87ce034ce300e1c7dc67382cac3ed5bae61e08dbbe566e2212700e9a6209e921", func := "loop.example/g00949/laws.FnExactIsReader", spec := "fnExactIsReader", recurses := true, apart := false, narrowed := true }
def FnExactIsReaderUptoSaid : Prop := fnExactIsReaderUptoRow.holds Try.pinned (OpenSpec.upto fnExactIsReaderSpec)

/-- 'laws.FnExactNewReader', WHERE WHAT IT READS IS OF BULK AT MOST 1048576: true; the input reads as it did. -/
def fnExactNewReaderUptoRow : OpenClaim := { program := "ytlficoabcpmjdaa", sum := "87ce034ce300e1c7dc67382cac3ed5bae61e08dbbe566e2212700e9a6209e921", func := "loop.example/g00949/laws.FnExactNewReader", spec := "fnExactNewReader", recurses := true, apart := false, narrowed := true }
def FnExactNewReaderUptoSaid : Prop := fnExactNewReaderUptoRow.holds Try.pinned (OpenSpec.upto fnExactNewReaderSpec)

/-- 'laws.FnExactEventsOf', WHERE WHAT IT READS IS OF BULK AT MOST 1048576: true; the input reads as it did. -/
def fnExactEventsOfUptoRow : OpenClaim := { program := "ytlficoabcpmjdaa", sum := "87ce034ce300e1c7dc67382cac3ed5bae61e08dbbe566e2212700e9a6209e921", func := "loop.example/g00949/laws.FnExactEventsOf", spec := "fnExactEventsOf", unfollowed := true, recurses := true, apart := false, narrowed := true }
def FnExactEventsOfUptoSaid : Prop := fnExactEventsOfUptoRow.holds Try.pinned (OpenSpec.upto fnExactEventsOfSpec)

/-- 'laws.FnExactWindTo', WHERE WHAT IT READS IS OF BULK AT MOST 1048576: true; the input reads as it did. -/
def fnExactWindToUptoRow : OpenClaim := { program := "ytlficoabcpmjdaa", sum := "87ce034ce300e1c7dc67382cac3ed5bae61e08dbbe566e2212700e9a6209e921", func := "loop.example/g00949/laws.FnExactWindTo", spec := "fnExactWindTo", recurses := true, apart := false, narrowed := true }
def FnExactWindToUptoSaid : Prop := fnExactWindToUptoRow.holds Try.pinned (OpenSpec.upto fnExactWindToSpec)

/-- 'laws.FnExactReadSteps', WHERE WHAT IT READS IS OF BULK AT MOST 1048576: true; the input reads as it did. -/
def fnExactReadStepsUptoRow : OpenClaim := { program := "ytlficoabcpmjdaa", sum := "87ce034ce300e1c7dc67382cac3ed5bae61e08dbbe566e2212700e9a6209e921", func := "loop.example/g00949/laws.FnExactReadSteps", spec := "fnExactReadSteps", recurses := true, apart := false, narrowed := true }
def FnExactReadStepsUptoSaid : Prop := fnExactReadStepsUptoRow.holds Try.pinned (OpenSpec.upto fnExactReadStepsSpec)

/-- 'laws.FnExactReadStep', WHERE WHAT IT READS IS OF BULK AT MOST 1048576: true; the input reads as it did. -/
def fnExactReadStepUptoRow : OpenClaim := { program := "ytlficoabcpmjdaa", sum := "87ce034ce300e1c7dc67382cac3ed5bae61e08dbbe566e2212700e9a6209e921", func := "loop.example/g00949/laws.FnExactReadStep", spec := "fnExactReadStep", recurses := true, apart := false, narrowed := true }
def FnExactReadStepUptoSaid : Prop := fnExactReadStepUptoRow.holds Try.pinned (OpenSpec.upto fnExactReadStepSpec)

/-- 'laws.FnExactNextChange', WHERE WHAT IT READS IS OF BULK AT MOST 1048576: true; the input reads as it did. -/
def fnExactNextChangeUptoRow : OpenClaim := { program := "ytlficoabcpmjdaa", sum := "87ce034ce300e1c7dc67382cac3ed5bae61e08dbbe566e2212700e9a6209e921", func := "loop.example/g00949/laws.FnExactNextChange", spec := "fnExactNextChange", unfollowed := true, recurses := true, apart := false, narrowed := true }
def FnExactNextChangeUptoSaid : Prop := fnExactNextChangeUptoRow.holds Try.pinned (OpenSpec.upto fnExactNextChangeSpec)

/-- 'laws.FnExactSheetOfEvents', WHERE WHAT IT READS IS OF BULK AT MOST 1048576: true; the input reads as it did. -/
def fnExactSheetOfEventsUptoRow : OpenClaim := { program := "ytlficoabcpmjdaa", sum := "87ce034ce300e1c7dc67382cac3ed5bae61e08dbbe566e2212700e9a6209e921", func := "loop.example/g00949/laws.FnExactSheetOfEvents", spec := "fnExactSheetOfEvents", inPlace := ["internal/reflectlite.ValueOf", "internal/reflectlite.Swapper", "(internal/reflectlite.Value).Len"], unfollowed := true, recurses := true, apart := false, narrowed := true }
def FnExactSheetOfEventsUptoSaid : Prop := fnExactSheetOfEventsUptoRow.holds Try.pinned (OpenSpec.upto fnExactSheetOfEventsSpec)

end Rows
end Go.Proofs.Ytlficoabcpmjdaa
