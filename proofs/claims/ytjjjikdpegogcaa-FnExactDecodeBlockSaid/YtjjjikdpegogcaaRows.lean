/-
  No cell of these rows narrows 'for every input' (looked for: loops, veiled, ifaces, maps, wideKeys, modest, calm, conditions, laid).
  DERIVED. THE GIVEN ROWS OF THIS SEAT. 8 by the template 'for every input the law returns true; each argument reads behind the call as it read before'; 0 by the template 'total and deterministic' (their statements: YtjjjikdpegogcaaTotals.lean).
  GIVEN WITH THE SEED: the statements are not yours to turn. If you find one false, say at which input.
  Laid BY PROGRAM, IN A SANDBOX (cutbox-rows.mjs): the forced cells as the released guide's own fill.sh prints them over the translation 5d3fe527dff98911… (all of the seat's roots in one cut). By AI agents, Wed Nov 11 2026. No macro, syntax, notation, axiom, sorry.
-/
import Derived.Test.YtjjjikdpegogcaaChecked
import GoSem.Claim
import GoSem.ClaimJoined
import GoSem.ClaimMapViews
import Derived.JoinedTies
import Derived.KernelRfl
namespace Go.Proofs.Ytjjjikdpegogcaa
/- THE CELL 'sum', in the pinned program and in every row, IS THE sha256 OF THE DUMP (.gsa) THAT YtjjjikdpegogcaaProg.lean LOADS. Nothing in Lean hashes anything: it is a label: what it is worth is what the hold of that sum in a sandbox is worth. -/
noncomputable def Try.pinned : Pinned := { name := "ytjjjikdpegogcaa", sum := "5d3fe527dff98911f822fa28a63121e2b836a4b2dd42a1a46d4f651eeee4a8d8", checked := Try.checked }
namespace Rows
def none {H : Type} : Left H := { results := [], args := [] }

/-- 'laws.FnExactPromisedTimes': WHATEVER THE INPUT: true; the input reads as it did. -/
def fnExactPromisedTimesSpec : ChangeSpec := { name := "fnExactPromisedTimes", fn := fun _ => fun
  | [d1, d2, d3] => { results := [.lit (.bool true)], args := [d1, d2, d3] }
  | _ => none }
def fnExactPromisedTimesRow : OpenClaim := { program := "ytjjjikdpegogcaa", sum := "5d3fe527dff98911f822fa28a63121e2b836a4b2dd42a1a46d4f651eeee4a8d8", func := "loop.example/g00949/laws.FnExactPromisedTimes", spec := "fnExactPromisedTimes", apart := false }
def FnExactPromisedTimesSaid : Prop := fnExactPromisedTimesRow.holds Try.pinned (OpenSpec.ofChange fnExactPromisedTimesSpec)

/-- ITS FALSE NEIGHBOUR: 'it returns false'. Refute it at one input. -/
def fnExactPromisedTimesWrong : ChangeSpec := { name := "fnExactPromisedTimes", fn := fun _ => fun
  | [d1, d2, d3] => { results := [.lit (.bool false)], args := [d1, d2, d3] }
  | _ => none }
def FnExactPromisedTimesWrongFalsely : Prop := fnExactPromisedTimesRow.holds Try.pinned (OpenSpec.ofChange fnExactPromisedTimesWrong)

/-- 'laws.FnExactBlurredPairs': WHATEVER THE INPUT: true; the input reads as it did. -/
def fnExactBlurredPairsSpec : ChangeSpec := { name := "fnExactBlurredPairs", fn := fun _ => fun
  | [d1, d2, d3] => { results := [.lit (.bool true)], args := [d1, d2, d3] }
  | _ => none }
def fnExactBlurredPairsRow : OpenClaim := { program := "ytjjjikdpegogcaa", sum := "5d3fe527dff98911f822fa28a63121e2b836a4b2dd42a1a46d4f651eeee4a8d8", func := "loop.example/g00949/laws.FnExactBlurredPairs", spec := "fnExactBlurredPairs", apart := false }
def FnExactBlurredPairsSaid : Prop := fnExactBlurredPairsRow.holds Try.pinned (OpenSpec.ofChange fnExactBlurredPairsSpec)

/-- ITS FALSE NEIGHBOUR: 'it returns false'. Refute it at one input. -/
def fnExactBlurredPairsWrong : ChangeSpec := { name := "fnExactBlurredPairs", fn := fun _ => fun
  | [d1, d2, d3] => { results := [.lit (.bool false)], args := [d1, d2, d3] }
  | _ => none }
def FnExactBlurredPairsWrongFalsely : Prop := fnExactBlurredPairsRow.holds Try.pinned (OpenSpec.ofChange fnExactBlurredPairsWrong)

/-- 'laws.FnExactEventsOf': WHATEVER THE INPUT: true; the input reads as it did. -/
def fnExactEventsOfSpec : ChangeSpec := { name := "fnExactEventsOf", fn := fun _ => fun
  | [d] => { results := [.lit (.bool true)], args := [d] }
  | _ => none }
def fnExactEventsOfRow : OpenClaim := { program := "ytjjjikdpegogcaa", sum := "5d3fe527dff98911f822fa28a63121e2b836a4b2dd42a1a46d4f651eeee4a8d8", func := "loop.example/g00949/laws.FnExactEventsOf", spec := "fnExactEventsOf", unfollowed := true, recurses := true, apart := false }
def FnExactEventsOfSaid : Prop := fnExactEventsOfRow.holds Try.pinned (OpenSpec.ofChange fnExactEventsOfSpec)

/-- ITS FALSE NEIGHBOUR: 'it returns false'. Refute it at one input. -/
def fnExactEventsOfWrong : ChangeSpec := { name := "fnExactEventsOf", fn := fun _ => fun
  | [d] => { results := [.lit (.bool false)], args := [d] }
  | _ => none }
def FnExactEventsOfWrongFalsely : Prop := fnExactEventsOfRow.holds Try.pinned (OpenSpec.ofChange fnExactEventsOfWrong)

/-- 'laws.FnExactNextChange': WHATEVER THE INPUT: true; the input reads as it did. -/
def fnExactNextChangeSpec : ChangeSpec := { name := "fnExactNextChange", fn := fun _ => fun
  | [d] => { results := [.lit (.bool true)], args := [d] }
  | _ => none }
def fnExactNextChangeRow : OpenClaim := { program := "ytjjjikdpegogcaa", sum := "5d3fe527dff98911f822fa28a63121e2b836a4b2dd42a1a46d4f651eeee4a8d8", func := "loop.example/g00949/laws.FnExactNextChange", spec := "fnExactNextChange", unfollowed := true, recurses := true, apart := false }
def FnExactNextChangeSaid : Prop := fnExactNextChangeRow.holds Try.pinned (OpenSpec.ofChange fnExactNextChangeSpec)

/-- ITS FALSE NEIGHBOUR: 'it returns false'. Refute it at one input. -/
def fnExactNextChangeWrong : ChangeSpec := { name := "fnExactNextChange", fn := fun _ => fun
  | [d] => { results := [.lit (.bool false)], args := [d] }
  | _ => none }
def FnExactNextChangeWrongFalsely : Prop := fnExactNextChangeRow.holds Try.pinned (OpenSpec.ofChange fnExactNextChangeWrong)

/-- 'laws.FnExactPeelBlock': WHATEVER THE INPUT: true; the input reads as it did. -/
def fnExactPeelBlockSpec : ChangeSpec := { name := "fnExactPeelBlock", fn := fun _ => fun
  | [d] => { results := [.lit (.bool true)], args := [d] }
  | _ => none }
def fnExactPeelBlockRow : OpenClaim := { program := "ytjjjikdpegogcaa", sum := "5d3fe527dff98911f822fa28a63121e2b836a4b2dd42a1a46d4f651eeee4a8d8", func := "loop.example/g00949/laws.FnExactPeelBlock", spec := "fnExactPeelBlock", inPlace := ["internal/bytealg.IndexByteString"], unfollowed := true, recurses := true, apart := false }
def FnExactPeelBlockSaid : Prop := fnExactPeelBlockRow.holds Try.pinned (OpenSpec.ofChange fnExactPeelBlockSpec)

/-- ITS FALSE NEIGHBOUR: 'it returns false'. Refute it at one input. -/
def fnExactPeelBlockWrong : ChangeSpec := { name := "fnExactPeelBlock", fn := fun _ => fun
  | [d] => { results := [.lit (.bool false)], args := [d] }
  | _ => none }
def FnExactPeelBlockWrongFalsely : Prop := fnExactPeelBlockRow.holds Try.pinned (OpenSpec.ofChange fnExactPeelBlockWrong)

/-- 'laws.FnExactCorrectBlock': WHATEVER THE INPUT: true; the input reads as it did. -/
def fnExactCorrectBlockSpec : ChangeSpec := { name := "fnExactCorrectBlock", fn := fun _ => fun
  | [d] => { results := [.lit (.bool true)], args := [d] }
  | _ => none }
def fnExactCorrectBlockRow : OpenClaim := { program := "ytjjjikdpegogcaa", sum := "5d3fe527dff98911f822fa28a63121e2b836a4b2dd42a1a46d4f651eeee4a8d8", func := "loop.example/g00949/laws.FnExactCorrectBlock", spec := "fnExactCorrectBlock", inPlace := ["internal/bytealg.IndexByteString"], unfollowed := true, recurses := true, apart := false }
def FnExactCorrectBlockSaid : Prop := fnExactCorrectBlockRow.holds Try.pinned (OpenSpec.ofChange fnExactCorrectBlockSpec)

/-- ITS FALSE NEIGHBOUR: 'it returns false'. Refute it at one input. -/
def fnExactCorrectBlockWrong : ChangeSpec := { name := "fnExactCorrectBlock", fn := fun _ => fun
  | [d] => { results := [.lit (.bool false)], args := [d] }
  | _ => none }
def FnExactCorrectBlockWrongFalsely : Prop := fnExactCorrectBlockRow.holds Try.pinned (OpenSpec.ofChange fnExactCorrectBlockWrong)

/-- 'laws.FnExactDecodeBlock': WHATEVER THE INPUT: true; the input reads as it did. -/
def fnExactDecodeBlockSpec : ChangeSpec := { name := "fnExactDecodeBlock", fn := fun _ => fun
  | [d] => { results := [.lit (.bool true)], args := [d] }
  | _ => none }
def fnExactDecodeBlockRow : OpenClaim := { program := "ytjjjikdpegogcaa", sum := "5d3fe527dff98911f822fa28a63121e2b836a4b2dd42a1a46d4f651eeee4a8d8", func := "loop.example/g00949/laws.FnExactDecodeBlock", spec := "fnExactDecodeBlock", inPlace := ["internal/bytealg.IndexByteString"], unfollowed := true, recurses := true, apart := false }
def FnExactDecodeBlockSaid : Prop := fnExactDecodeBlockRow.holds Try.pinned (OpenSpec.ofChange fnExactDecodeBlockSpec)

/-- ITS FALSE NEIGHBOUR: 'it returns false'. Refute it at one input. -/
def fnExactDecodeBlockWrong : ChangeSpec := { name := "fnExactDecodeBlock", fn := fun _ => fun
  | [d] => { results := [.lit (.bool false)], args := [d] }
  | _ => none }
def FnExactDecodeBlockWrongFalsely : Prop := fnExactDecodeBlockRow.holds Try.pinned (OpenSpec.ofChange fnExactDecodeBlockWrong)

/-- 'laws.FnExactSheetOfEvents': WHATEVER THE INPUT: true; the input reads as it did. -/
def fnExactSheetOfEventsSpec : ChangeSpec := { name := "fnExactSheetOfEvents", fn := fun _ => fun
  | [d] => { results := [.lit (.bool true)], args := [d] }
  | _ => none }
def fnExactSheetOfEventsRow : OpenClaim := { program := "ytjjjikdpegogcaa", sum := "5d3fe527dff98911f822fa28a63121e2b836a4b2dd42a1a46d4f651eeee4a8d8", func := "loop.example/g00949/laws.FnExactSheetOfEvents", spec := "fnExactSheetOfEvents", inPlace := ["internal/reflectlite.ValueOf", "internal/reflectlite.Swapper", "(internal/reflectlite.Value).Len"], unfollowed := true, recurses := true, apart := false }
def FnExactSheetOfEventsSaid : Prop := fnExactSheetOfEventsRow.holds Try.pinned (OpenSpec.ofChange fnExactSheetOfEventsSpec)

/-- ITS FALSE NEIGHBOUR: 'it returns false'. Refute it at one input. -/
def fnExactSheetOfEventsWrong : ChangeSpec := { name := "fnExactSheetOfEvents", fn := fun _ => fun
  | [d] => { results := [.lit (.bool false)], args := [d] }
  | _ => none }
def FnExactSheetOfEventsWrongFalsely : Prop := fnExactSheetOfEventsRow.holds Try.pinned (OpenSpec.ofChange fnExactSheetOfEventsWrong)

/- THE SECOND FORM. 'bulk': how many values and letters a reading holds, each counted each time it is reached (what is shared counts as often as it is met; a slice's spare places count too). A statement '..UptoSaid' is the law's where the arguments, and the package variables that the reading takes, are together of bulk at most 1048576: NARROWER than '..Said'. Prove '..Said' where nothing that the law and all that it calls make is longer than what came in: it says more and counts as full. Else prove '..UptoSaid'. A law counts once. -/
mutual
def uptoBulk {H : Type} : DataW H → Nat
  | .lit (.string bytes) => bytes.length + 1
  | .lit _ => 1
  | .nil => 1
  | .ptr d => uptoBulk d + 1
  | .slice elems spare => uptoBulkAll elems + uptoBulkAll spare + 1
  | .agg parts => uptoBulkAll parts + 1
  | .iface _ d => uptoBulk d + 1
  | .map entries => uptoBulkEntries entries + 1
  | .held _ => 1
def uptoBulkAll {H : Type} : List (DataW H) → Nat
  | [] => 0
  | d :: r => uptoBulk d + uptoBulkAll r
def uptoBulkEntries {H : Type} : List (Lit × DataW H) → Nat
  | [] => 0
  | x :: r => uptoBulkEntry x + uptoBulkEntries r
def uptoBulkEntry {H : Type} : Lit × DataW H → Nat
  | (.string bytes, d) => bytes.length + uptoBulk d + 1
  | (_, d) => uptoBulk d + 1
 end
def uptoSmall : (H : Type) → List (DataW H) → Bool := fun _ ds => decide (uptoBulkAll ds ≤ 1048576)
def OpenSpec.upto (s : _root_.Go.ChangeSpec) : _root_.Go.OpenSpec := { _root_.Go.OpenSpec.ofChange s with cond := some uptoSmall }

/-- 'laws.FnExactPromisedTimes', WHERE WHAT IT READS IS OF BULK AT MOST 1048576: true; the input reads as it did. -/
def fnExactPromisedTimesUptoRow : OpenClaim := { program := "ytjjjikdpegogcaa", sum := "5d3fe527dff98911f822fa28a63121e2b836a4b2dd42a1a46d4f651eeee4a8d8", func := "loop.example/g00949/laws.FnExactPromisedTimes", spec := "fnExactPromisedTimes", apart := false, narrowed := true }
def FnExactPromisedTimesUptoSaid : Prop := fnExactPromisedTimesUptoRow.holds Try.pinned (OpenSpec.upto fnExactPromisedTimesSpec)

/-- 'laws.FnExactBlurredPairs', WHERE WHAT IT READS IS OF BULK AT MOST 1048576: true; the input reads as it did. -/
def fnExactBlurredPairsUptoRow : OpenClaim := { program := "ytjjjikdpegogcaa", sum := "5d3fe527dff98911f822fa28a63121e2b836a4b2dd42a1a46d4f651eeee4a8d8", func := "loop.example/g00949/laws.FnExactBlurredPairs", spec := "fnExactBlurredPairs", apart := false, narrowed := true }
def FnExactBlurredPairsUptoSaid : Prop := fnExactBlurredPairsUptoRow.holds Try.pinned (OpenSpec.upto fnExactBlurredPairsSpec)

/-- 'laws.FnExactEventsOf', WHERE WHAT IT READS IS OF BULK AT MOST 1048576: true; the input reads as it did. -/
def fnExactEventsOfUptoRow : OpenClaim := { program := "ytjjjikdpegogcaa", sum := "5d3fe527dff98911f822fa28a63121e2b836a4b2dd42a1a46d4f651eeee4a8d8", func := "loop.example/g00949/laws.FnExactEventsOf", spec := "fnExactEventsOf", unfollowed := true, recurses := true, apart := false, narrowed := true }
def FnExactEventsOfUptoSaid : Prop := fnExactEventsOfUptoRow.holds Try.pinned (OpenSpec.upto fnExactEventsOfSpec)

/-- 'laws.FnExactNextChange', WHERE WHAT IT READS IS OF BULK AT MOST 1048576: true; the input reads as it did. -/
def fnExactNextChangeUptoRow : OpenClaim := { program := "ytjjjikdpegogcaa", sum := "5d3fe527dff98911f822fa28a63121e2b836a4b2dd42a1a46d4f651eeee4a8d8", func := "loop.example/g00949/laws.FnExactNextChange", spec := "fnExactNextChange", unfollowed := true, recurses := true, apart := false, narrowed := true }
def FnExactNextChangeUptoSaid : Prop := fnExactNextChangeUptoRow.holds Try.pinned (OpenSpec.upto fnExactNextChangeSpec)

/-- 'laws.FnExactPeelBlock', WHERE WHAT IT READS IS OF BULK AT MOST 1048576: true; the input reads as it did. -/
def fnExactPeelBlockUptoRow : OpenClaim := { program := "ytjjjikdpegogcaa", sum := "5d3fe527dff98911f822fa28a63121e2b836a4b2dd42a1a46d4f651eeee4a8d8", func := "loop.example/g00949/laws.FnExactPeelBlock", spec := "fnExactPeelBlock", inPlace := ["internal/bytealg.IndexByteString"], unfollowed := true, recurses := true, apart := false, narrowed := true }
def FnExactPeelBlockUptoSaid : Prop := fnExactPeelBlockUptoRow.holds Try.pinned (OpenSpec.upto fnExactPeelBlockSpec)

/-- 'laws.FnExactCorrectBlock', WHERE WHAT IT READS IS OF BULK AT MOST 1048576: true; the input reads as it did. -/
def fnExactCorrectBlockUptoRow : OpenClaim := { program := "ytjjjikdpegogcaa", sum := "5d3fe527dff98911f822fa28a63121e2b836a4b2dd42a1a46d4f651eeee4a8d8", func := "loop.example/g00949/laws.FnExactCorrectBlock", spec := "fnExactCorrectBlock", inPlace := ["internal/bytealg.IndexByteString"], unfollowed := true, recurses := true, apart := false, narrowed := true }
def FnExactCorrectBlockUptoSaid : Prop := fnExactCorrectBlockUptoRow.holds Try.pinned (OpenSpec.upto fnExactCorrectBlockSpec)

/-- 'laws.FnExactDecodeBlock', WHERE WHAT IT READS IS OF BULK AT MOST 1048576: true; the input reads as it did. -/
def fnExactDecodeBlockUptoRow : OpenClaim := { program := "ytjjjikdpegogcaa", sum := "5d3fe527dff98911f822fa28a63121e2b836a4b2dd42a1a46d4f651eeee4a8d8", func := "loop.example/g00949/laws.FnExactDecodeBlock", spec := "fnExactDecodeBlock", inPlace := ["internal/bytealg.IndexByteString"], unfollowed := true, recurses := true, apart := false, narrowed := true }
def FnExactDecodeBlockUptoSaid : Prop := fnExactDecodeBlockUptoRow.holds Try.pinned (OpenSpec.upto fnExactDecodeBlockSpec)

/-- 'laws.FnExactSheetOfEvents', WHERE WHAT IT READS IS OF BULK AT MOST 1048576: true; the input reads as it did. -/
def fnExactSheetOfEventsUptoRow : OpenClaim := { program := "ytjjjikdpegogcaa", sum := "5d3fe527dff98911f822fa28a63121e2b836a4b2dd42a1a46d4f651eeee4a8d8", func := "loop.example/g00949/laws.FnExactSheetOfEvents", spec := "fnExactSheetOfEvents", inPlace := ["internal/reflectlite.ValueOf", "internal/reflectlite.Swapper", "(internal/reflectlite.Value).Len"], unfollowed := true, recurses := true, apart := false, narrowed := true }
def FnExactSheetOfEventsUptoSaid : Prop := fnExactSheetOfEventsUptoRow.holds Try.pinned (OpenSpec.upto fnExactSheetOfEventsSpec)

end Rows
end Go.Proofs.Ytjjjikdpegogcaa
