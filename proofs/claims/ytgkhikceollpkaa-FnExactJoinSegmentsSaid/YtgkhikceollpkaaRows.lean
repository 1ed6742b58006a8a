/-
  No cell of these rows narrows 'for every input' (looked for: loops, veiled, ifaces, maps, wideKeys, modest, calm, conditions, laid).
  DERIVED. THE GIVEN ROWS OF THIS SEAT. 12 by the template 'for every input the law returns true; each argument reads behind the call as it read before'; 0 by the template 'total and deterministic' (their statements: YtgkhikceollpkaaTotals.lean).
  GIVEN WITH THE SEED: the statements are not yours to turn. If you find one false, say at which input.
  Laid BY PROGRAM, IN A SANDBOX (cutbox-rows.mjs): the forced cells as the released guide's own fill.sh prints them over the translation c4d28c39d4cc5ebe… (all of the seat's roots in one cut). By AI agents, Wed Nov 11 2026. No macro, syntax, notation, axiom, sorry.
-/
import Derived.Test.YtgkhikceollpkaaChecked
import GoSem.Claim
import GoSem.ClaimJoined
import GoSem.ClaimMapViews
import Derived.JoinedTies
import Derived.KernelRfl
namespace Go.Proofs.Ytgkhikceollpkaa
/- THE CELL 'sum', in the pinned program and in every row, IS THE sha256 OF THE DUMP (.gsa) THAT YtgkhikceollpkaaProg.lean LOADS. Nothing in Lean hashes anything: it is a label: what it is worth is what the hold of that sum in a sandbox is worth. -/
noncomputable def Try.pinned : Pinned := { name := "ytgkhikceollpkaa", sum := "c4d28c39d4cc5ebe063f5b54f3d4887075c7caca74d719dd0574a1c0f26d349f", checked := Try.checked }
namespace Rows
def none {H : Type} : Left H := { results := [], args := [] }

/-- 'laws.FnExactReachedOffset': WHATEVER THE INPUT: true; the input reads as it did. -/
def fnExactReachedOffsetSpec : ChangeSpec := { name := "fnExactReachedOffset", fn := fun _ => fun
  | [d1, d2] => { results := [.lit (.bool true)], args := [d1, d2] }
  | _ => none }
def fnExactReachedOffsetRow : OpenClaim := { program := "ytgkhikceollpkaa", sum := "c4d28c39d4cc5ebe063f5b54f3d4887075c7caca74d719dd0574a1c0f26d349f", func := "loop.example/g00949/laws.FnExactReachedOffset", spec := "fnExactReachedOffset", apart := false }
def FnExactReachedOffsetSaid : Prop := fnExactReachedOffsetRow.holds Try.pinned (OpenSpec.ofChange fnExactReachedOffsetSpec)

/-- ITS FALSE NEIGHBOUR: 'it returns false'. Refute it at one input. -/
def fnExactReachedOffsetWrong : ChangeSpec := { name := "fnExactReachedOffset", fn := fun _ => fun
  | [d1, d2] => { results := [.lit (.bool false)], args := [d1, d2] }
  | _ => none }
def FnExactReachedOffsetWrongFalsely : Prop := fnExactReachedOffsetRow.holds Try.pinned (OpenSpec.ofChange fnExactReachedOffsetWrong)

/-- 'laws.FnExactStepsOf': WHATEVER THE INPUT: true; the input reads as it did. -/
def fnExactStepsOfSpec : ChangeSpec := { name := "fnExactStepsOf", fn := fun _ => fun
  | [d] => { results := [.lit (.bool true)], args := [d] }
  | _ => none }
def fnExactStepsOfRow : OpenClaim := { program := "ytgkhikceollpkaa", sum := "c4d28c39d4cc5ebe063f5b54f3d4887075c7caca74d719dd0574a1c0f26d349f", func := "loop.example/g00949/laws.FnExactStepsOf", spec := "fnExactStepsOf", apart := false }
def FnExactStepsOfSaid : Prop := fnExactStepsOfRow.holds Try.pinned (OpenSpec.ofChange fnExactStepsOfSpec)

/-- ITS FALSE NEIGHBOUR: 'it returns false'. Refute it at one input. -/
def fnExactStepsOfWrong : ChangeSpec := { name := "fnExactStepsOf", fn := fun _ => fun
  | [d] => { results := [.lit (.bool false)], args := [d] }
  | _ => none }
def FnExactStepsOfWrongFalsely : Prop := fnExactStepsOfRow.holds Try.pinned (OpenSpec.ofChange fnExactStepsOfWrong)

/-- 'laws.FnExactPlaceOf': WHATEVER THE INPUT: true; the input reads as it did. -/
def fnExactPlaceOfSpec : ChangeSpec := { name := "fnExactPlaceOf", fn := fun _ => fun
  | [d1, d2] => { results := [.lit (.bool true)], args := [d1, d2] }
  | _ => none }
def fnExactPlaceOfRow : OpenClaim := { program := "ytgkhikceollpkaa", sum := "c4d28c39d4cc5ebe063f5b54f3d4887075c7caca74d719dd0574a1c0f26d349f", func := "loop.example/g00949/laws.FnExactPlaceOf", spec := "fnExactPlaceOf", apart := false }
def FnExactPlaceOfSaid : Prop := fnExactPlaceOfRow.holds Try.pinned (OpenSpec.ofChange fnExactPlaceOfSpec)

/-- ITS FALSE NEIGHBOUR: 'it returns false'. Refute it at one input. -/
def fnExactPlaceOfWrong : ChangeSpec := { name := "fnExactPlaceOf", fn := fun _ => fun
  | [d1, d2] => { results := [.lit (.bool false)], args := [d1, d2] }
  | _ => none }
def FnExactPlaceOfWrongFalsely : Prop := fnExactPlaceOfRow.holds Try.pinned (OpenSpec.ofChange fnExactPlaceOfWrong)

/-- 'laws.FnExactErrorAt': WHATEVER THE INPUT: true; the input reads as it did. -/
def fnExactErrorAtSpec : ChangeSpec := { name := "fnExactErrorAt", fn := fun _ => fun
  | [d1, d2] => { results := [.lit (.bool true)], args := [d1, d2] }
  | _ => none }
def fnExactErrorAtRow : OpenClaim := { program := "ytgkhikceollpkaa", sum := "c4d28c39d4cc5ebe063f5b54f3d4887075c7caca74d719dd0574a1c0f26d349f", func := "loop.example/g00949/laws.FnExactErrorAt", spec := "fnExactErrorAt", apart := false }
def FnExactErrorAtSaid : Prop := fnExactErrorAtRow.holds Try.pinned (OpenSpec.ofChange fnExactErrorAtSpec)

/-- ITS FALSE NEIGHBOUR: 'it returns false'. Refute it at one input. -/
def fnExactErrorAtWrong : ChangeSpec := { name := "fnExactErrorAt", fn := fun _ => fun
  | [d1, d2] => { results := [.lit (.bool false)], args := [d1, d2] }
  | _ => none }
def FnExactErrorAtWrongFalsely : Prop := fnExactErrorAtRow.holds Try.pinned (OpenSpec.ofChange fnExactErrorAtWrong)

/-- 'laws.FnExactStepAtPlace': WHATEVER THE INPUT: true; the input reads as it did. -/
def fnExactStepAtPlaceSpec : ChangeSpec := { name := "fnExactStepAtPlace", fn := fun _ => fun
  | [d1, d2] => { results := [.lit (.bool true)], args := [d1, d2] }
  | _ => none }
def fnExactStepAtPlaceRow : OpenClaim := { program := "ytgkhikceollpkaa", sum := "c4d28c39d4cc5ebe063f5b54f3d4887075c7caca74d719dd0574a1c0f26d349f", func := "loop.example/g00949/laws.FnExactStepAtPlace", spec := "fnExactStepAtPlace", apart := false }
def FnExactStepAtPlaceSaid : Prop := fnExactStepAtPlaceRow.holds Try.pinned (OpenSpec.ofChange fnExactStepAtPlaceSpec)

/-- ITS FALSE NEIGHBOUR: 'it returns false'. Refute it at one input. -/
def fnExactStepAtPlaceWrong : ChangeSpec := { name := "fnExactStepAtPlace", fn := fun _ => fun
  | [d1, d2] => { results := [.lit (.bool false)], args := [d1, d2] }
  | _ => none }
def FnExactStepAtPlaceWrongFalsely : Prop := fnExactStepAtPlaceRow.holds Try.pinned (OpenSpec.ofChange fnExactStepAtPlaceWrong)

/-- 'laws.FnExactTrackRun': WHATEVER THE INPUT: true; the input reads as it did. -/
def fnExactTrackRunSpec : ChangeSpec := { name := "fnExactTrackRun", fn := fun _ => fun
  | [d1, d2, d3] => { results := [.lit (.bool true)], args := [d1, d2, d3] }
  | _ => none }
def fnExactTrackRunRow : OpenClaim := { program := "ytgkhikceollpkaa", sum := "c4d28c39d4cc5ebe063f5b54f3d4887075c7caca74d719dd0574a1c0f26d349f", func := "loop.example/g00949/laws.FnExactTrackRun", spec := "fnExactTrackRun", apart := false }
def FnExactTrackRunSaid : Prop := fnExactTrackRunRow.holds Try.pinned (OpenSpec.ofChange fnExactTrackRunSpec)

/-- ITS FALSE NEIGHBOUR: 'it returns false'. Refute it at one input. -/
def fnExactTrackRunWrong : ChangeSpec := { name := "fnExactTrackRun", fn := fun _ => fun
  | [d1, d2, d3] => { results := [.lit (.bool false)], args := [d1, d2, d3] }
  | _ => none }
def FnExactTrackRunWrongFalsely : Prop := fnExactTrackRunRow.holds Try.pinned (OpenSpec.ofChange fnExactTrackRunWrong)

/-- 'laws.FnExactJoinSegments': WHATEVER THE INPUT: true; the input reads as it did. -/
def fnExactJoinSegmentsSpec : ChangeSpec := { name := "fnExactJoinSegments", fn := fun _ => fun
  | [d] => { results := [.lit (.bool true)], args := [d] }
  | _ => none }
def fnExactJoinSegmentsRow : OpenClaim := { program := "ytgkhikceollpkaa", sum := "c4d28c39d4cc5ebe063f5b54f3d4887075c7caca74d719dd0574a1c0f26d349f", func := "loop.example/g00949/laws.FnExactJoinSegments", spec := "fnExactJoinSegments", apart := false }
def FnExactJoinSegmentsSaid : Prop := fnExactJoinSegmentsRow.holds Try.pinned (OpenSpec.ofChange fnExactJoinSegmentsSpec)

/-- ITS FALSE NEIGHBOUR: 'it returns false'. Refute it at one input. -/
def fnExactJoinSegmentsWrong : ChangeSpec := { name := "fnExactJoinSegments", fn := fun _ => fun
  | [d] => { results := [.lit (.bool false)], args := [d] }
  | _ => none }
def FnExactJoinSegmentsWrongFalsely : Prop := fnExactJoinSegmentsRow.holds Try.pinned (OpenSpec.ofChange fnExactJoinSegmentsWrong)

/-- 'laws.FnExactMovesMade': WHATEVER THE INPUT: true; the input reads as it did. -/
def fnExactMovesMadeSpec : ChangeSpec := { name := "fnExactMovesMade", fn := fun _ => fun
  | [d1, d2, d3] => { results := [.lit (.bool true)], args := [d1, d2, d3] }
  | _ => none }
def fnExactMovesMadeRow : OpenClaim := { program := "ytgkhikceollpkaa", sum := "c4d28c39d4cc5ebe063f5b54f3d4887075c7caca74d719dd0574a1c0f26d349f", func := "loop.example/g00949/laws.FnExactMovesMade", spec := "fnExactMovesMade", apart := false }
def FnExactMovesMadeSaid : Prop := fnExactMovesMadeRow.holds Try.pinned (OpenSpec.ofChange fnExactMovesMadeSpec)

/-- ITS FALSE NEIGHBOUR: 'it returns false'. Refute it at one input. -/
def fnExactMovesMadeWrong : ChangeSpec := { name := "fnExactMovesMade", fn := fun _ => fun
  | [d1, d2, d3] => { results := [.lit (.bool false)], args := [d1, d2, d3] }
  | _ => none }
def FnExactMovesMadeWrongFalsely : Prop := fnExactMovesMadeRow.holds Try.pinned (OpenSpec.ofChange fnExactMovesMadeWrong)

/-- 'laws.FnExactCutSegments': WHATEVER THE INPUT: true; the input reads as it did. -/
def fnExactCutSegmentsSpec : ChangeSpec := { name := "fnExactCutSegments", fn := fun _ => fun
  | [d1, d2, d3] => { results := [.lit (.bool true)], args := [d1, d2, d3] }
  | _ => none }
def fnExactCutSegmentsRow : OpenClaim := { program := "ytgkhikceollpkaa", sum := "c4d28c39d4cc5ebe063f5b54f3d4887075c7caca74d719dd0574a1c0f26d349f", func := "loop.example/g00949/laws.FnExactCutSegments", spec := "fnExactCutSegments", apart := false }
def FnExactCutSegmentsSaid : Prop := fnExactCutSegmentsRow.holds Try.pinned (OpenSpec.ofChange fnExactCutSegmentsSpec)

/-- ITS FALSE NEIGHBOUR: 'it returns false'. Refute it at one input. -/
def fnExactCutSegmentsWrong : ChangeSpec := { name := "fnExactCutSegments", fn := fun _ => fun
  | [d1, d2, d3] => { results := [.lit (.bool false)], args := [d1, d2, d3] }
  | _ => none }
def FnExactCutSegmentsWrongFalsely : Prop := fnExactCutSegmentsRow.holds Try.pinned (OpenSpec.ofChange fnExactCutSegmentsWrong)

/-- 'laws.FnExactWorstOffset': WHATEVER THE INPUT: true; the input reads as it did. -/
def fnExactWorstOffsetSpec : ChangeSpec := { name := "fnExactWorstOffset", fn := fun _ => fun
  | [d1, d2, d3] => { results := [.lit (.bool true)], args := [d1, d2, d3] }
  | _ => none }
def fnExactWorstOffsetRow : OpenClaim := { program := "ytgkhikceollpkaa", sum := "c4d28c39d4cc5ebe063f5b54f3d4887075c7caca74d719dd0574a1c0f26d349f", func := "loop.example/g00949/laws.FnExactWorstOffset", spec := "fnExactWorstOffset", apart := false }
def FnExactWorstOffsetSaid : Prop := fnExactWorstOffsetRow.holds Try.pinned (OpenSpec.ofChange fnExactWorstOffsetSpec)

/-- ITS FALSE NEIGHBOUR: 'it returns false'. Refute it at one input. -/
def fnExactWorstOffsetWrong : ChangeSpec := { name := "fnExactWorstOffset", fn := fun _ => fun
  | [d1, d2, d3] => { results := [.lit (.bool false)], args := [d1, d2, d3] }
  | _ => none }
def FnExactWorstOffsetWrongFalsely : Prop := fnExactWorstOffsetRow.holds Try.pinned (OpenSpec.ofChange fnExactWorstOffsetWrong)

/-- 'laws.FnExactDrivenOut': WHATEVER THE INPUT: true; the input reads as it did. -/
def fnExactDrivenOutSpec : ChangeSpec := { name := "fnExactDrivenOut", fn := fun _ => fun
  | [d1, d2, d3] => { results := [.lit (.bool true)], args := [d1, d2, d3] }
  | _ => none }
def fnExactDrivenOutRow : OpenClaim := { program := "ytgkhikceollpkaa", sum := "c4d28c39d4cc5ebe063f5b54f3d4887075c7caca74d719dd0574a1c0f26d349f", func := "loop.example/g00949/laws.FnExactDrivenOut", spec := "fnExactDrivenOut", apart := false }
def FnExactDrivenOutSaid : Prop := fnExactDrivenOutRow.holds Try.pinned (OpenSpec.ofChange fnExactDrivenOutSpec)

/-- ITS FALSE NEIGHBOUR: 'it returns false'. Refute it at one input. -/
def fnExactDrivenOutWrong : ChangeSpec := { name := "fnExactDrivenOut", fn := fun _ => fun
  | [d1, d2, d3] => { results := [.lit (.bool false)], args := [d1, d2, d3] }
  | _ => none }
def FnExactDrivenOutWrongFalsely : Prop := fnExactDrivenOutRow.holds Try.pinned (OpenSpec.ofChange fnExactDrivenOutWrong)

/-- 'laws.FnExactLeastGain': WHATEVER THE INPUT: true; the input reads as it did. -/
def fnExactLeastGainSpec : ChangeSpec := { name := "fnExactLeastGain", fn := fun _ => fun
  | [d1, d2, d3, d4] => { results := [.lit (.bool true)], args := [d1, d2, d3, d4] }
  | _ => none }
def fnExactLeastGainRow : OpenClaim := { program := "ytgkhikceollpkaa", sum := "c4d28c39d4cc5ebe063f5b54f3d4887075c7caca74d719dd0574a1c0f26d349f", func := "loop.example/g00949/laws.FnExactLeastGain", spec := "fnExactLeastGain", apart := false }
def FnExactLeastGainSaid : Prop := fnExactLeastGainRow.holds Try.pinned (OpenSpec.ofChange fnExactLeastGainSpec)

/-- ITS FALSE NEIGHBOUR: 'it returns false'. Refute it at one input. -/
def fnExactLeastGainWrong : ChangeSpec := { name := "fnExactLeastGain", fn := fun _ => fun
  | [d1, d2, d3, d4] => { results := [.lit (.bool false)], args := [d1, d2, d3, d4] }
  | _ => none }
def FnExactLeastGainWrongFalsely : Prop := fnExactLeastGainRow.holds Try.pinned (OpenSpec.ofChange fnExactLeastGainWrong)

/- THE SECOND FORM. 'bulk': how many values and letters a reading holds, each counted each time it is reached (what is shared counts as often as it is met; a slice's spare places count too). A statement '..UptoSaid' is the law's where the arguments, and the package variables that the reading takes, are together of bulk at most 1048576: NARROWER than '..Said'. Prove '..Said' where nothing that the law and all that it calls make is longer than what came in: it says more and counts as full. Else prove '..UptoSaid'. A law counts once. -/
mutual
def uptoBulk {H : Type} : DataW H → Nat
  | .lit (.string bytes) => bytes.length + 1
  | .lit _ => 1
  | .nil => 1
  | .ptr d => uptoBulk d + 1
  | .slice elems spare => uptoBulkAll elems + uptoBulkAll spare + 1
  | .agg parts => uptoBulkAll parts + 1
  | .iface _ d => uptoBulk d + 1
  | .map entries => uptoBulkEntries entries + 1
  | .held _ => 1
def uptoBulkAll {H : Type} : List (DataW H) → Nat
  | [] => 0
  | d :: r => uptoBulk d + uptoBulkAll r
def uptoBulkEntries {H : Type} : List (Lit × DataW H) → Nat
  | [] => 0
  | x :: r => uptoBulkEntry x + uptoBulkEntries r
def uptoBulkEntry {H : Type} : Lit × DataW H → Nat
  | (.string bytes, d) => bytes.length + uptoBulk d + 1
  | (_, d) => uptoBulk d + 1
 end
def uptoSmall : (H : Type) → List (DataW H) → Bool := fun _ ds => decide (uptoBulkAll ds ≤ 1048576)
def OpenSpec.upto (s : _root_.Go.ChangeSpec) : _root_.Go.OpenSpec := { _root_.Go.OpenSpec.ofChange s with cond := some uptoSmall }

/-- 'laws.FnExactReachedOffset', WHERE WHAT IT READS IS OF BULK AT MOST 1048576: true; the input reads as it did. -/
def fnExactReachedOffsetUptoRow : OpenClaim := { program := "ytgkhikceollpkaa", sum := "c4d28c39d4cc5ebe063f5b54f3d4887075c7caca74d719dd0574a1c0f26d349f", func := "loop.example/g00949/laws.FnExactReachedOffset", spec := "fnExactReachedOffset", apart := false, narrowed := true }
def FnExactReachedOffsetUptoSaid : Prop := fnExactReachedOffsetUptoRow.holds Try.pinned (OpenSpec.upto fnExactReachedOffsetSpec)

/-- 'laws.FnExactStepsOf', WHERE WHAT IT READS IS OF BULK AT MOST 1048576: true; the input reads as it did. -/
def fnExactStepsOfUptoRow : OpenClaim := { program := "ytgkhikceollpkaa", sum := "c4d28c39d4cc5ebe063f5b54f3d4887075c7caca74d719dd0574a1c0f26d349f", func := "loop.example/g00949/laws.FnExactStepsOf", spec := "fnExactStepsOf", apart := false, narrowed := true }
def FnExactStepsOfUptoSaid : Prop := fnExactStepsOfUptoRow.holds Try.pinned (OpenSpec.upto fnExactStepsOfSpec)

/-- 'laws.FnExactPlaceOf', WHERE WHAT IT READS IS OF BULK AT MOST 1048576: true; the input reads as it did. -/
def fnExactPlaceOfUptoRow : OpenClaim := { program := "ytgkhikceollpkaa", sum := "c4d28c39d4cc5ebe063f5b54f3d4887075c7caca74d719dd0574a1c0f26d349f", func := "loop.example/g00949/laws.FnExactPlaceOf", spec := "fnExactPlaceOf", apart := false, narrowed := true }
def FnExactPlaceOfUptoSaid : Prop := fnExactPlaceOfUptoRow.holds Try.pinned (OpenSpec.upto fnExactPlaceOfSpec)

/-- 'laws.FnExactErrorAt', WHERE WHAT IT READS IS OF BULK AT MOST 1048576: true; the input reads as it did. -/
def fnExactErrorAtUptoRow : OpenClaim := { program := "ytgkhikceollpkaa", sum := "c4d28c39d4cc5ebe063f5b54f3d4887075c7caca74d719dd0574a1c0f26d349f", func := "loop.example/g00949/laws.FnExactErrorAt", spec := "fnExactErrorAt", apart := false, narrowed := true }
def FnExactErrorAtUptoSaid : Prop := fnExactErrorAtUptoRow.holds Try.pinned (OpenSpec.upto fnExactErrorAtSpec)

/-- 'laws.FnExactStepAtPlace', WHERE WHAT IT READS IS OF BULK AT MOST 1048576: true; the input reads as it did. -/
def fnExactStepAtPlaceUptoRow : OpenClaim := { program := "ytgkhikceollpkaa", sum := "c4d28c39d4cc5ebe063f5b54f3d4887075c7caca74d719dd0574a1c0f26d349f", func := "loop.example/g00949/laws.FnExactStepAtPlace", spec := "fnExactStepAtPlace", apart := false, narrowed := true }
def FnExactStepAtPlaceUptoSaid : Prop := fnExactStepAtPlaceUptoRow.holds Try.pinned (OpenSpec.upto fnExactStepAtPlaceSpec)

/-- 'laws.FnExactTrackRun', WHERE WHAT IT READS IS OF BULK AT MOST 1048576: true; the input reads as it did. -/
def fnExactTrackRunUptoRow : OpenClaim := { program := "ytgkhikceollpkaa", sum := "c4d28c39d4cc5ebe063f5b54f3d4887075c7caca74d719dd0574a1c0f26d349f", func := "loop.example/g00949/laws.FnExactTrackRun", spec := "fnExactTrackRun", apart := false, narrowed := true }
def FnExactTrackRunUptoSaid : Prop := fnExactTrackRunUptoRow.holds Try.pinned (OpenSpec.upto fnExactTrackRunSpec)

/-- 'laws.FnExactJoinSegments', WHERE WHAT IT READS IS OF BULK AT MOST 1048576: true; the input reads as it did. -/
def fnExactJoinSegmentsUptoRow : OpenClaim := { program := "ytgkhikceollpkaa", sum := "c4d28c39d4cc5ebe063f5b54f3d4887075c7caca74d719dd0574a1c0f26d349f", func := "loop.example/g00949/laws.FnExactJoinSegments", spec := "fnExactJoinSegments", apart := false, narrowed := true }
def FnExactJoinSegmentsUptoSaid : Prop := fnExactJoinSegmentsUptoRow.holds Try.pinned (OpenSpec.upto fnExactJoinSegmentsSpec)

/-- 'laws.FnExactMovesMade', WHERE WHAT IT READS IS OF BULK AT MOST 1048576: true; the input reads as it did. -/
def fnExactMovesMadeUptoRow : OpenClaim := { program := "ytgkhikceollpkaa", sum := "c4d28c39d4cc5ebe063f5b54f3d4887075c7caca74d719dd0574a1c0f26d349f", func := "loop.example/g00949/laws.FnExactMovesMade", spec := "fnExactMovesMade", apart := false, narrowed := true }
def FnExactMovesMadeUptoSaid : Prop := fnExactMovesMadeUptoRow.holds Try.pinned (OpenSpec.upto fnExactMovesMadeSpec)

/-- 'laws.FnExactCutSegments', WHERE WHAT IT READS IS OF BULK AT MOST 1048576: true; the input reads as it did. -/
def fnExactCutSegmentsUptoRow : OpenClaim := { program := "ytgkhikceollpkaa", sum := "c4d28c39d4cc5ebe063f5b54f3d4887075c7caca74d719dd0574a1c0f26d349f", func := "loop.example/g00949/laws.FnExactCutSegments", spec := "fnExactCutSegments", apart := false, narrowed := true }
def FnExactCutSegmentsUptoSaid : Prop := fnExactCutSegmentsUptoRow.holds Try.pinned (OpenSpec.upto fnExactCutSegmentsSpec)

/-- 'laws.FnExactWorstOffset', WHERE WHAT IT READS IS OF BULK AT MOST 1048576: true; the input reads as it did. -/
def fnExactWorstOffsetUptoRow : OpenClaim := { program := "ytgkhikceollpkaa", sum := "c4d28c39d4cc5ebe063f5b54f3d4887075c7caca74d719dd0574a1c0f26d349f", func := "loop.example/g00949/laws.FnExactWorstOffset", spec := "fnExactWorstOffset", apart := false, narrowed := true }
def FnExactWorstOffsetUptoSaid : Prop := fnExactWorstOffsetUptoRow.holds Try.pinned (OpenSpec.upto fnExactWorstOffsetSpec)

/-- 'laws.FnExactDrivenOut', WHERE WHAT IT READS IS OF BULK AT MOST 1048576: true; the input reads as it did. -/
def fnExactDrivenOutUptoRow : OpenClaim := { program := "ytgkhikceollpkaa", sum := "c4d28c39d4cc5ebe063f5b54f3d4887075c7caca74d719dd0574a1c0f26d349f", func := "loop.example/g00949/laws.FnExactDrivenOut", spec := "fnExactDrivenOut", apart := false, narrowed := true }
def FnExactDrivenOutUptoSaid : Prop := fnExactDrivenOutUptoRow.holds Try.pinned (OpenSpec.upto fnExactDrivenOutSpec)

/-- 'laws.FnExactLeastGain', WHERE WHAT IT READS IS OF BULK AT MOST 1048576: true; the input reads as it did. -/
def fnExactLeastGainUptoRow : OpenClaim := { program := "ytgkhikceollpkaa", sum := "c4d28c39d4cc5ebe063f5b54f3d4887075c7caca74d719dd0574a1c0f26d349f", func := "loop.example/g00949/laws.FnExactLeastGain", spec := "fnExactLeastGain", apart := false, narrowed := true }
def FnExactLeastGainUptoSaid : Prop := fnExactLeastGainUptoRow.holds Try.pinned (OpenSpec.upto fnExactLeastGainSpec)

end Rows
end Go.Proofs.Ytgkhikceollpkaa
