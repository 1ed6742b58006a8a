/-
  No cell of these rows narrows 'for every input' (looked for: loops, veiled, ifaces, maps, wideKeys, modest, calm, conditions, laid).
  DERIVED. THE GIVEN ROWS OF THIS SEAT. 9 by the template 'for every input the law returns true; each argument reads behind the call as it read before'; 0 by the template 'total and deterministic' (their statements: YtepkedhmbfkenaaTotals.lean).
  GIVEN WITH THE SEED: the statements are not yours to turn. If you find one false, say at which input.
  Laid BY PROGRAM, IN A SANDBOX (cutbox-rows.mjs): the forced cells as the released guide's own fill.sh prints them over the translation b32dddb988b0cebb… (all of the seat's roots in one cut). By AI agents, Wed Nov 11 2026. No macro, syntax, notation, axiom, sorry.
-/
import Derived.Test.YtepkedhmbfkenaaChecked
import GoSem.Claim
import GoSem.ClaimJoined
import GoSem.ClaimMapViews
import Derived.JoinedTies
import Derived.KernelRfl
namespace Go.Proofs.Ytepkedhmbfkenaa
/- THE CELL 'sum', in the pinned program and in every row, IS THE sha256 OF THE DUMP (.gsa) THAT YtepkedhmbfkenaaProg.lean LOADS. Nothing in Lean hashes anything: it is a label: what it is worth is what the hold of that sum in a sandbox is worth. -/
noncomputable def Try.pinned : Pinned := { name := "ytepkedhmbfkenaa", sum := "b32dddb988b0cebb14894a1791d01dd233da12c4d4a794b170a40f5d8a1df71a", checked := Try.checked }
namespace Rows
def none {H : Type} : Left H := { results := [], args := [] }

/-- 'laws.FnExactWindTo': WHATEVER THE INPUT: true; the input reads as it did. -/
def fnExactWindToSpec : ChangeSpec := { name := "fnExactWindTo", fn := fun _ => fun
  | [d1, d2] => { results := [.lit (.bool true)], args := [d1, d2] }
  | _ => none }
def fnExactWindToRow : OpenClaim := { program := "ytepkedhmbfkenaa", sum := "b32dddb988b0cebb14894a1791d01dd233da12c4d4a794b170a40f5d8a1df71a", func := "loop.example/g00949/laws.FnExactWindTo", spec := "fnExactWindTo", recurses := true, apart := false }
def FnExactWindToSaid : Prop := fnExactWindToRow.holds Try.pinned (OpenSpec.ofChange fnExactWindToSpec)

/-- ITS FALSE NEIGHBOUR: 'it returns false'. Refute it at one input. -/
def fnExactWindToWrong : ChangeSpec := { name := "fnExactWindTo", fn := fun _ => fun
  | [d1, d2] => { results := [.lit (.bool false)], args := [d1, d2] }
  | _ => none }
def FnExactWindToWrongFalsely : Prop := fnExactWindToRow.holds Try.pinned (OpenSpec.ofChange fnExactWindToWrong)

/-- 'laws.FnExactReadSteps': WHATEVER THE INPUT: true; the input reads as it did. -/
def fnExactReadStepsSpec : ChangeSpec := { name := "fnExactReadSteps", fn := fun _ => fun
  | [d1, d2] => { results := [.lit (.bool true)], args := [d1, d2] }
  | _ => none }
def fnExactReadStepsRow : OpenClaim := { program := "ytepkedhmbfkenaa", sum := "b32dddb988b0cebb14894a1791d01dd233da12c4d4a794b170a40f5d8a1df71a", func := "loop.example/g00949/laws.FnExactReadSteps", spec := "fnExactReadSteps", recurses := true, apart := false }
def FnExactReadStepsSaid : Prop := fnExactReadStepsRow.holds Try.pinned (OpenSpec.ofChange fnExactReadStepsSpec)

/-- ITS FALSE NEIGHBOUR: 'it returns false'. Refute it at one input. -/
def fnExactReadStepsWrong : ChangeSpec := { name := "fnExactReadSteps", fn := fun _ => fun
  | [d1, d2] => { results := [.lit (.bool false)], args := [d1, d2] }
  | _ => none }
def FnExactReadStepsWrongFalsely : Prop := fnExactReadStepsRow.holds Try.pinned (OpenSpec.ofChange fnExactReadStepsWrong)

/-- 'laws.FnExactReadStep': WHATEVER THE INPUT: true; the input reads as it did. -/
def fnExactReadStepSpec : ChangeSpec := { name := "fnExactReadStep", fn := fun _ => fun
  | [d] => { results := [.lit (.bool true)], args := [d] }
  | _ => none }
def fnExactReadStepRow : OpenClaim := { program := "ytepkedhmbfkenaa", sum := "b32dddb988b0cebb14894a1791d01dd233da12c4d4a794b170a40f5d8a1df71a", func := "loop.example/g00949/laws.FnExactReadStep", spec := "fnExactReadStep", recurses := true, apart := false }
def FnExactReadStepSaid : Prop := fnExactReadStepRow.holds Try.pinned (OpenSpec.ofChange fnExactReadStepSpec)

/-- ITS FALSE NEIGHBOUR: 'it returns false'. Refute it at one input. -/
def fnExactReadStepWrong : ChangeSpec := { name := "fnExactReadStep", fn := fun _ => fun
  | [d] => { results := [.lit (.bool false)], args := [d] }
  | _ => none }
def FnExactReadStepWrongFalsely : Prop := fnExactReadStepRow.holds Try.pinned (OpenSpec.ofChange fnExactReadStepWrong)

/-- 'laws.FnExactReachedOffset': WHATEVER THE INPUT: true; the input reads as it did. -/
def fnExactReachedOffsetSpec : ChangeSpec := { name := "fnExactReachedOffset", fn := fun _ => fun
  | [d1, d2] => { results := [.lit (.bool true)], args := [d1, d2] }
  | _ => none }
def fnExactReachedOffsetRow : OpenClaim := { program := "ytepkedhmbfkenaa", sum := "b32dddb988b0cebb14894a1791d01dd233da12c4d4a794b170a40f5d8a1df71a", func := "loop.example/g00949/laws.FnExactReachedOffset", spec := "fnExactReachedOffset", apart := false }
def FnExactReachedOffsetSaid : Prop := fnExactReachedOffsetRow.holds Try.pinned (OpenSpec.ofChange fnExactReachedOffsetSpec)

/-- ITS FALSE NEIGHBOUR: 'it returns false'. Refute it at one input. -/
def fnExactReachedOffsetWrong : ChangeSpec := { name := "fnExactReachedOffset", fn := fun _ => fun
  | [d1, d2] => { results := [.lit (.bool false)], args := [d1, d2] }
  | _ => none }
def FnExactReachedOffsetWrongFalsely : Prop := fnExactReachedOffsetRow.holds Try.pinned (OpenSpec.ofChange fnExactReachedOffsetWrong)

/-- 'laws.FnExactDrivenOut': WHATEVER THE INPUT: true; the input reads as it did. -/
def fnExactDrivenOutSpec : ChangeSpec := { name := "fnExactDrivenOut", fn := fun _ => fun
  | [d1, d2, d3] => { results := [.lit (.bool true)], args := [d1, d2, d3] }
  | _ => none }
def fnExactDrivenOutRow : OpenClaim := { program := "ytepkedhmbfkenaa", sum := "b32dddb988b0cebb14894a1791d01dd233da12c4d4a794b170a40f5d8a1df71a", func := "loop.example/g00949/laws.FnExactDrivenOut", spec := "fnExactDrivenOut", apart := false }
def FnExactDrivenOutSaid : Prop := fnExactDrivenOutRow.holds Try.pinned (OpenSpec.ofChange fnExactDrivenOutSpec)

/-- ITS FALSE NEIGHBOUR: 'it returns false'. Refute it at one input. -/
def fnExactDrivenOutWrong : ChangeSpec := { name := "fnExactDrivenOut", fn := fun _ => fun
  | [d1, d2, d3] => { results := [.lit (.bool false)], args := [d1, d2, d3] }
  | _ => none }
def FnExactDrivenOutWrongFalsely : Prop := fnExactDrivenOutRow.holds Try.pinned (OpenSpec.ofChange fnExactDrivenOutWrong)

/-- 'laws.FnExactCountErased': WHATEVER THE INPUT: true; the input reads as it did. -/
def fnExactCountErasedSpec : ChangeSpec := { name := "fnExactCountErased", fn := fun _ => fun
  | [d] => { results := [.lit (.bool true)], args := [d] }
  | _ => none }
def fnExactCountErasedRow : OpenClaim := { program := "ytepkedhmbfkenaa", sum := "b32dddb988b0cebb14894a1791d01dd233da12c4d4a794b170a40f5d8a1df71a", func := "loop.example/g00949/laws.FnExactCountErased", spec := "fnExactCountErased", inPlace := ["internal/bytealg.IndexByteString", "internal/bytealg.CountString", "internal/bytealg.IndexString"], named := ["internal/bytealg.MaxLen"], apart := false }
def FnExactCountErasedSaid : Prop := fnExactCountErasedRow.holds Try.pinned (OpenSpec.ofChange fnExactCountErasedSpec)

/-- ITS FALSE NEIGHBOUR: 'it returns false'. Refute it at one input. -/
def fnExactCountErasedWrong : ChangeSpec := { name := "fnExactCountErased", fn := fun _ => fun
  | [d] => { results := [.lit (.bool false)], args := [d] }
  | _ => none }
def FnExactCountErasedWrongFalsely : Prop := fnExactCountErasedRow.holds Try.pinned (OpenSpec.ofChange fnExactCountErasedWrong)

/-- 'laws.FnTracking': WHATEVER THE INPUT: true; the input reads as it did. -/
def fnTrackingSpec : ChangeSpec := { name := "fnTracking", fn := fun _ => fun
  | [d1, d2] => { results := [.lit (.bool true)], args := [d1, d2] }
  | _ => none }
def fnTrackingRow : OpenClaim := { program := "ytepkedhmbfkenaa", sum := "b32dddb988b0cebb14894a1791d01dd233da12c4d4a794b170a40f5d8a1df71a", func := "loop.example/g00949/laws.FnTracking", spec := "fnTracking", apart := false }
def FnTrackingSaid : Prop := fnTrackingRow.holds Try.pinned (OpenSpec.ofChange fnTrackingSpec)

/-- ITS FALSE NEIGHBOUR: 'it returns false'. Refute it at one input. -/
def fnTrackingWrong : ChangeSpec := { name := "fnTracking", fn := fun _ => fun
  | [d1, d2] => { results := [.lit (.bool false)], args := [d1, d2] }
  | _ => none }
def FnTrackingWrongFalsely : Prop := fnTrackingRow.holds Try.pinned (OpenSpec.ofChange fnTrackingWrong)

/-- 'laws.FnPlaces': WHATEVER THE INPUT: true; the input reads as it did. -/
def fnPlacesSpec : ChangeSpec := { name := "fnPlaces", fn := fun _ => fun
  | [d1, d2] => { results := [.lit (.bool true)], args := [d1, d2] }
  | _ => none }
def fnPlacesRow : OpenClaim := { program := "ytepkedhmbfkenaa", sum := "b32dddb988b0cebb14894a1791d01dd233da12c4d4a794b170a40f5d8a1df71a", func := "loop.example/g00949/laws.FnPlaces", spec := "fnPlaces", apart := false }
def FnPlacesSaid : Prop := fnPlacesRow.holds Try.pinned (OpenSpec.ofChange fnPlacesSpec)

/-- ITS FALSE NEIGHBOUR: 'it returns false'. Refute it at one input. -/
def fnPlacesWrong : ChangeSpec := { name := "fnPlaces", fn := fun _ => fun
  | [d1, d2] => { results := [.lit (.bool false)], args := [d1, d2] }
  | _ => none }
def FnPlacesWrongFalsely : Prop := fnPlacesRow.holds Try.pinned (OpenSpec.ofChange fnPlacesWrong)

/-- 'laws.FnTrackBounds': WHATEVER THE INPUT: true; the input reads as it did. -/
def fnTrackBoundsSpec : ChangeSpec := { name := "fnTrackBounds", fn := fun _ => fun
  | [d1, d2] => { results := [.lit (.bool true)], args := [d1, d2] }
  | _ => none }
def fnTrackBoundsRow : OpenClaim := { program := "ytepkedhmbfkenaa", sum := "b32dddb988b0cebb14894a1791d01dd233da12c4d4a794b170a40f5d8a1df71a", func := "loop.example/g00949/laws.FnTrackBounds", spec := "fnTrackBounds", apart := false }
def FnTrackBoundsSaid : Prop := fnTrackBoundsRow.holds Try.pinned (OpenSpec.ofChange fnTrackBoundsSpec)

/-- ITS FALSE NEIGHBOUR: 'it returns false'. Refute it at one input. -/
def fnTrackBoundsWrong : ChangeSpec := { name := "fnTrackBounds", fn := fun _ => fun
  | [d1, d2] => { results := [.lit (.bool false)], args := [d1, d2] }
  | _ => none }
def FnTrackBoundsWrongFalsely : Prop := fnTrackBoundsRow.holds Try.pinned (OpenSpec.ofChange fnTrackBoundsWrong)

/- THE SECOND FORM. 'bulk': how many values and letters a reading holds, each counted each time it is reached (what is shared counts as often as it is met; a slice's spare places count too). A statement '..UptoSaid' is the law's where the arguments, and the package variables that the reading takes, are together of bulk at most 1048576: NARROWER than '..Said'. Prove '..Said' where nothing that the law and all that it calls make is longer than what came in: it says more and counts as full. Else prove '..UptoSaid'. A law counts once. -/
mutual
def uptoBulk {H : Type} : DataW H → Nat
  | .lit (.string bytes) => bytes.length + 1
  | .lit _ => 1
  | .nil => 1
  | .ptr d => uptoBulk d + 1
  | .slice elems spare => uptoBulkAll elems + uptoBulkAll spare + 1
  | .agg parts => uptoBulkAll parts + 1
  | .iface _ d => uptoBulk d + 1
  | .map entries => uptoBulkEntries entries + 1
  | .held _ => 1
def uptoBulkAll {H : Type} : List (DataW H) → Nat
  | [] => 0
  | d :: r => uptoBulk d + uptoBulkAll r
def uptoBulkEntries {H : Type} : List (Lit × DataW H) → Nat
  | [] => 0
  | x :: r => uptoBulkEntry x + uptoBulkEntries r
def uptoBulkEntry {H : Type} : Lit × DataW H → Nat
  | (.string bytes, d) => bytes.length + uptoBulk d + 1
  | (_, d) => uptoBulk d + 1
 end
def uptoSmall : (H : Type) → List (DataW H) → Bool := fun _ ds => decide (uptoBulkAll ds ≤ 1048576)
def OpenSpec.upto (s : _root_.Go.ChangeSpec) : _root_.Go.OpenSpec := { _root_.Go.OpenSpec.ofChange s with cond := some uptoSmall }

/-- 'laws.FnExactWindTo', WHERE WHAT IT READS IS OF BULK AT MOST 1048576: true; the input reads as it did. -/
def fnExactWindToUptoRow : OpenClaim := { program := "ytepkedhmbfkenaa", sum := "b32dddb988b0cebb14894a1791d01dd233da12c4d4a794b170a40f5d8a1df71a", func := "loop.example/g00949/laws.FnExactWindTo", spec := "fnExactWindTo", recurses := true, apart := false, narrowed := true }
def FnExactWindToUptoSaid : Prop := fnExactWindToUptoRow.holds Try.pinned (OpenSpec.upto fnExactWindToSpec)

/-- 'laws.FnExactReadSteps', WHERE WHAT IT READS IS OF BULK AT MOST 1048576: true; the input reads as it did. -/
def fnExactReadStepsUptoRow : OpenClaim := { program := "ytepkedhmbfkenaa", sum := "b32dddb988b0cebb14894a1791d01dd233da12c4d4a794b170a40f5d8a1df71a", func := "loop.example/g00949/laws.FnExactReadSteps", spec := "fnExactReadSteps", recurses := true, apart := false, narrowed := true }
def FnExactReadStepsUptoSaid : Prop := fnExactReadStepsUptoRow.holds Try.pinned (OpenSpec.upto fnExactReadStepsSpec)

/-- 'laws.FnExactReadStep', WHERE WHAT IT READS IS OF BULK AT MOST 1048576: true; the input reads as it did. -/
def fnExactReadStepUptoRow : OpenClaim := { program := "ytepkedhmbfkenaa", sum := "b32dddb988b0cebb14894a1791d01dd233da12c4d4a794b170a40f5d8a1df71a", func := "loop.example/g00949/laws.FnExactReadStep", spec := "fnExactReadStep", recurses := true, apart := false, narrowed := true }
def FnExactReadStepUptoSaid : Prop := fnExactReadStepUptoRow.holds Try.pinned (OpenSpec.upto fnExactReadStepSpec)

/-- 'laws.FnExactReachedOffset', WHERE WHAT IT READS IS OF BULK AT MOST 1048576: true; the input reads as it did. -/
def fnExactReachedOffsetUptoRow : OpenClaim := { program := "ytepkedhmbfkenaa", sum := "b32dddb988b0cebb14894a1791d01dd233da12c4d4a794b170a40f5d8a1df71a", func := "loop.example/g00949/laws.FnExactReachedOffset", spec := "fnExactReachedOffset", apart := false, narrowed := true }
def FnExactReachedOffsetUptoSaid : Prop := fnExactReachedOffsetUptoRow.holds Try.pinned (OpenSpec.upto fnExactReachedOffsetSpec)

/-- 'laws.FnExactDrivenOut', WHERE WHAT IT READS IS OF BULK AT MOST 1048576: true; the input reads as it did. -/
def fnExactDrivenOutUptoRow : OpenClaim := { program := "ytepkedhmbfkenaa", sum := "b32dddb988b0cebb14894a1791d01dd233da12c4d4a794b170a40f5d8a1df71a", func := "loop.example/g00949/laws.FnExactDrivenOut", spec := "fnExactDrivenOut", apart := false, narrowed := true }
def FnExactDrivenOutUptoSaid : Prop := fnExactDrivenOutUptoRow.holds Try.pinned (OpenSpec.upto fnExactDrivenOutSpec)

/-- 'laws.FnExactCountErased', WHERE WHAT IT READS IS OF BULK AT MOST 1048576: true; the input reads as it did. -/
def fnExactCountErasedUptoRow : OpenClaim := { program := "ytepkedhmbfkenaa", sum := "b32dddb988b0cebb14894a1791d01dd233da12c4d4a794b170a40f5d8a1df71a", func := "loop.example/g00949/laws.FnExactCountErased", spec := "fnExactCountErased", inPlace := ["internal/bytealg.IndexByteString", "internal/bytealg.CountString", "internal/bytealg.IndexString"], named := ["internal/bytealg.MaxLen"], apart := false, narrowed := true }
def FnExactCountErasedUptoSaid : Prop := fnExactCountErasedUptoRow.holds Try.pinned (OpenSpec.upto fnExactCountErasedSpec)

/-- 'laws.FnTracking', WHERE WHAT IT READS IS OF BULK AT MOST 1048576: true; the input reads as it did. -/
def fnTrackingUptoRow : OpenClaim := { program := "ytepkedhmbfkenaa", sum := "b32dddb988b0cebb14894a1791d01dd233da12c4d4a794b170a40f5d8a1df71a", func := "loop.example/g00949/laws.FnTracking", spec := "fnTracking", apart := false, narrowed := true }
def FnTrackingUptoSaid : Prop := fnTrackingUptoRow.holds Try.pinned (OpenSpec.upto fnTrackingSpec)

/-- 'laws.FnPlaces', WHERE WHAT IT READS IS OF BULK AT MOST 1048576: true; the input reads as it did. -/
def fnPlacesUptoRow : OpenClaim := { program := "ytepkedhmbfkenaa", sum := "b32dddb988b0cebb14894a1791d01dd233da12c4d4a794b170a40f5d8a1df71a", func := "loop.example/g00949/laws.FnPlaces", spec := "fnPlaces", apart := false, narrowed := true }
def FnPlacesUptoSaid : Prop := fnPlacesUptoRow.holds Try.pinned (OpenSpec.upto fnPlacesSpec)

/-- 'laws.FnTrackBounds', WHERE WHAT IT READS IS OF BULK AT MOST 1048576: true; the input reads as it did. -/
def fnTrackBoundsUptoRow : OpenClaim := { program := "ytepkedhmbfkenaa", sum := "b32dddb988b0cebb14894a1791d01dd233da12c4d4a794b170a40f5d8a1df71a", func := "loop.example/g00949/laws.FnTrackBounds", spec := "fnTrackBounds", apart := false, narrowed := true }
def FnTrackBoundsUptoSaid : Prop := fnTrackBoundsUptoRow.holds Try.pinned (OpenSpec.upto fnTrackBoundsSpec)

end Rows
end Go.Proofs.Ytepkedhmbfkenaa
