/-
  No cell of these rows narrows 'for every input' (looked for: loops, veiled, ifaces, maps, wideKeys, modest, calm, conditions, laid).
  DERIVED. THE GIVEN ROWS OF THIS SEAT. 6 by the template 'for every input the law returns true; each argument reads behind the call as it read before'; 0 by the template 'total and deterministic' (their statements: YtegmhgdbhpbfiaaTotals.lean).
  GIVEN WITH THE SEED: the statements are not yours to turn. If you find one false, say at which input.
  Laid BY PROGRAM, IN A SANDBOX (cutbox-rows.mjs): the forced cells as the released guide's own fill.sh prints them over the translation 6e6c03b0c4549986… (all of the seat's roots in one cut). By AI agents, Wed Nov 11 2026. No macro, syntax, notation, axiom, sorry.
-/
import Derived.Test.YtegmhgdbhpbfiaaChecked
import GoSem.Claim
import GoSem.ClaimJoined
import GoSem.ClaimMapViews
import Derived.JoinedTies
import Derived.KernelRfl
namespace Go.Proofs.Ytegmhgdbhpbfiaa
/- THE CELL 'sum', in the pinned program and in every row, IS THE sha256 OF THE DUMP (.gsa) THAT YtegmhgdbhpbfiaaProg.lean LOADS. Nothing in Lean hashes anything: it is a label: what it is worth is what the hold of that sum in a sandbox is worth. -/
noncomputable def Try.pinned : Pinned := { name := "ytegmhgdbhpbfiaa", sum := "6e6c03b0c4549986c82b7d31b39f304f517c21e630e795d19b3b927ba3cfc8cb", checked := Try.checked }
namespace Rows
def none {H : Type} : Left H := { results := [], args := [] }

/-- 'laws.FnExactIsController': WHATEVER THE INPUT: true; the input reads as it did. -/
def fnExactIsControllerSpec : ChangeSpec := { name := "fnExactIsController", fn := fun _ => fun
  | [d] => { results := [.lit (.bool true)], args := [d] }
  | _ => none }
def fnExactIsControllerRow : OpenClaim := { program := "ytegmhgdbhpbfiaa", sum := "6e6c03b0c4549986c82b7d31b39f304f517c21e630e795d19b3b927ba3cfc8cb", func := "loop.example/g00949/laws.FnExactIsController", spec := "fnExactIsController", apart := false }
def FnExactIsControllerSaid : Prop := fnExactIsControllerRow.holds Try.pinned (OpenSpec.ofChange fnExactIsControllerSpec)

/-- ITS FALSE NEIGHBOUR: 'it returns false'. Refute it at one input. -/
def fnExactIsControllerWrong : ChangeSpec := { name := "fnExactIsController", fn := fun _ => fun
  | [d] => { results := [.lit (.bool false)], args := [d] }
  | _ => none }
def FnExactIsControllerWrongFalsely : Prop := fnExactIsControllerRow.holds Try.pinned (OpenSpec.ofChange fnExactIsControllerWrong)

/-- 'laws.FnExactIsAction': WHATEVER THE INPUT: true; the input reads as it did. -/
def fnExactIsActionSpec : ChangeSpec := { name := "fnExactIsAction", fn := fun _ => fun
  | [d] => { results := [.lit (.bool true)], args := [d] }
  | _ => none }
def fnExactIsActionRow : OpenClaim := { program := "ytegmhgdbhpbfiaa", sum := "6e6c03b0c4549986c82b7d31b39f304f517c21e630e795d19b3b927ba3cfc8cb", func := "loop.example/g00949/laws.FnExactIsAction", spec := "fnExactIsAction", apart := false }
def FnExactIsActionSaid : Prop := fnExactIsActionRow.holds Try.pinned (OpenSpec.ofChange fnExactIsActionSpec)

/-- ITS FALSE NEIGHBOUR: 'it returns false'. Refute it at one input. -/
def fnExactIsActionWrong : ChangeSpec := { name := "fnExactIsAction", fn := fun _ => fun
  | [d] => { results := [.lit (.bool false)], args := [d] }
  | _ => none }
def FnExactIsActionWrongFalsely : Prop := fnExactIsActionRow.holds Try.pinned (OpenSpec.ofChange fnExactIsActionWrong)

/-- 'laws.FnExactSafeBound': WHATEVER THE INPUT: true; the input reads as it did. -/
def fnExactSafeBoundSpec : ChangeSpec := { name := "fnExactSafeBound", fn := fun _ => fun
  | [d1, d2] => { results := [.lit (.bool true)], args := [d1, d2] }
  | _ => none }
def fnExactSafeBoundRow : OpenClaim := { program := "ytegmhgdbhpbfiaa", sum := "6e6c03b0c4549986c82b7d31b39f304f517c21e630e795d19b3b927ba3cfc8cb", func := "loop.example/g00949/laws.FnExactSafeBound", spec := "fnExactSafeBound", apart := false }
def FnExactSafeBoundSaid : Prop := fnExactSafeBoundRow.holds Try.pinned (OpenSpec.ofChange fnExactSafeBoundSpec)

/-- ITS FALSE NEIGHBOUR: 'it returns false'. Refute it at one input. -/
def fnExactSafeBoundWrong : ChangeSpec := { name := "fnExactSafeBound", fn := fun _ => fun
  | [d1, d2] => { results := [.lit (.bool false)], args := [d1, d2] }
  | _ => none }
def FnExactSafeBoundWrongFalsely : Prop := fnExactSafeBoundRow.holds Try.pinned (OpenSpec.ofChange fnExactSafeBoundWrong)

/-- 'laws.FnExactTrackStep': WHATEVER THE INPUT: true; the input reads as it did. -/
def fnExactTrackStepSpec : ChangeSpec := { name := "fnExactTrackStep", fn := fun _ => fun
  | [d1, d2, d3] => { results := [.lit (.bool true)], args := [d1, d2, d3] }
  | _ => none }
def fnExactTrackStepRow : OpenClaim := { program := "ytegmhgdbhpbfiaa", sum := "6e6c03b0c4549986c82b7d31b39f304f517c21e630e795d19b3b927ba3cfc8cb", func := "loop.example/g00949/laws.FnExactTrackStep", spec := "fnExactTrackStep", apart := false }
def FnExactTrackStepSaid : Prop := fnExactTrackStepRow.holds Try.pinned (OpenSpec.ofChange fnExactTrackStepSpec)

/-- ITS FALSE NEIGHBOUR: 'it returns false'. Refute it at one input. -/
def fnExactTrackStepWrong : ChangeSpec := { name := "fnExactTrackStep", fn := fun _ => fun
  | [d1, d2, d3] => { results := [.lit (.bool false)], args := [d1, d2, d3] }
  | _ => none }
def FnExactTrackStepWrongFalsely : Prop := fnExactTrackStepRow.holds Try.pinned (OpenSpec.ofChange fnExactTrackStepWrong)

/-- 'laws.FnExactSettlesAfter': WHATEVER THE INPUT: true; the input reads as it did. -/
def fnExactSettlesAfterSpec : ChangeSpec := { name := "fnExactSettlesAfter", fn := fun _ => fun
  | [d1, d2] => { results := [.lit (.bool true)], args := [d1, d2] }
  | _ => none }
def fnExactSettlesAfterRow : OpenClaim := { program := "ytegmhgdbhpbfiaa", sum := "6e6c03b0c4549986c82b7d31b39f304f517c21e630e795d19b3b927ba3cfc8cb", func := "loop.example/g00949/laws.FnExactSettlesAfter", spec := "fnExactSettlesAfter", apart := false }
def FnExactSettlesAfterSaid : Prop := fnExactSettlesAfterRow.holds Try.pinned (OpenSpec.ofChange fnExactSettlesAfterSpec)

/-- ITS FALSE NEIGHBOUR: 'it returns false'. Refute it at one input. -/
def fnExactSettlesAfterWrong : ChangeSpec := { name := "fnExactSettlesAfter", fn := fun _ => fun
  | [d1, d2] => { results := [.lit (.bool false)], args := [d1, d2] }
  | _ => none }
def FnExactSettlesAfterWrongFalsely : Prop := fnExactSettlesAfterRow.holds Try.pinned (OpenSpec.ofChange fnExactSettlesAfterWrong)

/-- 'laws.FnExactAreSegments': WHATEVER THE INPUT: true; the input reads as it did. -/
def fnExactAreSegmentsSpec : ChangeSpec := { name := "fnExactAreSegments", fn := fun _ => fun
  | [d] => { results := [.lit (.bool true)], args := [d] }
  | _ => none }
def fnExactAreSegmentsRow : OpenClaim := { program := "ytegmhgdbhpbfiaa", sum := "6e6c03b0c4549986c82b7d31b39f304f517c21e630e795d19b3b927ba3cfc8cb", func := "loop.example/g00949/laws.FnExactAreSegments", spec := "fnExactAreSegments", apart := false }
def FnExactAreSegmentsSaid : Prop := fnExactAreSegmentsRow.holds Try.pinned (OpenSpec.ofChange fnExactAreSegmentsSpec)

/-- ITS FALSE NEIGHBOUR: 'it returns false'. Refute it at one input. -/
def fnExactAreSegmentsWrong : ChangeSpec := { name := "fnExactAreSegments", fn := fun _ => fun
  | [d] => { results := [.lit (.bool false)], args := [d] }
  | _ => none }
def FnExactAreSegmentsWrongFalsely : Prop := fnExactAreSegmentsRow.holds Try.pinned (OpenSpec.ofChange fnExactAreSegmentsWrong)

/- THE SECOND FORM. 'bulk': how many values and letters a reading holds, each counted each time it is reached (what is shared counts as often as it is met; a slice's spare places count too). A statement '..UptoSaid' is the law's where the arguments, and the package variables that the reading takes, are together of bulk at most 1048576: NARROWER than '..Said'. Prove '..Said' where nothing that the law and all that it calls make is longer than what came in: it says more and counts as full. Else prove '..UptoSaid'. A law counts once. -/
mutual
def uptoBulk {H : Type} : DataW H → Nat
  | .lit (.string bytes) => bytes.length + 1
  | .lit _ => 1
  | .nil => 1
  | .ptr d => uptoBulk d + 1
  | .slice elems spare => uptoBulkAll elems + uptoBulkAll spare + 1
  | .agg parts => uptoBulkAll parts + 1
  | .iface _ d => uptoBulk d + 1
  | .map entries => uptoBulkEntries entries + 1
  | .held _ => 1
def uptoBulkAll {H : Type} : List (DataW H) → Nat
  | [] => 0
  | d :: r => uptoBulk d + uptoBulkAll r
def uptoBulkEntries {H : Type} : List (Lit × DataW H) → Nat
  | [] => 0
  | x :: r => uptoBulkEntry x + uptoBulkEntries r
def uptoBulkEntry {H : Type} : Lit × DataW H → Nat
  | (.string bytes, d) => bytes.length + uptoBulk d + 1
  | (_, d) => uptoBulk d + 1
 end
def uptoSmall : (H : Type) → List (DataW H) → Bool := fun _ ds => decide (uptoBulkAll ds ≤ 1048576)
def OpenSpec.upto (s : _root_.Go.ChangeSpec) : _root_.Go.OpenSpec := { _root_.Go.OpenSpec.ofChange s with cond := some uptoSmall }

/-- 'laws.FnExactIsController', WHERE WHAT IT READS IS OF BULK AT MOST 1048576: true; the input reads as it did. -/
def fnExactIsControllerUptoRow : OpenClaim := { program := "ytegmhgdbhpbfiaa", sum := "6e6c03b0c4549986c82b7d31b39f304f517c21e630e795d19b3b927ba3cfc8cb", func := "loop.example/g00949/laws.FnExactIsController", spec := "fnExactIsController", apart := false, narrowed := true }
def FnExactIsControllerUptoSaid : Prop := fnExactIsControllerUptoRow.holds Try.pinned (OpenSpec.upto fnExactIsControllerSpec)

/-- 'laws.FnExactIsAction', WHERE WHAT IT READS IS OF BULK AT MOST 1048576: true; the input reads as it did. -/
def fnExactIsActionUptoRow : OpenClaim := { program := "ytegmhgdbhpbfiaa", sum := "6e6c03b0c4549986c82b7d31b39f304f517c21e630e795d19b3b927ba3cfc8cb", func := "loop.example/g00949/laws.FnExactIsAction", spec := "fnExactIsAction", apart := false, narrowed := true }
def FnExactIsActionUptoSaid : Prop := fnExactIsActionUptoRow.holds Try.pinned (OpenSpec.upto fnExactIsActionSpec)

/-- 'laws.FnExactSafeBound', WHERE WHAT IT READS IS OF BULK AT MOST 1048576: true; the input reads as it did. -/
def fnExactSafeBoundUptoRow : OpenClaim := { program := "ytegmhgdbhpbfiaa", sum := "6e6c03b0c4549986c82b7d31b39f304f517c21e630e795d19b3b927ba3cfc8cb", func := "loop.example/g00949/laws.FnExactSafeBound", spec := "fnExactSafeBound", apart := false, narrowed := true }
def FnExactSafeBoundUptoSaid : Prop := fnExactSafeBoundUptoRow.holds Try.pinned (OpenSpec.upto fnExactSafeBoundSpec)

/-- 'laws.FnExactTrackStep', WHERE WHAT IT READS IS OF BULK AT MOST 1048576: true; the input reads as it did. -/
def fnExactTrackStepUptoRow : OpenClaim := { program := "ytegmhgdbhpbfiaa", sum := "6e6c03b0c4549986c82b7d31b39f304f517c21e630e795d19b3b927ba3cfc8cb", func := "loop.example/g00949/laws.FnExactTrackStep", spec := "fnExactTrackStep", apart := false, narrowed := true }
def FnExactTrackStepUptoSaid : Prop := fnExactTrackStepUptoRow.holds Try.pinned (OpenSpec.upto fnExactTrackStepSpec)

/-- 'laws.FnExactSettlesAfter', WHERE WHAT IT READS IS OF BULK AT MOST 1048576: true; the input reads as it did. -/
def fnExactSettlesAfterUptoRow : OpenClaim := { program := "ytegmhgdbhpbfiaa", sum := "6e6c03b0c4549986c82b7d31b39f304f517c21e630e795d19b3b927ba3cfc8cb", func := "loop.example/g00949/laws.FnExactSettlesAfter", spec := "fnExactSettlesAfter", apart := false, narrowed := true }
def FnExactSettlesAfterUptoSaid : Prop := fnExactSettlesAfterUptoRow.holds Try.pinned (OpenSpec.upto fnExactSettlesAfterSpec)

/-- 'laws.FnExactAreSegments', WHERE WHAT IT READS IS OF BULK AT MOST 1048576: true; the input reads as it did. -/
def fnExactAreSegmentsUptoRow : OpenClaim := { program := "ytegmhgdbhpbfiaa", sum := "6e6c03b0c4549986c82b7d31b39f304f517c21e630e795d19b3b927ba3cfc8cb", func := "loop.example/g00949/laws.FnExactAreSegments", spec := "fnExactAreSegments", apart := false, narrowed := true }
def FnExactAreSegmentsUptoSaid : Prop := fnExactAreSegmentsUptoRow.holds Try.pinned (OpenSpec.upto fnExactAreSegmentsSpec)

end Rows
end Go.Proofs.Ytegmhgdbhpbfiaa
