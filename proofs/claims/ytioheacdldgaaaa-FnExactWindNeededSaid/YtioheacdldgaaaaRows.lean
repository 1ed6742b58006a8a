/-
  No cell of these rows narrows 'for every input' (looked for: loops, veiled, ifaces, maps, wideKeys, modest, calm, conditions, laid).
  DERIVED. THE GIVEN ROWS OF THIS SEAT. 8 by the template 'for every input the law returns true; each argument reads behind the call as it read before'; 0 by the template 'total and deterministic' (their statements: YtioheacdldgaaaaTotals.lean).
  GIVEN WITH THE SEED: the statements are not yours to turn. If you find one false, say at which input.
  Laid BY PROGRAM, IN A SANDBOX (cutbox-rows.mjs): the forced cells as the released guide's own fill.sh prints them over the translation 86d6c23c5f8492e0… (all of the seat's roots in one cut). By AI agents, Wed Nov 11 2026. No macro, syntax, notation, axiom, sorry.
-/
import Derived.Test.YtioheacdldgaaaaChecked
import GoSem.Claim
import GoSem.ClaimJoined
import GoSem.ClaimMapViews
import Derived.JoinedTies
import Derived.KernelRfl
namespace Go.Proofs.Ytioheacdldgaaaa
/- THE CELL 'sum', in the pinned program and in every row, IS THE sha256 OF THE DUMP (.gsa) THAT YtioheacdldgaaaaProg.lean LOADS. Nothing in Lean hashes anything: it is a label: what it is worth is what the hold of that sum in a sandbox is worth. -/
noncomputable def Try.pinned : Pinned := { name := "ytioheacdldgaaaa", sum := "86d6c23c5f8492e03c6339b1f005787fed769a7166da4f557433885dab2203be", checked := Try.checked }
namespace Rows
def none {H : Type} : Left H := { results := [], args := [] }

/-- 'laws.FnExactGreatestLeast': WHATEVER THE INPUT: true; the input reads as it did. -/
def fnExactGreatestLeastSpec : ChangeSpec := { name := "fnExactGreatestLeast", fn := fun _ => fun
  | [d1, d2, d3] => { results := [.lit (.bool true)], args := [d1, d2, d3] }
  | _ => none }
def fnExactGreatestLeastRow : OpenClaim := { program := "ytioheacdldgaaaa", sum := "86d6c23c5f8492e03c6339b1f005787fed769a7166da4f557433885dab2203be", func := "loop.example/g00949/laws.FnExactGreatestLeast", spec := "fnExactGreatestLeast", apart := false }
def FnExactGreatestLeastSaid : Prop := fnExactGreatestLeastRow.holds Try.pinned (OpenSpec.ofChange fnExactGreatestLeastSpec)

/-- ITS FALSE NEIGHBOUR: 'it returns false'. Refute it at one input. -/
def fnExactGreatestLeastWrong : ChangeSpec := { name := "fnExactGreatestLeast", fn := fun _ => fun
  | [d1, d2, d3] => { results := [.lit (.bool false)], args := [d1, d2, d3] }
  | _ => none }
def FnExactGreatestLeastWrongFalsely : Prop := fnExactGreatestLeastRow.holds Try.pinned (OpenSpec.ofChange fnExactGreatestLeastWrong)

/-- 'laws.FnExactSilentHoles': WHATEVER THE INPUT: true; the input reads as it did. -/
def fnExactSilentHolesSpec : ChangeSpec := { name := "fnExactSilentHoles", fn := fun _ => fun
  | [d1, d2, d3] => { results := [.lit (.bool true)], args := [d1, d2, d3] }
  | _ => none }
def fnExactSilentHolesRow : OpenClaim := { program := "ytioheacdldgaaaa", sum := "86d6c23c5f8492e03c6339b1f005787fed769a7166da4f557433885dab2203be", func := "loop.example/g00949/laws.FnExactSilentHoles", spec := "fnExactSilentHoles", apart := false }
def FnExactSilentHolesSaid : Prop := fnExactSilentHolesRow.holds Try.pinned (OpenSpec.ofChange fnExactSilentHolesSpec)

/-- ITS FALSE NEIGHBOUR: 'it returns false'. Refute it at one input. -/
def fnExactSilentHolesWrong : ChangeSpec := { name := "fnExactSilentHoles", fn := fun _ => fun
  | [d1, d2, d3] => { results := [.lit (.bool false)], args := [d1, d2, d3] }
  | _ => none }
def FnExactSilentHolesWrongFalsely : Prop := fnExactSilentHolesRow.holds Try.pinned (OpenSpec.ofChange fnExactSilentHolesWrong)

/-- 'laws.FnExactPlayedBy': WHATEVER THE INPUT: true; the input reads as it did. -/
def fnExactPlayedBySpec : ChangeSpec := { name := "fnExactPlayedBy", fn := fun _ => fun
  | [d1, d2, d3] => { results := [.lit (.bool true)], args := [d1, d2, d3] }
  | _ => none }
def fnExactPlayedByRow : OpenClaim := { program := "ytioheacdldgaaaa", sum := "86d6c23c5f8492e03c6339b1f005787fed769a7166da4f557433885dab2203be", func := "loop.example/g00949/laws.FnExactPlayedBy", spec := "fnExactPlayedBy", apart := false }
def FnExactPlayedBySaid : Prop := fnExactPlayedByRow.holds Try.pinned (OpenSpec.ofChange fnExactPlayedBySpec)

/-- ITS FALSE NEIGHBOUR: 'it returns false'. Refute it at one input. -/
def fnExactPlayedByWrong : ChangeSpec := { name := "fnExactPlayedBy", fn := fun _ => fun
  | [d1, d2, d3] => { results := [.lit (.bool false)], args := [d1, d2, d3] }
  | _ => none }
def FnExactPlayedByWrongFalsely : Prop := fnExactPlayedByRow.holds Try.pinned (OpenSpec.ofChange fnExactPlayedByWrong)

/-- 'laws.FnExactBlurredPairs': WHATEVER THE INPUT: true; the input reads as it did. -/
def fnExactBlurredPairsSpec : ChangeSpec := { name := "fnExactBlurredPairs", fn := fun _ => fun
  | [d1, d2, d3] => { results := [.lit (.bool true)], args := [d1, d2, d3] }
  | _ => none }
def fnExactBlurredPairsRow : OpenClaim := { program := "ytioheacdldgaaaa", sum := "86d6c23c5f8492e03c6339b1f005787fed769a7166da4f557433885dab2203be", func := "loop.example/g00949/laws.FnExactBlurredPairs", spec := "fnExactBlurredPairs", apart := false }
def FnExactBlurredPairsSaid : Prop := fnExactBlurredPairsRow.holds Try.pinned (OpenSpec.ofChange fnExactBlurredPairsSpec)

/-- ITS FALSE NEIGHBOUR: 'it returns false'. Refute it at one input. -/
def fnExactBlurredPairsWrong : ChangeSpec := { name := "fnExactBlurredPairs", fn := fun _ => fun
  | [d1, d2, d3] => { results := [.lit (.bool false)], args := [d1, d2, d3] }
  | _ => none }
def FnExactBlurredPairsWrongFalsely : Prop := fnExactBlurredPairsRow.holds Try.pinned (OpenSpec.ofChange fnExactBlurredPairsWrong)

/-- 'laws.FnExactIsTrueTo': WHATEVER THE INPUT: true; the input reads as it did. -/
def fnExactIsTrueToSpec : ChangeSpec := { name := "fnExactIsTrueTo", fn := fun _ => fun
  | [d1, d2, d3, d4] => { results := [.lit (.bool true)], args := [d1, d2, d3, d4] }
  | _ => none }
def fnExactIsTrueToRow : OpenClaim := { program := "ytioheacdldgaaaa", sum := "86d6c23c5f8492e03c6339b1f005787fed769a7166da4f557433885dab2203be", func := "loop.example/g00949/laws.FnExactIsTrueTo", spec := "fnExactIsTrueTo", apart := false }
def FnExactIsTrueToSaid : Prop := fnExactIsTrueToRow.holds Try.pinned (OpenSpec.ofChange fnExactIsTrueToSpec)

/-- ITS FALSE NEIGHBOUR: 'it returns false'. Refute it at one input. -/
def fnExactIsTrueToWrong : ChangeSpec := { name := "fnExactIsTrueTo", fn := fun _ => fun
  | [d1, d2, d3, d4] => { results := [.lit (.bool false)], args := [d1, d2, d3, d4] }
  | _ => none }
def FnExactIsTrueToWrongFalsely : Prop := fnExactIsTrueToRow.holds Try.pinned (OpenSpec.ofChange fnExactIsTrueToWrong)

/-- 'laws.FnExactWorstLag': WHATEVER THE INPUT: true; the input reads as it did. -/
def fnExactWorstLagSpec : ChangeSpec := { name := "fnExactWorstLag", fn := fun _ => fun
  | [d1, d2, d3, d4] => { results := [.lit (.bool true)], args := [d1, d2, d3, d4] }
  | _ => none }
def fnExactWorstLagRow : OpenClaim := { program := "ytioheacdldgaaaa", sum := "86d6c23c5f8492e03c6339b1f005787fed769a7166da4f557433885dab2203be", func := "loop.example/g00949/laws.FnExactWorstLag", spec := "fnExactWorstLag", apart := false }
def FnExactWorstLagSaid : Prop := fnExactWorstLagRow.holds Try.pinned (OpenSpec.ofChange fnExactWorstLagSpec)

/-- ITS FALSE NEIGHBOUR: 'it returns false'. Refute it at one input. -/
def fnExactWorstLagWrong : ChangeSpec := { name := "fnExactWorstLag", fn := fun _ => fun
  | [d1, d2, d3, d4] => { results := [.lit (.bool false)], args := [d1, d2, d3, d4] }
  | _ => none }
def FnExactWorstLagWrongFalsely : Prop := fnExactWorstLagRow.holds Try.pinned (OpenSpec.ofChange fnExactWorstLagWrong)

/-- 'laws.FnExactWindNeeded': WHATEVER THE INPUT: true; the input reads as it did. -/
def fnExactWindNeededSpec : ChangeSpec := { name := "fnExactWindNeeded", fn := fun _ => fun
  | [d1, d2, d3] => { results := [.lit (.bool true)], args := [d1, d2, d3] }
  | _ => none }
def fnExactWindNeededRow : OpenClaim := { program := "ytioheacdldgaaaa", sum := "86d6c23c5f8492e03c6339b1f005787fed769a7166da4f557433885dab2203be", func := "loop.example/g00949/laws.FnExactWindNeeded", spec := "fnExactWindNeeded", recurses := true, apart := false }
def FnExactWindNeededSaid : Prop := fnExactWindNeededRow.holds Try.pinned (OpenSpec.ofChange fnExactWindNeededSpec)

/-- ITS FALSE NEIGHBOUR: 'it returns false'. Refute it at one input. -/
def fnExactWindNeededWrong : ChangeSpec := { name := "fnExactWindNeeded", fn := fun _ => fun
  | [d1, d2, d3] => { results := [.lit (.bool false)], args := [d1, d2, d3] }
  | _ => none }
def FnExactWindNeededWrongFalsely : Prop := fnExactWindNeededRow.holds Try.pinned (OpenSpec.ofChange fnExactWindNeededWrong)

/-- 'laws.FnExactPitchesAt': WHATEVER THE INPUT: true; the input reads as it did. -/
def fnExactPitchesAtSpec : ChangeSpec := { name := "fnExactPitchesAt", fn := fun _ => fun
  | [d1, d2, d3, d4] => { results := [.lit (.bool true)], args := [d1, d2, d3, d4] }
  | _ => none }
def fnExactPitchesAtRow : OpenClaim := { program := "ytioheacdldgaaaa", sum := "86d6c23c5f8492e03c6339b1f005787fed769a7166da4f557433885dab2203be", func := "loop.example/g00949/laws.FnExactPitchesAt", spec := "fnExactPitchesAt", recurses := true, apart := false }
def FnExactPitchesAtSaid : Prop := fnExactPitchesAtRow.holds Try.pinned (OpenSpec.ofChange fnExactPitchesAtSpec)

/-- ITS FALSE NEIGHBOUR: 'it returns false'. Refute it at one input. -/
def fnExactPitchesAtWrong : ChangeSpec := { name := "fnExactPitchesAt", fn := fun _ => fun
  | [d1, d2, d3, d4] => { results := [.lit (.bool false)], args := [d1, d2, d3, d4] }
  | _ => none }
def FnExactPitchesAtWrongFalsely : Prop := fnExactPitchesAtRow.holds Try.pinned (OpenSpec.ofChange fnExactPitchesAtWrong)

/- THE SECOND FORM. 'bulk': how many values and letters a reading holds, each counted each time it is reached (what is shared counts as often as it is met; a slice's spare places count too). A statement '..UptoSaid' is the law's where the arguments, and the package variables that the reading takes, are together of bulk at most 1048576: NARROWER than '..Said'. Prove '..Said' where nothing that the law and all that it calls make is longer than what came in: it says more and counts as full. Else prove '..UptoSaid'. A law counts once. -/
mutual
def uptoBulk {H : Type} : DataW H → Nat
  | .lit (.string bytes) => bytes.length + 1
  | .lit _ => 1
  | .nil => 1
  | .ptr d => uptoBulk d + 1
  | .slice elems spare => uptoBulkAll elems + uptoBulkAll spare + 1
  | .agg parts => uptoBulkAll parts + 1
  | .iface _ d => uptoBulk d + 1
  | .map entries => uptoBulkEntries entries + 1
  | .held _ => 1
def uptoBulkAll {H : Type} : List (DataW H) → Nat
  | [] => 0
  | d :: r => uptoBulk d + uptoBulkAll r
def uptoBulkEntries {H : Type} : List (Lit × DataW H) → Nat
  | [] => 0
  | x :: r => uptoBulkEntry x + uptoBulkEntries r
def uptoBulkEntry {H : Type} : Lit × DataW H → Nat
  | (.string bytes, d) => bytes.length + uptoBulk d + 1
  | (_, d) => uptoBulk d + 1
 end
def uptoSmall : (H : Type) → List (DataW H) → Bool := fun _ ds => decide (uptoBulkAll ds ≤ 1048576)
def OpenSpec.upto (s : _root_.Go.ChangeSpec) : _root_.Go.OpenSpec := { _root_.Go.OpenSpec.ofChange s with cond := some uptoSmall }

/-- 'laws.FnExactGreatestLeast', WHERE WHAT IT READS IS OF BULK AT MOST 1048576: true; the input reads as it did. -/
def fnExactGreatestLeastUptoRow : OpenClaim := { program := "ytioheacdldgaaaa", sum := "86d6c23c5f8492e03c6339b1f005787fed769a7166da4f557433885dab2203be", func := "loop.example/g00949/laws.FnExactGreatestLeast", spec := "fnExactGreatestLeast", apart := false, narrowed := true }
def FnExactGreatestLeastUptoSaid : Prop := fnExactGreatestLeastUptoRow.holds Try.pinned (OpenSpec.upto fnExactGreatestLeastSpec)

/-- 'laws.FnExactSilentHoles', WHERE WHAT IT READS IS OF BULK AT MOST 1048576: true; the input reads as it did. -/
def fnExactSilentHolesUptoRow : OpenClaim := { program := "ytioheacdldgaaaa", sum := "86d6c23c5f8492e03c6339b1f005787fed769a7166da4f557433885dab2203be", func := "loop.example/g00949/laws.FnExactSilentHoles", spec := "fnExactSilentHoles", apart := false, narrowed := true }
def FnExactSilentHolesUptoSaid : Prop := fnExactSilentHolesUptoRow.holds Try.pinned (OpenSpec.upto fnExactSilentHolesSpec)

/-- 'laws.FnExactPlayedBy', WHERE WHAT IT READS IS OF BULK AT MOST 1048576: true; the input reads as it did. -/
def fnExactPlayedByUptoRow : OpenClaim := { program := "ytioheacdldgaaaa", sum := "86d6c23c5f8492e03c6339b1f005787fed769a7166da4f557433885dab2203be", func := "loop.example/g00949/laws.FnExactPlayedBy", spec := "fnExactPlayedBy", apart := false, narrowed := true }
def FnExactPlayedByUptoSaid : Prop := fnExactPlayedByUptoRow.holds Try.pinned (OpenSpec.upto fnExactPlayedBySpec)

/-- 'laws.FnExactBlurredPairs', WHERE WHAT IT READS IS OF BULK AT MOST 1048576: true; the input reads as it did. -/
def fnExactBlurredPairsUptoRow : OpenClaim := { program := "ytioheacdldgaaaa", sum := "86d6c23c5f8492e03c6339b1f005787fed769a7166da4f557433885dab2203be", func := "loop.example/g00949/laws.FnExactBlurredPairs", spec := "fnExactBlurredPairs", apart := false, narrowed := true }
def FnExactBlurredPairsUptoSaid : Prop := fnExactBlurredPairsUptoRow.holds Try.pinned (OpenSpec.upto fnExactBlurredPairsSpec)

/-- 'laws.FnExactIsTrueTo', WHERE WHAT IT READS IS OF BULK AT MOST 1048576: true; the input reads as it did. -/
def fnExactIsTrueToUptoRow : OpenClaim := { program := "ytioheacdldgaaaa", sum := "86d6c23c5f8492e03c6339b1f005787fed769a7166da4f557433885dab2203be", func := "loop.example/g00949/laws.FnExactIsTrueTo", spec := "fnExactIsTrueTo", apart := false, narrowed := true }
def FnExactIsTrueToUptoSaid : Prop := fnExactIsTrueToUptoRow.holds Try.pinned (OpenSpec.upto fnExactIsTrueToSpec)

/-- 'laws.FnExactWorstLag', WHERE WHAT IT READS IS OF BULK AT MOST 1048576: true; the input reads as it did. -/
def fnExactWorstLagUptoRow : OpenClaim := { program := "ytioheacdldgaaaa", sum := "86d6c23c5f8492e03c6339b1f005787fed769a7166da4f557433885dab2203be", func := "loop.example/g00949/laws.FnExactWorstLag", spec := "fnExactWorstLag", apart := false, narrowed := true }
def FnExactWorstLagUptoSaid : Prop := fnExactWorstLagUptoRow.holds Try.pinned (OpenSpec.upto fnExactWorstLagSpec)

/-- 'laws.FnExactWindNeeded', WHERE WHAT IT READS IS OF BULK AT MOST 1048576: true; the input reads as it did. -/
def fnExactWindNeededUptoRow : OpenClaim := { program := "ytioheacdldgaaaa", sum := "86d6c23c5f8492e03c6339b1f005787fed769a7166da4f557433885dab2203be", func := "loop.example/g00949/laws.FnExactWindNeeded", spec := "fnExactWindNeeded", recurses := true, apart := false, narrowed := true }
def FnExactWindNeededUptoSaid : Prop := fnExactWindNeededUptoRow.holds Try.pinned (OpenSpec.upto fnExactWindNeededSpec)

/-- 'laws.FnExactPitchesAt', WHERE WHAT IT READS IS OF BULK AT MOST 1048576: true; the input reads as it did. -/
def fnExactPitchesAtUptoRow : OpenClaim := { program := "ytioheacdldgaaaa", sum := "86d6c23c5f8492e03c6339b1f005787fed769a7166da4f557433885dab2203be", func := "loop.example/g00949/laws.FnExactPitchesAt", spec := "fnExactPitchesAt", recurses := true, apart := false, narrowed := true }
def FnExactPitchesAtUptoSaid : Prop := fnExactPitchesAtUptoRow.holds Try.pinned (OpenSpec.upto fnExactPitchesAtSpec)

end Rows
end Go.Proofs.Ytioheacdldgaaaa
