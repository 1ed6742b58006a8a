/-
  No cell of these rows narrows 'for every input' (looked for: loops, veiled, ifaces, maps, wideKeys, modest, calm, conditions, laid).
  DERIVED. THE GIVEN ROWS OF THIS SEAT. 8 by the template 'for every input the law returns true; each argument reads behind the call as it read before'; 0 by the template 'total and deterministic' (their statements: YtibohlcmkocnoaaTotals.lean).
  GIVEN WITH THE SEED: the statements are not yours to turn. If you find one false, say at which input.
  Laid BY PROGRAM, IN A SANDBOX (cutbox-rows.mjs): the forced cells as the released guide's own fill.sh prints them over the translation 71c65c6a84b92a44… (all of the seat's roots in one cut). By AI agents, Wed Nov 11 2026. No macro, syntax, notation, axiom, sorry.
-/
import Derived.Test.YtibohlcmkocnoaaChecked
import GoSem.Claim
import GoSem.ClaimJoined
import GoSem.ClaimMapViews
import Derived.JoinedTies
import Derived.KernelRfl
namespace Go.Proofs.Ytibohlcmkocnoaa
/- THE CELL 'sum', in the pinned program and in every row, IS THE sha256 OF THE DUMP (.gsa) THAT YtibohlcmkocnoaaProg.lean LOADS. Nothing in Lean hashes anything: it is a label: what it is worth is what the hold of that sum in a sandbox is worth. -/
noncomputable def Try.pinned : Pinned := { name := "ytibohlcmkocnoaa", sum := "71c65c6a84b92a44cbee71a38982842a933a224b56718ed11a60057042ac1780", checked := Try.checked }
namespace Rows
def none {H : Type} : Left H := { results := [], args := [] }

/-- 'laws.FnExactWorstError': WHATEVER THE INPUT: true; the input reads as it did. -/
def fnExactWorstErrorSpec : ChangeSpec := { name := "fnExactWorstError", fn := fun _ => fun
  | [d] => { results := [.lit (.bool true)], args := [d] }
  | _ => none }
def fnExactWorstErrorRow : OpenClaim := { program := "ytibohlcmkocnoaa", sum := "71c65c6a84b92a44cbee71a38982842a933a224b56718ed11a60057042ac1780", func := "loop.example/g00949/laws.FnExactWorstError", spec := "fnExactWorstError", apart := false }
def FnExactWorstErrorSaid : Prop := fnExactWorstErrorRow.holds Try.pinned (OpenSpec.ofChange fnExactWorstErrorSpec)

/-- ITS FALSE NEIGHBOUR: 'it returns false'. Refute it at one input. -/
def fnExactWorstErrorWrong : ChangeSpec := { name := "fnExactWorstError", fn := fun _ => fun
  | [d] => { results := [.lit (.bool false)], args := [d] }
  | _ => none }
def FnExactWorstErrorWrongFalsely : Prop := fnExactWorstErrorRow.holds Try.pinned (OpenSpec.ofChange fnExactWorstErrorWrong)

/-- 'laws.FnExactIsWithin': WHATEVER THE INPUT: true; the input reads as it did. -/
def fnExactIsWithinSpec : ChangeSpec := { name := "fnExactIsWithin", fn := fun _ => fun
  | [d1, d2] => { results := [.lit (.bool true)], args := [d1, d2] }
  | _ => none }
def fnExactIsWithinRow : OpenClaim := { program := "ytibohlcmkocnoaa", sum := "71c65c6a84b92a44cbee71a38982842a933a224b56718ed11a60057042ac1780", func := "loop.example/g00949/laws.FnExactIsWithin", spec := "fnExactIsWithin", apart := false }
def FnExactIsWithinSaid : Prop := fnExactIsWithinRow.holds Try.pinned (OpenSpec.ofChange fnExactIsWithinSpec)

/-- ITS FALSE NEIGHBOUR: 'it returns false'. Refute it at one input. -/
def fnExactIsWithinWrong : ChangeSpec := { name := "fnExactIsWithin", fn := fun _ => fun
  | [d1, d2] => { results := [.lit (.bool false)], args := [d1, d2] }
  | _ => none }
def FnExactIsWithinWrongFalsely : Prop := fnExactIsWithinRow.holds Try.pinned (OpenSpec.ofChange fnExactIsWithinWrong)

/-- 'laws.FnExactBestOffset': WHATEVER THE INPUT: true; the input reads as it did. -/
def fnExactBestOffsetSpec : ChangeSpec := { name := "fnExactBestOffset", fn := fun _ => fun
  | [d] => { results := [.lit (.bool true)], args := [d] }
  | _ => none }
def fnExactBestOffsetRow : OpenClaim := { program := "ytibohlcmkocnoaa", sum := "71c65c6a84b92a44cbee71a38982842a933a224b56718ed11a60057042ac1780", func := "loop.example/g00949/laws.FnExactBestOffset", spec := "fnExactBestOffset", apart := false }
def FnExactBestOffsetSaid : Prop := fnExactBestOffsetRow.holds Try.pinned (OpenSpec.ofChange fnExactBestOffsetSpec)

/-- ITS FALSE NEIGHBOUR: 'it returns false'. Refute it at one input. -/
def fnExactBestOffsetWrong : ChangeSpec := { name := "fnExactBestOffset", fn := fun _ => fun
  | [d] => { results := [.lit (.bool false)], args := [d] }
  | _ => none }
def FnExactBestOffsetWrongFalsely : Prop := fnExactBestOffsetRow.holds Try.pinned (OpenSpec.ofChange fnExactBestOffsetWrong)

/-- 'laws.FnExactPromisedTimes': WHATEVER THE INPUT: true; the input reads as it did. -/
def fnExactPromisedTimesSpec : ChangeSpec := { name := "fnExactPromisedTimes", fn := fun _ => fun
  | [d1, d2, d3] => { results := [.lit (.bool true)], args := [d1, d2, d3] }
  | _ => none }
def fnExactPromisedTimesRow : OpenClaim := { program := "ytibohlcmkocnoaa", sum := "71c65c6a84b92a44cbee71a38982842a933a224b56718ed11a60057042ac1780", func := "loop.example/g00949/laws.FnExactPromisedTimes", spec := "fnExactPromisedTimes", apart := false }
def FnExactPromisedTimesSaid : Prop := fnExactPromisedTimesRow.holds Try.pinned (OpenSpec.ofChange fnExactPromisedTimesSpec)

/-- ITS FALSE NEIGHBOUR: 'it returns false'. Refute it at one input. -/
def fnExactPromisedTimesWrong : ChangeSpec := { name := "fnExactPromisedTimes", fn := fun _ => fun
  | [d1, d2, d3] => { results := [.lit (.bool false)], args := [d1, d2, d3] }
  | _ => none }
def FnExactPromisedTimesWrongFalsely : Prop := fnExactPromisedTimesRow.holds Try.pinned (OpenSpec.ofChange fnExactPromisedTimesWrong)

/-- 'laws.FnExactCountErased': WHATEVER THE INPUT: true; the input reads as it did. -/
def fnExactCountErasedSpec : ChangeSpec := { name := "fnExactCountErased", fn := fun _ => fun
  | [d] => { results := [.lit (.bool true)], args := [d] }
  | _ => none }
def fnExactCountErasedRow : OpenClaim := { program := "ytibohlcmkocnoaa", sum := "71c65c6a84b92a44cbee71a38982842a933a224b56718ed11a60057042ac1780", func := "loop.example/g00949/laws.FnExactCountErased", spec := "fnExactCountErased", inPlace := ["internal/bytealg.IndexByteString", "internal/bytealg.CountString", "internal/bytealg.IndexString"], named := ["internal/bytealg.MaxLen"], apart := false }
def FnExactCountErasedSaid : Prop := fnExactCountErasedRow.holds Try.pinned (OpenSpec.ofChange fnExactCountErasedSpec)

/-- ITS FALSE NEIGHBOUR: 'it returns false'. Refute it at one input. -/
def fnExactCountErasedWrong : ChangeSpec := { name := "fnExactCountErased", fn := fun _ => fun
  | [d] => { results := [.lit (.bool false)], args := [d] }
  | _ => none }
def FnExactCountErasedWrongFalsely : Prop := fnExactCountErasedRow.holds Try.pinned (OpenSpec.ofChange fnExactCountErasedWrong)

/-- 'laws.FnExactPeelBlock': WHATEVER THE INPUT: true; the input reads as it did. -/
def fnExactPeelBlockSpec : ChangeSpec := { name := "fnExactPeelBlock", fn := fun _ => fun
  | [d] => { results := [.lit (.bool true)], args := [d] }
  | _ => none }
def fnExactPeelBlockRow : OpenClaim := { program := "ytibohlcmkocnoaa", sum := "71c65c6a84b92a44cbee71a38982842a933a224b56718ed11a60057042ac1780", func := "loop.example/g00949/laws.FnExactPeelBlock", spec := "fnExactPeelBlock", inPlace := ["internal/bytealg.IndexByteString"], unfollowed := true, recurses := true, apart := false }
def FnExactPeelBlockSaid : Prop := fnExactPeelBlockRow.holds Try.pinned (OpenSpec.ofChange fnExactPeelBlockSpec)

/-- ITS FALSE NEIGHBOUR: 'it returns false'. Refute it at one input. -/
def fnExactPeelBlockWrong : ChangeSpec := { name := "fnExactPeelBlock", fn := fun _ => fun
  | [d] => { results := [.lit (.bool false)], args := [d] }
  | _ => none }
def FnExactPeelBlockWrongFalsely : Prop := fnExactPeelBlockRow.holds Try.pinned (OpenSpec.ofChange fnExactPeelBlockWrong)

/-- 'laws.FnExactCorrectBlock': WHATEVER THE INPUT: true; the input reads as it did. -/
def fnExactCorrectBlockSpec : ChangeSpec := { name := "fnExactCorrectBlock", fn := fun _ => fun
  | [d] => { results := [.lit (.bool true)], args := [d] }
  | _ => none }
def fnExactCorrectBlockRow : OpenClaim := { program := "ytibohlcmkocnoaa", sum := "71c65c6a84b92a44cbee71a38982842a933a224b56718ed11a60057042ac1780", func := "loop.example/g00949/laws.FnExactCorrectBlock", spec := "fnExactCorrectBlock", inPlace := ["internal/bytealg.IndexByteString"], unfollowed := true, recurses := true, apart := false }
def FnExactCorrectBlockSaid : Prop := fnExactCorrectBlockRow.holds Try.pinned (OpenSpec.ofChange fnExactCorrectBlockSpec)

/-- ITS FALSE NEIGHBOUR: 'it returns false'. Refute it at one input. -/
def fnExactCorrectBlockWrong : ChangeSpec := { name := "fnExactCorrectBlock", fn := fun _ => fun
  | [d] => { results := [.lit (.bool false)], args := [d] }
  | _ => none }
def FnExactCorrectBlockWrongFalsely : Prop := fnExactCorrectBlockRow.holds Try.pinned (OpenSpec.ofChange fnExactCorrectBlockWrong)

/-- 'laws.FnExactDecodeBlock': WHATEVER THE INPUT: true; the input reads as it did. -/
def fnExactDecodeBlockSpec : ChangeSpec := { name := "fnExactDecodeBlock", fn := fun _ => fun
  | [d] => { results := [.lit (.bool true)], args := [d] }
  | _ => none }
def fnExactDecodeBlockRow : OpenClaim := { program := "ytibohlcmkocnoaa", sum := "71c65c6a84b92a44cbee71a38982842a933a224b56718ed11a60057042ac1780", func := "loop.example/g00949/laws.FnExactDecodeBlock", spec := "fnExactDecodeBlock", inPlace := ["internal/bytealg.IndexByteString"], unfollowed := true, recurses := true, apart := false }
def FnExactDecodeBlockSaid : Prop := fnExactDecodeBlockRow.holds Try.pinned (OpenSpec.ofChange fnExactDecodeBlockSpec)

/-- ITS FALSE NEIGHBOUR: 'it returns false'. Refute it at one input. -/
def fnExactDecodeBlockWrong : ChangeSpec := { name := "fnExactDecodeBlock", fn := fun _ => fun
  | [d] => { results := [.lit (.bool false)], args := [d] }
  | _ => none }
def FnExactDecodeBlockWrongFalsely : Prop := fnExactDecodeBlockRow.holds Try.pinned (OpenSpec.ofChange fnExactDecodeBlockWrong)

/- THE SECOND FORM. 'bulk': how many values and letters a reading holds, each counted each time it is reached (what is shared counts as often as it is met; a slice's spare places count too). A statement '..UptoSaid' is the law's where the arguments, and the package variables that the reading takes, are together of bulk at most 1048576: NARROWER than '..Said'. Prove '..Said' where nothing that the law and all that it calls make is longer than what came in: it says more and counts as full. Else prove '..UptoSaid'. A law counts once. -/
mutual
def uptoBulk {H : Type} : DataW H → Nat
  | .lit (.string bytes) => bytes.length + 1
  | .lit _ => 1
  | .nil => 1
  | .ptr d => uptoBulk d + 1
  | .slice elems spare => uptoBulkAll elems + uptoBulkAll spare + 1
  | .agg parts => uptoBulkAll parts + 1
  | .iface _ d => uptoBulk d + 1
  | .map entries => uptoBulkEntries entries + 1
  | .held _ => 1
def uptoBulkAll {H : Type} : List (DataW H) → Nat
  | [] => 0
  | d :: r => uptoBulk d + uptoBulkAll r
def uptoBulkEntries {H : Type} : List (Lit × DataW H) → Nat
  | [] => 0
  | x :: r => uptoBulkEntry x + uptoBulkEntries r
def uptoBulkEntry {H : Type} : Lit × DataW H → Nat
  | (.string bytes, d) => bytes.length + uptoBulk d + 1
  | (_, d) => uptoBulk d + 1
 end
def uptoSmall : (H : Type) → List (DataW H) → Bool := fun _ ds => decide (uptoBulkAll ds ≤ 1048576)
def OpenSpec.upto (s : _root_.Go.ChangeSpec) : _root_.Go.OpenSpec := { _root_.Go.OpenSpec.ofChange s with cond := some uptoSmall }

/-- 'laws.FnExactWorstError', WHERE WHAT IT READS IS OF BULK AT MOST 1048576: true; the input reads as it did. -/
def fnExactWorstErrorUptoRow : OpenClaim := { program := "ytibohlcmkocnoaa", sum := "71c65c6a84b92a44cbee71a38982842a933a224b56718ed11a60057042ac1780", func := "loop.example/g00949/laws.FnExactWorstError", spec := "fnExactWorstError", apart := false, narrowed := true }
def FnExactWorstErrorUptoSaid : Prop := fnExactWorstErrorUptoRow.holds Try.pinned (OpenSpec.upto fnExactWorstErrorSpec)

/-- 'laws.FnExactIsWithin', WHERE WHAT IT READS IS OF BULK AT MOST 1048576: true; the input reads as it did. -/
def fnExactIsWithinUptoRow : OpenClaim := { program := "ytibohlcmkocnoaa", sum := "71c65c6a84b92a44cbee71a38982842a933a224b56718ed11a60057042ac1780", func := "loop.example/g00949/laws.FnExactIsWithin", spec := "fnExactIsWithin", apart := false, narrowed := true }
def FnExactIsWithinUptoSaid : Prop := fnExactIsWithinUptoRow.holds Try.pinned (OpenSpec.upto fnExactIsWithinSpec)

/-- 'laws.FnExactBestOffset', WHERE WHAT IT READS IS OF BULK AT MOST 1048576: true; the input reads as it did. -/
def fnExactBestOffsetUptoRow : OpenClaim := { program := "ytibohlcmkocnoaa", sum := "71c65c6a84b92a44cbee71a38982842a933a224b56718ed11a60057042ac1780", func := "loop.example/g00949/laws.FnExactBestOffset", spec := "fnExactBestOffset", apart := false, narrowed := true }
def FnExactBestOffsetUptoSaid : Prop := fnExactBestOffsetUptoRow.holds Try.pinned (OpenSpec.upto fnExactBestOffsetSpec)

/-- 'laws.FnExactPromisedTimes', WHERE WHAT IT READS IS OF BULK AT MOST 1048576: true; the input reads as it did. -/
def fnExactPromisedTimesUptoRow : OpenClaim := { program := "ytibohlcmkocnoaa", sum := "71c65c6a84b92a44cbee71a38982842a933a224b56718ed11a60057042ac1780", func := "loop.example/g00949/laws.FnExactPromisedTimes", spec := "fnExactPromisedTimes", apart := false, narrowed := true }
def FnExactPromisedTimesUptoSaid : Prop := fnExactPromisedTimesUptoRow.holds Try.pinned (OpenSpec.upto fnExactPromisedTimesSpec)

/-- 'laws.FnExactCountErased', WHERE WHAT IT READS IS OF BULK AT MOST 1048576: true; the input reads as it did. -/
def fnExactCountErasedUptoRow : OpenClaim := { program := "ytibohlcmkocnoaa", sum := "71c65c6a84b92a44cbee71a38982842a933a224b56718ed11a60057042ac1780", func := "loop.example/g00949/laws.FnExactCountErased", spec := "fnExactCountErased", inPlace := ["internal/bytealg.IndexByteString", "internal/bytealg.CountString", "internal/bytealg.IndexString"], named := ["internal/bytealg.MaxLen"], apart := false, narrowed := true }
def FnExactCountErasedUptoSaid : Prop := fnExactCountErasedUptoRow.holds Try.pinned (OpenSpec.upto fnExactCountErasedSpec)

/-- 'laws.FnExactPeelBlock', WHERE WHAT IT READS IS OF BULK AT MOST 1048576: true; the input reads as it did. -/
def fnExactPeelBlockUptoRow : OpenClaim := { program := "ytibohlcmkocnoaa", sum := "71c65c6a84b92a44cbee71a38982842a933a224b56718ed11a60057042ac1780", func := "loop.example/g00949/laws.FnExactPeelBlock", spec := "fnExactPeelBlock", inPlace := ["internal/bytealg.IndexByteString"], unfollowed := true, recurses := true, apart := false, narrowed := true }
def FnExactPeelBlockUptoSaid : Prop := fnExactPeelBlockUptoRow.holds Try.pinned (OpenSpec.upto fnExactPeelBlockSpec)

/-- 'laws.FnExactCorrectBlock', WHERE WHAT IT READS IS OF BULK AT MOST 1048576: true; the input reads as it did. -/
def fnExactCorrectBlockUptoRow : OpenClaim := { program := "ytibohlcmkocnoaa", sum := "71c65c6a84b92a44cbee71a38982842a933a224b56718ed11a60057042ac1780", func := "loop.example/g00949/laws.FnExactCorrectBlock", spec := "fnExactCorrectBlock", inPlace := ["internal/bytealg.IndexByteString"], unfollowed := true, recurses := true, apart := false, narrowed := true }
def FnExactCorrectBlockUptoSaid : Prop := fnExactCorrectBlockUptoRow.holds Try.pinned (OpenSpec.upto fnExactCorrectBlockSpec)

/-- 'laws.FnExactDecodeBlock', WHERE WHAT IT READS IS OF BULK AT MOST 1048576: true; the input reads as it did. -/
def fnExactDecodeBlockUptoRow : OpenClaim := { program := "ytibohlcmkocnoaa", sum := "71c65c6a84b92a44cbee71a38982842a933a224b56718ed11a60057042ac1780", func := "loop.example/g00949/laws.FnExactDecodeBlock", spec := "fnExactDecodeBlock", inPlace := ["internal/bytealg.IndexByteString"], unfollowed := true, recurses := true, apart := false, narrowed := true }
def FnExactDecodeBlockUptoSaid : Prop := fnExactDecodeBlockUptoRow.holds Try.pinned (OpenSpec.upto fnExactDecodeBlockSpec)

end Rows
end Go.Proofs.Ytibohlcmkocnoaa
