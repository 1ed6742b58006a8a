/- The program's PromisedTimes returns what the reference's returns, for all arguments.: the row, for every input: out of the printed walk and the pure statement. No conditions beyond the given statement's. -/
import Derived.Test.YtjjjikdpegogcaaRows
import Derived.Test.YtjjjikdpegogcaaPRrx8
import Derived.Test.YtjjjikdpegogcaaPureFnExactPromisedTimes
import Derived.Test.YtjjjikdpegogcaaOpn
import Derived.WalkKit
import Derived.ProofKit
import Derived.OpenShut
import Derived.ShutString
import Derived.ChangeOld
import Derived.Below
import Derived.SizedLaws
namespace Go.Proofs.Ytjjjikdpegogcaa.fnExactPromisedTimes
open Go.ChangeShapes Go.WideShapes Go.ChangeAt Go.RowKit Go.Proofs.YtjjjikdpegogcaaW.PrintWords
theorem own : ownKnob Try.prog.godebug = none := by kernel_rfl
theorem laidOut : laidOutB Try.prog = true := by kernel_rfl
set_option maxRecDepth 100000 in
theorem lifted (os : Os) (started : os.Started) (H : Type) (enc : TypeId × Value → H) :
    ReturnsInHanded {} Try.checked os 3 .any (Rows.fnExactPromisedTimesSpec.pre6 enc Try.prog Try.f3 Rows.fnExactPromisedTimesRow.domain false) (Rows.fnExactPromisedTimesSpec.post enc Try.prog Try.f3 false true false false) := by
  refine returnsInHanded_of_change_sized (C := Try.checked) own started (by kernel_rfl) Try.func3
    (ChangeSpec.witness6 (enc := enc) (C := Try.checked) false ⟨#[], #[.slice none 0 0, .agg #[.int .i64 0, .int .i64 0, .int .i64 0], .int .i64 0], []⟩ 8 (by kernel_rfl) (by kernel_rfl) (by kernel_rfl) (by kernel_rfl)) ?_
  intro W base args ds gs before hval0 hW hcnd hsz0 _
  have hval : ∀ (j : Nat) t v, Try.f3.params[j]? = some t → args[j]? = some v → Value.okWide Try.prog W .any base t v := hval0
  have hW' := hW
  obtain ⟨p, q, hA0, hV, rfl, hfz, hnd⟩ := hW
  have hA : DataW.TrodAll enc Try.prog W 0 (fun _ => true) true Try.f3.params.toList args.toList ds p := hA0
  rw [Try.params3] at hA hval
  obtain ⟨v0, vs0, d0, ds0, p0, q0, hargs, rfl, rfl, h0, r0⟩ := trodAll_cons hA
  obtain ⟨v1, vs1, d1, ds1, p1, q1, rfl, rfl, rfl, h1, r1⟩ := trodAll_cons r0
  obtain ⟨v2, vs2, d2, ds2, p2, q2, rfl, rfl, rfl, h2, r2⟩ := trodAll_cons r1
  obtain ⟨rfl, rfl, rfl⟩ := trodAll_nil r2
  obtain rfl : args = #[v0, v1, v2] := by cases args; simp_all
  obtain ⟨rfl, rfl⟩ := trodVars_none hV
  have lt0 : ∀ x ∈ p0, x.block < W.heap.size := by obtain ⟨m, hm⟩ := h0; exact DataW.trod_lt m _ _ _ hm
  obtain ⟨A0, c0, l0, rfl, y0, z0, w0⟩ := Opn.Opens.arg_slice (k := PRr.k84) Try.underlying22 (Opn.Opens.slice Try.underlying22 (by kernel_rfl) (Opn.Opens.iso (Opn.Opens.three Try.underlying84 (by kernel_rfl) rfl rfl rfl (Opn.Opens.int Try.underlying3 (by kernel_rfl)) (Opn.Opens.int Try.underlying3 (by kernel_rfl)) (Opn.Opens.int Try.underlying3 (by kernel_rfl))) (fun x : PRr.S84 => (x.f0, x.f1, x.f2)) (fun x => ⟨x.1, x.2.1, x.2.2⟩) (fun _ => rfl))) (hval 0 22 v0 rfl rfl) h0
  have lt1 : ∀ x ∈ p1, x.block < W.heap.size := by obtain ⟨m, hm⟩ := h1; exact DataW.trod_lt m _ _ _ hm
  obtain ⟨cs1, x1, rfl, K1, w1⟩ := Opn.Opens.arg_struct Try.underlying24 (Opn.Opens.three Try.underlying24 (by kernel_rfl) rfl rfl rfl (Opn.Opens.int Try.underlying3 (by kernel_rfl)) (Opn.Opens.int Try.underlying3 (by kernel_rfl)) (Opn.Opens.int Try.underlying3 (by kernel_rfl))) (hval 1 24 v1 rfl rfl) h1
  obtain ⟨a1_0, a1_1, a1_2⟩ := x1
  obtain ⟨_, _, rfl, rfl, ⟨_, _, rfl, rfl, rfl⟩⟩ := K1
  obtain ⟨w1_0, w1_1, w1_2⟩ := w1
  have lt2 : ∀ x ∈ p2, x.block < W.heap.size := by obtain ⟨m, hm⟩ := h2; exact DataW.trod_lt m _ _ _ hm
  obtain ⟨a2, rfl, rfl, rfl, w2⟩ := open_int Try.underlying3 (hval 2 3 v2 rfl rfl) h2
  have u2 : Opn.I64 a2 := by simp [Lit.wf, IntKind.min, IntKind.max, IntKind.bits, IntKind.signed] at w2; unfold Opn.I64; omega
  obtain ⟨k, hk⟩ := Pure.FnExactPromisedTimes l0 a1_0 a1_1 a1_2 a2 w0 w1_0 w1_1 w1_2 u2
  refine (PRr.laws_FnExactPromisedTimes.calls k A0 c0 l0 a1_0 a1_1 a1_2 a2 true W z0 y0 hk rfl).mono fun e W' ⟨he, bel⟩ => ?_
  subst he
  exact ⟨_, rfl, _, _, _, [], _, [], hW', trodAll_mk1 (shut_bool Try.underlying4 _), (trodAll_cons_mk (Below.trod laidOut (by kernel_rfl) (of_decide_eq_true (by kernel_rfl)) h0 bel lt0) (trodAll_cons_mk (Below.trod laidOut (by kernel_rfl) (of_decide_eq_true (by kernel_rfl)) h1 bel lt1) (trodAll_cons_mk (Below.trod laidOut (by kernel_rfl) (of_decide_eq_true (by kernel_rfl)) h2 bel lt2) trodAll_mk0))), rfl, bel.frame _, fun h => by cases h⟩
theorem over : Rows.fnExactPromisedTimesRow.holds Try.pinned (OpenSpec.ofChange Rows.fnExactPromisedTimesSpec) :=
  OpenClaim.holds_of_wide 3 Try.f3 rfl rfl rfl rfl rfl rfl rfl ⟨rfl, rfl, rfl, rfl, rfl⟩ rfl rfl rfl rfl rfl (by kernel_rfl) Try.func3 (by kernel_rfl)
    (of_decide_eq_true (by kernel_rfl)) (by unfold Func.isWrapper; first | (rw [if_pos (by decide +kernel)]; kernel_rfl) | (rw [if_neg (by decide +kernel)]; exact ⟨rfl, rfl⟩))
    (fun os started H enc _ => lifted os started H enc)
theorem proved : Rows.FnExactPromisedTimesSaid := over
#print axioms proved
end Go.Proofs.Ytjjjikdpegogcaa.fnExactPromisedTimes
namespace Go.Proofs.Ytjjjikdpegogcaa
/-- The row, under a short name, for the claim. -/
theorem fnExactPromisedTimes_holds : Rows.FnExactPromisedTimesSaid := fnExactPromisedTimes.proved
end Go.Proofs.Ytjjjikdpegogcaa
