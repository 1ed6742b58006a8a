/- The program's BlurredPairs returns what the reference's returns, for all arguments.: the row, for every input: out of the printed walk and the pure statement. No conditions beyond the given statement's. -/
import Derived.Test.YtjjjikdpegogcaaRows
import Derived.Test.YtjjjikdpegogcaaPRrx17
import Derived.Test.YtjjjikdpegogcaaPureFnExactBlurredPairs
import Derived.Test.YtjjjikdpegogcaaOpn
import Derived.WalkKit
import Derived.ProofKit
import Derived.OpenShut
import Derived.ShutString
import Derived.ChangeOld
import Derived.Below
import Derived.SizedLaws
namespace Go.Proofs.Ytjjjikdpegogcaa.fnExactBlurredPairs
open Go.ChangeShapes Go.WideShapes Go.ChangeAt Go.RowKit Go.Proofs.YtjjjikdpegogcaaW.PrintWords
theorem own : ownKnob Try.prog.godebug = none := by kernel_rfl
theorem laidOut : laidOutB Try.prog = true := by kernel_rfl
set_option maxRecDepth 100000 in
theorem lifted (os : Os) (started : os.Started) (H : Type) (enc : TypeId × Value → H) :
    ReturnsInHanded {} Try.checked os 4 .any (Rows.fnExactBlurredPairsSpec.pre6 enc Try.prog Try.f4 Rows.fnExactBlurredPairsRow.domain false) (Rows.fnExactBlurredPairsSpec.post enc Try.prog Try.f4 false true false false) := by
  refine returnsInHanded_of_change_sized (C := Try.checked) own started (by kernel_rfl) Try.func4
    (ChangeSpec.witness6 (enc := enc) (C := Try.checked) false ⟨#[], #[.agg #[.slice none 0 0, .int .i64 0], .slice none 0 0, .agg #[.int .i64 0, .int .i64 0, .int .i64 0]], []⟩ 8 (by kernel_rfl) (by kernel_rfl) (by kernel_rfl) (by kernel_rfl)) ?_
  intro W base args ds gs before hval0 hW hcnd hsz0 _
  have hval : ∀ (j : Nat) t v, Try.f4.params[j]? = some t → args[j]? = some v → Value.okWide Try.prog W .any base t v := hval0
  have hW' := hW
  obtain ⟨p, q, hA0, hV, rfl, hfz, hnd⟩ := hW
  have hA : DataW.TrodAll enc Try.prog W 0 (fun _ => true) true Try.f4.params.toList args.toList ds p := hA0
  rw [Try.params4] at hA hval
  obtain ⟨v0, vs0, d0, ds0, p0, q0, hargs, rfl, rfl, h0, r0⟩ := trodAll_cons hA
  obtain ⟨v1, vs1, d1, ds1, p1, q1, rfl, rfl, rfl, h1, r1⟩ := trodAll_cons r0
  obtain ⟨v2, vs2, d2, ds2, p2, q2, rfl, rfl, rfl, h2, r2⟩ := trodAll_cons r1
  obtain ⟨rfl, rfl, rfl⟩ := trodAll_nil r2
  obtain rfl : args = #[v0, v1, v2] := by cases args; simp_all
  obtain ⟨rfl, rfl⟩ := trodVars_none hV
  have lt0 : ∀ x ∈ p0, x.block < W.heap.size := by obtain ⟨m, hm⟩ := h0; exact DataW.trod_lt m _ _ _ hm
  obtain ⟨cs0, x0, rfl, K0, w0⟩ := Opn.Opens.arg_struct Try.underlying40 (Opn.Opens.two Try.underlying40 (by kernel_rfl) rfl rfl (Opn.Opens.slice Try.underlying38 (by kernel_rfl) (Opn.Opens.int Try.underlying3 (by kernel_rfl))) (Opn.Opens.int Try.underlying3 (by kernel_rfl))) (hval 0 40 v0 rfl rfl) h0
  obtain ⟨l0_0, a0_1⟩ := x0
  obtain ⟨_, _, rfl, ⟨A0_0, c0_0, rfl, y0_0, z0_0⟩, rfl⟩ := K0
  obtain ⟨w0_0, w0_1⟩ := w0
  have lt1 : ∀ x ∈ p1, x.block < W.heap.size := by obtain ⟨m, hm⟩ := h1; exact DataW.trod_lt m _ _ _ hm
  obtain ⟨A1, c1, l1, rfl, y1, z1, w1⟩ := Opn.Opens.arg_slice (k := PRr.k98) Try.underlying41 (Opn.Opens.slice Try.underlying41 (by kernel_rfl) (Opn.Opens.iso (Opn.Opens.three Try.underlying98 (by kernel_rfl) rfl rfl rfl (Opn.Opens.int Try.underlying3 (by kernel_rfl)) (Opn.Opens.int Try.underlying3 (by kernel_rfl)) (Opn.Opens.int Try.underlying3 (by kernel_rfl))) (fun x : PRr.S98 => (x.f0, x.f1, x.f2)) (fun x => ⟨x.1, x.2.1, x.2.2⟩) (fun _ => rfl))) (hval 1 41 v1 rfl rfl) h1
  have lt2 : ∀ x ∈ p2, x.block < W.heap.size := by obtain ⟨m, hm⟩ := h2; exact DataW.trod_lt m _ _ _ hm
  obtain ⟨cs2, x2, rfl, K2, w2⟩ := Opn.Opens.arg_struct Try.underlying24 (Opn.Opens.three Try.underlying24 (by kernel_rfl) rfl rfl rfl (Opn.Opens.int Try.underlying3 (by kernel_rfl)) (Opn.Opens.int Try.underlying3 (by kernel_rfl)) (Opn.Opens.int Try.underlying3 (by kernel_rfl))) (hval 2 24 v2 rfl rfl) h2
  obtain ⟨a2_0, a2_1, a2_2⟩ := x2
  obtain ⟨_, _, rfl, rfl, ⟨_, _, rfl, rfl, rfl⟩⟩ := K2
  obtain ⟨w2_0, w2_1, w2_2⟩ := w2
  obtain ⟨k, hk⟩ := Pure.FnExactBlurredPairs l0_0 a0_1 l1 a2_0 a2_1 a2_2 w0_0 w0_1 w1 w2_0 w2_1 w2_2
  refine (PRr.laws_FnExactBlurredPairs.calls k A0_0 c0_0 l0_0 a0_1 A1 c1 l1 a2_0 a2_1 a2_2 true W z0_0 y0_0 z1 y1 hk rfl).mono fun e W' ⟨he, bel⟩ => ?_
  subst he
  exact ⟨_, rfl, _, _, _, [], _, [], hW', trodAll_mk1 (shut_bool Try.underlying4 _), (trodAll_cons_mk (Below.trod laidOut (by kernel_rfl) (of_decide_eq_true (by kernel_rfl)) h0 bel lt0) (trodAll_cons_mk (Below.trod laidOut (by kernel_rfl) (of_decide_eq_true (by kernel_rfl)) h1 bel lt1) (trodAll_cons_mk (Below.trod laidOut (by kernel_rfl) (of_decide_eq_true (by kernel_rfl)) h2 bel lt2) trodAll_mk0))), rfl, bel.frame _, fun h => by cases h⟩
theorem over : Rows.fnExactBlurredPairsRow.holds Try.pinned (OpenSpec.ofChange Rows.fnExactBlurredPairsSpec) :=
  OpenClaim.holds_of_wide 4 Try.f4 rfl rfl rfl rfl rfl rfl rfl ⟨rfl, rfl, rfl, rfl, rfl⟩ rfl rfl rfl rfl rfl (by kernel_rfl) Try.func4 (by kernel_rfl)
    (of_decide_eq_true (by kernel_rfl)) (by unfold Func.isWrapper; first | (rw [if_pos (by decide +kernel)]; kernel_rfl) | (rw [if_neg (by decide +kernel)]; exact ⟨rfl, rfl⟩))
    (fun os started H enc _ => lifted os started H enc)
theorem proved : Rows.FnExactBlurredPairsSaid := over
#print axioms proved
end Go.Proofs.Ytjjjikdpegogcaa.fnExactBlurredPairs
namespace Go.Proofs.Ytjjjikdpegogcaa
/-- The row, under a short name, for the claim. -/
theorem fnExactBlurredPairs_holds : Rows.FnExactBlurredPairsSaid := fnExactBlurredPairs.proved
end Go.Proofs.Ytjjjikdpegogcaa
