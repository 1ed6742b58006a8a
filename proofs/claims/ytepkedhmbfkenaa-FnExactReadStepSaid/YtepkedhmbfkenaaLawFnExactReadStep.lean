/- The program's ReadStep returns what the reference's returns, for all arguments.: the row, for every input: out of the printed walk and the pure statement. No conditions beyond the given statement's. -/
import Derived.Test.YtepkedhmbfkenaaRows
import Derived.Test.YtepkedhmbfkenaaPRsx13
import Derived.Test.YtepkedhmbfkenaaPureFnExactReadStep
import Derived.Test.YtepkedhmbfkenaaOpn
import Derived.WalkKit
import Derived.ProofKit
import Derived.OpenShut
import Derived.ShutString
import Derived.ChangeOld
import Derived.Below
import Derived.SizedLaws
namespace Go.Proofs.Ytepkedhmbfkenaa.fnExactReadStep
open Go.ChangeShapes Go.WideShapes Go.ChangeAt Go.RowKit Go.Proofs.YtepkedhmbfkenaaW.PrintWords
theorem own : ownKnob Try.prog.godebug = none := by kernel_rfl
theorem laidOut : laidOutB Try.prog = true := by kernel_rfl
set_option maxRecDepth 100000 in
theorem lifted (os : Os) (started : os.Started) (H : Type) (enc : TypeId × Value → H) :
    ReturnsInHanded {} Try.checked os 5 .any (Rows.fnExactReadStepSpec.pre6 enc Try.prog Try.f5 Rows.fnExactReadStepRow.domain false) (Rows.fnExactReadStepSpec.post enc Try.prog Try.f5 false true false false) := by
  refine returnsInHanded_of_change_sized (C := Try.checked) own started (by kernel_rfl) Try.func5
    (ChangeSpec.witness6 (enc := enc) (C := Try.checked) false ⟨#[], #[.agg #[.slice none 0 0, .int .i64 0, .slice none 0 0]], []⟩ 8 (by kernel_rfl) (by kernel_rfl) (by kernel_rfl) (by kernel_rfl)) ?_
  intro W base args ds gs before hval0 hW hcnd hsz0 _
  have hval : ∀ (j : Nat) t v, Try.f5.params[j]? = some t → args[j]? = some v → Value.okWide Try.prog W .any base t v := hval0
  have hW' := hW
  obtain ⟨p, q, hA0, hV, rfl, hfz, hnd⟩ := hW
  have hA : DataW.TrodAll enc Try.prog W 0 (fun _ => true) true Try.f5.params.toList args.toList ds p := hA0
  rw [Try.params5] at hA hval
  obtain ⟨v0, vs0, d0, ds0, p0, q0, hargs, rfl, rfl, h0, r0⟩ := trodAll_cons hA
  obtain ⟨rfl, rfl, rfl⟩ := trodAll_nil r0
  obtain rfl : args = #[v0] := by cases args; simp_all
  obtain ⟨rfl, rfl⟩ := trodVars_none hV
  have lt0 : ∀ x ∈ p0, x.block < W.heap.size := by obtain ⟨m, hm⟩ := h0; exact DataW.trod_lt m _ _ _ hm
  obtain ⟨cs0, x0, rfl, K0, w0⟩ := Opn.Opens.arg_struct Try.underlying25 (Opn.Opens.three Try.underlying25 (by kernel_rfl) rfl rfl rfl (Opn.Opens.slice (k := PRs.k139) Try.underlying22 (by kernel_rfl) (Opn.Opens.iso (Opn.Opens.three Try.underlying139 (by kernel_rfl) rfl rfl rfl (Opn.Opens.int Try.underlying3 (by kernel_rfl)) (Opn.Opens.int Try.underlying3 (by kernel_rfl)) (Opn.Opens.int Try.underlying3 (by kernel_rfl))) (fun x : PRs.S139 => (x.f0, x.f1, x.f2)) (fun x => ⟨x.1, x.2.1, x.2.2⟩) (fun _ => rfl))) (Opn.Opens.int Try.underlying3 (by kernel_rfl)) (Opn.Opens.slice Try.underlying23 (by kernel_rfl) (Opn.Opens.int Try.underlying3 (by kernel_rfl)))) (hval 0 25 v0 rfl rfl) h0
  obtain ⟨l0_0, a0_1, l0_2⟩ := x0
  obtain ⟨_, _, rfl, ⟨A0_0, c0_0, rfl, y0_0, z0_0⟩, ⟨_, _, rfl, rfl, ⟨A0_2, c0_2, rfl, y0_2, z0_2⟩⟩⟩ := K0
  obtain ⟨w0_0, w0_1, w0_2⟩ := w0
  obtain ⟨k, hk⟩ := Pure.FnExactReadStep l0_0 a0_1 l0_2 w0_0 w0_1 w0_2
  refine (PRs.laws_FnExactReadStep.calls k A0_0 c0_0 l0_0 a0_1 A0_2 c0_2 l0_2 true W z0_0 y0_0 z0_2 y0_2 hk rfl).mono fun e W' ⟨he, bel⟩ => ?_
  subst he
  exact ⟨_, rfl, _, _, _, [], _, [], hW', trodAll_mk1 (shut_bool Try.underlying4 _), (trodAll_cons_mk (Below.trod laidOut (by kernel_rfl) (of_decide_eq_true (by kernel_rfl)) h0 bel lt0) trodAll_mk0), rfl, bel.frame _, fun h => by cases h⟩
theorem over : Rows.fnExactReadStepRow.holds Try.pinned (OpenSpec.ofChange Rows.fnExactReadStepSpec) :=
  OpenClaim.holds_of_wide 5 Try.f5 rfl rfl rfl rfl rfl rfl rfl ⟨rfl, rfl, rfl, rfl, rfl⟩ rfl rfl rfl rfl rfl (by kernel_rfl) Try.func5 (by kernel_rfl)
    (of_decide_eq_true (by kernel_rfl)) (by unfold Func.isWrapper; first | (rw [if_pos (by decide +kernel)]; kernel_rfl) | (rw [if_neg (by decide +kernel)]; exact ⟨rfl, rfl⟩))
    (fun os started H enc _ => lifted os started H enc)
theorem proved : Rows.FnExactReadStepSaid := over
#print axioms proved
end Go.Proofs.Ytepkedhmbfkenaa.fnExactReadStep
namespace Go.Proofs.Ytepkedhmbfkenaa
/-- The row, under a short name, for the claim. -/
theorem fnExactReadStep_holds : Rows.FnExactReadStepSaid := fnExactReadStep.proved
end Go.Proofs.Ytepkedhmbfkenaa
