/- The program's NextChange returns what the reference's returns, for all arguments.: the row, for every input: out of the printed walk and the pure statement. No conditions beyond the given statement's. -/
import Derived.Test.YtjdkdbeenggfaaaRows
import Derived.Test.YtjdkdbeenggfaaaPNcx12
import Derived.Test.YtjdkdbeenggfaaaPureFnExactNextChange
import Derived.Test.YtjdkdbeenggfaaaOpn
import Derived.WalkKit
import Derived.ProofKit
import Derived.OpenShut
import Derived.ShutString
import Derived.ChangeOld
import Derived.Below
import Derived.SizedLaws
namespace Go.Proofs.Ytjdkdbeenggfaaa.fnExactNextChange
open Go.ChangeShapes Go.WideShapes Go.ChangeAt Go.RowKit Go.Proofs.YtjdkdbeenggfaaaW.PrintWords
theorem own : ownKnob Try.prog.godebug = none := by kernel_rfl
theorem laidOut : laidOutB Try.prog = true := by kernel_rfl
set_option maxRecDepth 100000 in
theorem lifted (os : Os) (started : os.Started) (H : Type) (enc : TypeId × Value → H) :
    ReturnsInHanded {} Try.checked os 6 .any (Rows.fnExactNextChangeSpec.pre6 enc Try.prog Try.f6 Rows.fnExactNextChangeRow.domain false) (Rows.fnExactNextChangeSpec.post enc Try.prog Try.f6 false true false false) := by
  refine returnsInHanded_of_change_sized (C := Try.checked) own started (by kernel_rfl) Try.func6
    (ChangeSpec.witness6 (enc := enc) (C := Try.checked) false ⟨#[], #[.agg #[.slice none 0 0, .int .i64 0, .slice none 0 0]], []⟩ 8 (by kernel_rfl) (by kernel_rfl) (by kernel_rfl) (by kernel_rfl)) ?_
  intro W base args ds gs before hval0 hW hcnd hsz0 _
  have hval : ∀ (j : Nat) t v, Try.f6.params[j]? = some t → args[j]? = some v → Value.okWide Try.prog W .any base t v := hval0
  have hW' := hW
  obtain ⟨p, q, hA0, hV, rfl, hfz, hnd⟩ := hW
  have hA : DataW.TrodAll enc Try.prog W 0 (fun _ => true) true Try.f6.params.toList args.toList ds p := hA0
  rw [Try.params6] at hA hval
  obtain ⟨v0, vs0, d0, ds0, p0, q0, hargs, rfl, rfl, h0, r0⟩ := trodAll_cons hA
  obtain ⟨rfl, rfl, rfl⟩ := trodAll_nil r0
  obtain rfl : args = #[v0] := by cases args; simp_all
  obtain ⟨rfl, rfl⟩ := trodVars_none hV
  have lt0 : ∀ x ∈ p0, x.block < W.heap.size := by obtain ⟨m, hm⟩ := h0; exact DataW.trod_lt m _ _ _ hm
  obtain ⟨cs0, x0, rfl, K0, w0⟩ := Opn.Opens.arg_struct Try.underlying56 (Opn.Opens.three Try.underlying56 (by kernel_rfl) rfl rfl rfl (Opn.Opens.slice (k := PNc.k89) Try.underlying34 (by kernel_rfl) (Opn.Opens.iso (Opn.Opens.three Try.underlying89 (by kernel_rfl) rfl rfl rfl (Opn.Opens.int Try.underlying3 (by kernel_rfl)) (Opn.Opens.int Try.underlying3 (by kernel_rfl)) (Opn.Opens.int Try.underlying3 (by kernel_rfl))) (fun x : PNc.S89 => (x.f0, x.f1, x.f2)) (fun x => ⟨x.1, x.2.1, x.2.2⟩) (fun _ => rfl))) (Opn.Opens.int Try.underlying3 (by kernel_rfl)) (Opn.Opens.slice Try.underlying54 (by kernel_rfl) (Opn.Opens.int Try.underlying3 (by kernel_rfl)))) (hval 0 56 v0 rfl rfl) h0
  obtain ⟨l0_0, a0_1, l0_2⟩ := x0
  obtain ⟨_, _, rfl, ⟨A0_0, c0_0, rfl, y0_0, z0_0⟩, ⟨_, _, rfl, rfl, ⟨A0_2, c0_2, rfl, y0_2, z0_2⟩⟩⟩ := K0
  obtain ⟨w0_0, w0_1, w0_2⟩ := w0
  obtain ⟨k, hk⟩ := Pure.FnExactNextChange l0_0 a0_1 l0_2 w0_0 w0_1 w0_2
  refine (PNc.laws_FnExactNextChange.calls k A0_0 c0_0 l0_0 a0_1 A0_2 c0_2 l0_2 true W z0_0 y0_0 z0_2 y0_2 hk rfl).mono fun e W' ⟨he, bel⟩ => ?_
  subst he
  exact ⟨_, rfl, _, _, _, [], _, [], hW', trodAll_mk1 (shut_bool Try.underlying4 _), (trodAll_cons_mk (Below.trod laidOut (by kernel_rfl) (of_decide_eq_true (by kernel_rfl)) h0 bel lt0) trodAll_mk0), rfl, bel.frame _, fun h => by cases h⟩
theorem over : Rows.fnExactNextChangeRow.holds Try.pinned (OpenSpec.ofChange Rows.fnExactNextChangeSpec) :=
  OpenClaim.holds_of_wide 6 Try.f6 rfl rfl rfl rfl rfl rfl rfl ⟨rfl, rfl, rfl, rfl, rfl⟩ rfl rfl rfl rfl rfl (by kernel_rfl) Try.func6 (by kernel_rfl)
    (of_decide_eq_true (by kernel_rfl)) (by unfold Func.isWrapper; first | (rw [if_pos (by decide +kernel)]; kernel_rfl) | (rw [if_neg (by decide +kernel)]; exact ⟨rfl, rfl⟩))
    (fun os started H enc _ => lifted os started H enc)
theorem proved : Rows.FnExactNextChangeSaid := over
#print axioms proved
end Go.Proofs.Ytjdkdbeenggfaaa.fnExactNextChange
namespace Go.Proofs.Ytjdkdbeenggfaaa
/-- The row, under a short name, for the claim. -/
theorem fnExactNextChange_holds : Rows.FnExactNextChangeSaid := fnExactNextChange.proved
end Go.Proofs.Ytjdkdbeenggfaaa
