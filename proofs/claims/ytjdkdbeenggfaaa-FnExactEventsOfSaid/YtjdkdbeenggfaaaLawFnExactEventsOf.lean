/- The program's EventsOf returns what the reference's returns, for all arguments.: the row, for every input: out of the printed walk and the pure statement. No conditions beyond the given statement's. -/
import Derived.Test.YtjdkdbeenggfaaaRows
import Derived.Test.YtjdkdbeenggfaaaPEvx9
import Derived.Test.YtjdkdbeenggfaaaPureFnExactEventsOf
import Derived.Test.YtjdkdbeenggfaaaOpn
import Derived.WalkKit
import Derived.ProofKit
import Derived.OpenShut
import Derived.ShutString
import Derived.ChangeOld
import Derived.Below
import Derived.SizedLaws
namespace Go.Proofs.Ytjdkdbeenggfaaa.fnExactEventsOf
open Go.ChangeShapes Go.WideShapes Go.ChangeAt Go.RowKit Go.Proofs.YtjdkdbeenggfaaaW.PrintWords
theorem own : ownKnob Try.prog.godebug = none := by kernel_rfl
theorem laidOut : laidOutB Try.prog = true := by kernel_rfl
set_option maxRecDepth 100000 in
theorem lifted (os : Os) (started : os.Started) (H : Type) (enc : TypeId × Value → H) :
    ReturnsInHanded {} Try.checked os 4 .any (Rows.fnExactEventsOfSpec.pre6 enc Try.prog Try.f4 Rows.fnExactEventsOfRow.domain false) (Rows.fnExactEventsOfSpec.post enc Try.prog Try.f4 false true false false) := by
  refine returnsInHanded_of_change_sized (C := Try.checked) own started (by kernel_rfl) Try.func4
    (ChangeSpec.witness6 (enc := enc) (C := Try.checked) false ⟨#[], #[.slice none 0 0], []⟩ 8 (by kernel_rfl) (by kernel_rfl) (by kernel_rfl) (by kernel_rfl)) ?_
  intro W base args ds gs before hval0 hW hcnd hsz0 _
  have hval : ∀ (j : Nat) t v, Try.f4.params[j]? = some t → args[j]? = some v → Value.okWide Try.prog W .any base t v := hval0
  have hW' := hW
  obtain ⟨p, q, hA0, hV, rfl, hfz, hnd⟩ := hW
  have hA : DataW.TrodAll enc Try.prog W 0 (fun _ => true) true Try.f4.params.toList args.toList ds p := hA0
  rw [Try.params4] at hA hval
  obtain ⟨v0, vs0, d0, ds0, p0, q0, hargs, rfl, rfl, h0, r0⟩ := trodAll_cons hA
  obtain ⟨rfl, rfl, rfl⟩ := trodAll_nil r0
  obtain rfl : args = #[v0] := by cases args; simp_all
  obtain ⟨rfl, rfl⟩ := trodVars_none hV
  have lt0 : ∀ x ∈ p0, x.block < W.heap.size := by obtain ⟨m, hm⟩ := h0; exact DataW.trod_lt m _ _ _ hm
  obtain ⟨A0, c0, l0, rfl, y0, z0, w0⟩ := Opn.Opens.arg_slice (k := PEv.k89) Try.underlying34 (Opn.Opens.slice Try.underlying34 (by kernel_rfl) (Opn.Opens.iso (Opn.Opens.three Try.underlying89 (by kernel_rfl) rfl rfl rfl (Opn.Opens.int Try.underlying3 (by kernel_rfl)) (Opn.Opens.int Try.underlying3 (by kernel_rfl)) (Opn.Opens.int Try.underlying3 (by kernel_rfl))) (fun x : PEv.S89 => (x.f0, x.f1, x.f2)) (fun x => ⟨x.1, x.2.1, x.2.2⟩) (fun _ => rfl))) (hval 0 34 v0 rfl rfl) h0
  obtain ⟨k, hk⟩ := Pure.FnExactEventsOf l0 w0
  refine (PEv.laws_FnExactEventsOf.calls k A0 c0 l0 true W z0 y0 hk rfl).mono fun e W' ⟨he, bel⟩ => ?_
  subst he
  exact ⟨_, rfl, _, _, _, [], _, [], hW', trodAll_mk1 (shut_bool Try.underlying4 _), (trodAll_cons_mk (Below.trod laidOut (by kernel_rfl) (of_decide_eq_true (by kernel_rfl)) h0 bel lt0) trodAll_mk0), rfl, bel.frame _, fun h => by cases h⟩
theorem over : Rows.fnExactEventsOfRow.holds Try.pinned (OpenSpec.ofChange Rows.fnExactEventsOfSpec) :=
  OpenClaim.holds_of_wide 4 Try.f4 rfl rfl rfl rfl rfl rfl rfl ⟨rfl, rfl, rfl, rfl, rfl⟩ rfl rfl rfl rfl rfl (by kernel_rfl) Try.func4 (by kernel_rfl)
    (of_decide_eq_true (by kernel_rfl)) (by unfold Func.isWrapper; first | (rw [if_pos (by decide +kernel)]; kernel_rfl) | (rw [if_neg (by decide +kernel)]; exact ⟨rfl, rfl⟩))
    (fun os started H enc _ => lifted os started H enc)
theorem proved : Rows.FnExactEventsOfSaid := over
#print axioms proved
end Go.Proofs.Ytjdkdbeenggfaaa.fnExactEventsOf
namespace Go.Proofs.Ytjdkdbeenggfaaa
/-- The row, under a short name, for the claim. -/
theorem fnExactEventsOf_holds : Rows.FnExactEventsOfSaid := fnExactEventsOf.proved
end Go.Proofs.Ytjdkdbeenggfaaa
