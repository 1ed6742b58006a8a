/- For every drawn blocks, those with no free choice are decoded, peeled ones agree with what they were, and best feed holes have the fewest errors. (P14): the row, for every input: out of the printed walk and the pure statement. No conditions beyond the given statement's. -/
import Derived.Test.YtjdkdbeenggfaaaRows
import Derived.Test.YtjdkdbeenggfaaaPErx25
import Derived.Test.YtjdkdbeenggfaaaPureFnErasures
import Derived.Test.YtjdkdbeenggfaaaOpn
import Derived.WalkKit
import Derived.ProofKit
import Derived.OpenShut
import Derived.ShutString
import Derived.ChangeOld
import Derived.Below
import Derived.SizedLaws
namespace Go.Proofs.Ytjdkdbeenggfaaa.fnErasures
open Go.ChangeShapes Go.WideShapes Go.ChangeAt Go.RowKit Go.Proofs.YtjdkdbeenggfaaaW.PrintWords
theorem own : ownKnob Try.prog.godebug = none := by kernel_rfl
theorem laidOut : laidOutB Try.prog = true := by kernel_rfl
set_option maxRecDepth 100000 in
theorem lifted (os : Os) (started : os.Started) (H : Type) (enc : TypeId × Value → H) :
    ReturnsInHanded {} Try.checked os 5 .any (Rows.fnErasuresSpec.pre6 enc Try.prog Try.f5 Rows.fnErasuresRow.domain false) (Rows.fnErasuresSpec.post enc Try.prog Try.f5 false true false false) := by
  refine returnsInHanded_of_change_sized (C := Try.checked) own started (by kernel_rfl) Try.func5
    (ChangeSpec.witness6 (enc := enc) (C := Try.checked) false ⟨#[], #[.slice none 0 0, .slice none 0 0], []⟩ 8 (by kernel_rfl) (by kernel_rfl) (by kernel_rfl) (by kernel_rfl)) ?_
  intro W base args ds gs before hval0 hW hcnd hsz0 _
  have hval : ∀ (j : Nat) t v, Try.f5.params[j]? = some t → args[j]? = some v → Value.okWide Try.prog W .any base t v := hval0
  have hW' := hW
  obtain ⟨p, q, hA0, hV, rfl, hfz, hnd⟩ := hW
  have hA : DataW.TrodAll enc Try.prog W 0 (fun _ => true) true Try.f5.params.toList args.toList ds p := hA0
  rw [Try.params5] at hA hval
  obtain ⟨v0, vs0, d0, ds0, p0, q0, hargs, rfl, rfl, h0, r0⟩ := trodAll_cons hA
  obtain ⟨v1, vs1, d1, ds1, p1, q1, rfl, rfl, rfl, h1, r1⟩ := trodAll_cons r0
  obtain ⟨rfl, rfl, rfl⟩ := trodAll_nil r1
  obtain rfl : args = #[v0, v1] := by cases args; simp_all
  obtain ⟨rfl, rfl⟩ := trodVars_none hV
  have lt0 : ∀ x ∈ p0, x.block < W.heap.size := by obtain ⟨m, hm⟩ := h0; exact DataW.trod_lt m _ _ _ hm
  obtain ⟨A0, c0, l0, rfl, y0, z0, w0⟩ := Opn.Opens.arg_slice (k := (Kd.int .u8)) Try.underlying22 (Opn.Opens.slice Try.underlying22 (by kernel_rfl) (Opn.Opens.byte Try.underlying5 (by kernel_rfl))) (hval 0 22 v0 rfl rfl) h0
  have lt1 : ∀ x ∈ p1, x.block < W.heap.size := by obtain ⟨m, hm⟩ := h1; exact DataW.trod_lt m _ _ _ hm
  obtain ⟨A1, c1, l1, rfl, y1, z1, w1⟩ := Opn.Opens.arg_slice (k := (Kd.int .u8)) Try.underlying22 (Opn.Opens.slice Try.underlying22 (by kernel_rfl) (Opn.Opens.byte Try.underlying5 (by kernel_rfl))) (hval 1 22 v1 rfl rfl) h1
  obtain ⟨k, hk⟩ := Pure.FnErasures l0 l1 w0 w1
  refine (PEr.laws_FnErasures.calls k A0 c0 l0 A1 c1 l1 true W z0 y0 z1 y1 hk rfl).mono fun e W' ⟨he, bel⟩ => ?_
  subst he
  exact ⟨_, rfl, _, _, _, [], _, [], hW', trodAll_mk1 (shut_bool Try.underlying4 _), (trodAll_cons_mk (Below.trod laidOut (by kernel_rfl) (of_decide_eq_true (by kernel_rfl)) h0 bel lt0) (trodAll_cons_mk (Below.trod laidOut (by kernel_rfl) (of_decide_eq_true (by kernel_rfl)) h1 bel lt1) trodAll_mk0)), rfl, bel.frame _, fun h => by cases h⟩
theorem over : Rows.fnErasuresRow.holds Try.pinned (OpenSpec.ofChange Rows.fnErasuresSpec) :=
  OpenClaim.holds_of_wide 5 Try.f5 rfl rfl rfl rfl rfl rfl rfl ⟨rfl, rfl, rfl, rfl, rfl⟩ rfl rfl rfl rfl rfl (by kernel_rfl) Try.func5 (by kernel_rfl)
    (of_decide_eq_true (by kernel_rfl)) (by unfold Func.isWrapper; first | (rw [if_pos (by decide +kernel)]; kernel_rfl) | (rw [if_neg (by decide +kernel)]; exact ⟨rfl, rfl⟩))
    (fun os started H enc _ => lifted os started H enc)
theorem proved : Rows.FnErasuresSaid := over
#print axioms proved
end Go.Proofs.Ytjdkdbeenggfaaa.fnErasures
namespace Go.Proofs.Ytjdkdbeenggfaaa
/-- The row, under a short name, for the claim. -/
theorem fnErasures_holds : Rows.FnErasuresSaid := fnErasures.proved
end Go.Proofs.Ytjdkdbeenggfaaa
