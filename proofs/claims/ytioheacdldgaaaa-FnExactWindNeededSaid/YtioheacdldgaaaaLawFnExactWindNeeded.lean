/- The program's WindNeeded returns what the reference's returns, for all arguments.: the row, for every input: out of the printed walk and the pure statement. No conditions beyond the given statement's. -/
import Derived.Test.YtioheacdldgaaaaRows
import Derived.Test.YtioheacdldgaaaaPAllx29
import Derived.Test.YtioheacdldgaaaaPureFnExactWindNeeded
import Derived.Test.YtioheacdldgaaaaOpn
import Derived.WalkKit
import Derived.ProofKit
import Derived.OpenShut
import Derived.ShutString
import Derived.ChangeOld
import Derived.Below
import Derived.SizedLaws
namespace Go.Proofs.Ytioheacdldgaaaa.fnExactWindNeeded
open Go.ChangeShapes Go.WideShapes Go.ChangeAt Go.RowKit Go.Proofs.YtioheacdldgaaaaW.PrintWords
theorem own : ownKnob Try.prog.godebug = none := by kernel_rfl
theorem laidOut : laidOutB Try.prog = true := by kernel_rfl
set_option maxRecDepth 100000 in
theorem lifted (os : Os) (started : os.Started) (H : Type) (enc : TypeId × Value → H) :
    ReturnsInHanded {} Try.checked os 9 .any (Rows.fnExactWindNeededSpec.pre6 enc Try.prog Try.f9 Rows.fnExactWindNeededRow.domain false) (Rows.fnExactWindNeededSpec.post enc Try.prog Try.f9 false true false false) := by
  refine returnsInHanded_of_change_sized (C := Try.checked) own started (by kernel_rfl) Try.func9
    (ChangeSpec.witness6 (enc := enc) (C := Try.checked) false ⟨#[], #[.agg #[.slice none 0 0, .int .i64 0], .slice none 0 0, .agg #[.int .i64 0, .int .i64 0, .int .i64 0]], []⟩ 8 (by kernel_rfl) (by kernel_rfl) (by kernel_rfl) (by kernel_rfl)) ?_
  intro W base args ds gs before hval0 hW hcnd hsz0 _
  have hval : ∀ (j : Nat) t v, Try.f9.params[j]? = some t → args[j]? = some v → Value.okWide Try.prog W .any base t v := hval0
  have hW' := hW
  obtain ⟨p, q, hA0, hV, rfl, hfz, hnd⟩ := hW
  have hA : DataW.TrodAll enc Try.prog W 0 (fun _ => true) true Try.f9.params.toList args.toList ds p := hA0
  rw [Try.params9] at hA hval
  obtain ⟨v0, vs0, d0, ds0, p0, q0, hargs, rfl, rfl, h0, r0⟩ := trodAll_cons hA
  obtain ⟨v1, vs1, d1, ds1, p1, q1, rfl, rfl, rfl, h1, r1⟩ := trodAll_cons r0
  obtain ⟨v2, vs2, d2, ds2, p2, q2, rfl, rfl, rfl, h2, r2⟩ := trodAll_cons r1
  obtain ⟨rfl, rfl, rfl⟩ := trodAll_nil r2
  obtain rfl : args = #[v0, v1, v2] := by cases args; simp_all
  obtain ⟨rfl, rfl⟩ := trodVars_none hV
  have lt0 : ∀ x ∈ p0, x.block < W.heap.size := by obtain ⟨m, hm⟩ := h0; exact DataW.trod_lt m _ _ _ hm
  obtain ⟨cs0, x0, rfl, K0, w0⟩ := Opn.Opens.arg_struct Try.underlying24 (Opn.Opens.two Try.underlying24 (by kernel_rfl) rfl rfl (Opn.Opens.slice Try.underlying22 (by kernel_rfl) (Opn.Opens.int Try.underlying3 (by kernel_rfl))) (Opn.Opens.int Try.underlying3 (by kernel_rfl))) (hval 0 24 v0 rfl rfl) h0
  obtain ⟨l0_0, a0_1⟩ := x0
  obtain ⟨_, _, rfl, ⟨A0_0, c0_0, rfl, y0_0, z0_0⟩, rfl⟩ := K0
  obtain ⟨w0_0, w0_1⟩ := w0
  have lt1 : ∀ x ∈ p1, x.block < W.heap.size := by obtain ⟨m, hm⟩ := h1; exact DataW.trod_lt m _ _ _ hm
  obtain ⟨A1, c1, l1, rfl, y1, z1, w1⟩ := Opn.Opens.arg_slice (k := PAll.k75) Try.underlying25 (Opn.Opens.slice Try.underlying25 (by kernel_rfl) (Opn.Opens.iso (Opn.Opens.three Try.underlying75 (by kernel_rfl) rfl rfl rfl (Opn.Opens.int Try.underlying3 (by kernel_rfl)) (Opn.Opens.int Try.underlying3 (by kernel_rfl)) (Opn.Opens.int Try.underlying3 (by kernel_rfl))) (fun x : PAll.S75 => (x.f0, x.f1, x.f2)) (fun x => ⟨x.1, x.2.1, x.2.2⟩) (fun _ => rfl))) (hval 1 25 v1 rfl rfl) h1
  have lt2 : ∀ x ∈ p2, x.block < W.heap.size := by obtain ⟨m, hm⟩ := h2; exact DataW.trod_lt m _ _ _ hm
  obtain ⟨cs2, x2, rfl, K2, w2⟩ := Opn.Opens.arg_struct Try.underlying27 (Opn.Opens.three Try.underlying27 (by kernel_rfl) rfl rfl rfl (Opn.Opens.int Try.underlying3 (by kernel_rfl)) (Opn.Opens.int Try.underlying3 (by kernel_rfl)) (Opn.Opens.int Try.underlying3 (by kernel_rfl))) (hval 2 27 v2 rfl rfl) h2
  obtain ⟨a2_0, a2_1, a2_2⟩ := x2
  obtain ⟨_, _, rfl, rfl, ⟨_, _, rfl, rfl, rfl⟩⟩ := K2
  obtain ⟨w2_0, w2_1, w2_2⟩ := w2
  obtain ⟨k, hk⟩ := Pure.FnExactWindNeeded l0_0 a0_1 l1 a2_0 a2_1 a2_2 w0_0 w0_1 w1 w2_0 w2_1 w2_2
  refine (PAll.laws_FnExactWindNeeded.calls k A0_0 c0_0 l0_0 a0_1 A1 c1 l1 a2_0 a2_1 a2_2 true W z0_0 y0_0 z1 y1 hk rfl).mono fun e W' ⟨he, bel⟩ => ?_
  subst he
  exact ⟨_, rfl, _, _, _, [], _, [], hW', trodAll_mk1 (shut_bool Try.underlying4 _), (trodAll_cons_mk (Below.trod laidOut (by kernel_rfl) (of_decide_eq_true (by kernel_rfl)) h0 bel lt0) (trodAll_cons_mk (Below.trod laidOut (by kernel_rfl) (of_decide_eq_true (by kernel_rfl)) h1 bel lt1) (trodAll_cons_mk (Below.trod laidOut (by kernel_rfl) (of_decide_eq_true (by kernel_rfl)) h2 bel lt2) trodAll_mk0))), rfl, bel.frame _, fun h => by cases h⟩
theorem over : Rows.fnExactWindNeededRow.holds Try.pinned (OpenSpec.ofChange Rows.fnExactWindNeededSpec) :=
  OpenClaim.holds_of_wide 9 Try.f9 rfl rfl rfl rfl rfl rfl rfl ⟨rfl, rfl, rfl, rfl, rfl⟩ rfl rfl rfl rfl rfl (by kernel_rfl) Try.func9 (by kernel_rfl)
    (of_decide_eq_true (by kernel_rfl)) (by unfold Func.isWrapper; first | (rw [if_pos (by decide +kernel)]; kernel_rfl) | (rw [if_neg (by decide +kernel)]; exact ⟨rfl, rfl⟩))
    (fun os started H enc _ => lifted os started H enc)
theorem proved : Rows.FnExactWindNeededSaid := over
#print axioms proved
end Go.Proofs.Ytioheacdldgaaaa.fnExactWindNeeded
namespace Go.Proofs.Ytioheacdldgaaaa
/-- The row, under a short name, for the claim. -/
theorem fnExactWindNeeded_holds : Rows.FnExactWindNeededSaid := fnExactWindNeeded.proved
end Go.Proofs.Ytioheacdldgaaaa
