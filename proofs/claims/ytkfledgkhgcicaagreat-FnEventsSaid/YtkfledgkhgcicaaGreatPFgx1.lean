import Derived.Test.YtkfledgkhgcicaaGreatPFgx0
namespace Go.Proofs.YtkfledgkhgcicaaGreat.PFg
open Go.RowKit Go.Proofs.YtkfledgkhgcicaaGreatW.PrintWords Go.Proofs.YtkfledgkhgcicaaGreatW.PrintLast Go.Proofs.YtkfledgkhgcicaaGreatW.PrintMore
attribute [local go_sem] P8 P5 E5 E8 M4 M0 P6 P7   -- for this text's walks alone
set_option linter.unusedVariables false
set_option linter.unusedSimpArgs false
theorem j03 (d : Nat) (w : World) (x0 y0 : Int) (x1 y1 : Int) (x2 y2 : Int) :
    (Op.equalIn (d + 2) 48 (.agg #[.int .i64 x0, .int .i64 x1, .int .i64 x2]) (.agg #[.int .i64 y0, .int .i64 y1, .int .i64 y2])).run Tryz.prog w = .ok (x0 == y0 && (x1 == y1 && (x2 == y2))) w := by
  refine v9c Tryz.underlying48 (by kernel_rfl) ?_
  refine v09 (by rfl) (by go_simp; rfl) (by go_simp; rfl) (by go_simp) ?_
  refine v09 (by rfl) (by go_simp; rfl) (by go_simp; rfl) (by go_simp) ?_
  exact v5k (by rfl) (by go_simp; rfl) (by go_simp; rfl) (by go_simp)
end Go.Proofs.YtkfledgkhgcicaaGreat.PFg
