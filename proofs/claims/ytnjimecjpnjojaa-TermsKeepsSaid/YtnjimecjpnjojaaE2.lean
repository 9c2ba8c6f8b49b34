-- laid by this session's own program (wip/mkprint.sh) for this claim
import Derived.Test.Ytnjimecjpnjojaa0
namespace Go.Proofs.Ytnjimecjpnjojaa.Print
open Go.RowKit Go.Proofs.YtnjimecjpnjojaaW.PrintWords Go.Proofs.YtnjimecjpnjojaaW.PrintLast Go.Proofs.YtnjimecjpnjojaaW.PrintMore
attribute [local go_sem] max2_int min2_int max_two min_two max_three min_three max_four min_four   -- for this text's walks alone
set_option linter.unusedVariables false
set_option linter.unusedSimpArgs false

theorem eqA61 (d : Nat) (w : World) (x0 y0 : Bool) (x1 y1 : Int) (x2 y2 : Bool) (x3 y3 : Int) (x4 y4 : Int) (x5 y5 : Bool) (x6 y6 : Bool) (x7 y7 : Int) (x8 y8 : Bool) (x9 y9 : Bool) :
    (Op.equalIn (d + 2) 61 (.agg #[.bool x0, .int .i64 x1, .bool x2, .int .u32 x3, .int .i64 x4, .bool x5, .bool x6, .int .u32 x7, .bool x8, .bool x9]) (.agg #[.bool y0, .int .i64 y1, .bool y2, .int .u32 y3, .int .i64 y4, .bool y5, .bool y6, .int .u32 y7, .bool y8, .bool y9])).run Try.prog w = .ok (x0 == y0 && (x1 == y1 && (x2 == y2 && (x3 == y3 && (x4 == y4 && (x5 == y5 && (x6 == y6 && (x7 == y7 && (x8 == y8 && (x9 == y9)))))))))) w := by
  refine eqA_of Try.underlying61 (by kernel_rfl) ?_
  refine eqf_cons (by rfl) (by go_simp; rfl) (by go_simp; rfl) (by go_simp) ?_
  refine eqf_cons (by rfl) (by go_simp; rfl) (by go_simp; rfl) (by go_simp) ?_
  refine eqf_cons (by rfl) (by go_simp; rfl) (by go_simp; rfl) (by go_simp) ?_
  refine eqf_cons (by rfl) (by go_simp; rfl) (by go_simp; rfl) (by go_simp) ?_
  refine eqf_cons (by rfl) (by go_simp; rfl) (by go_simp; rfl) (by go_simp) ?_
  refine eqf_cons (by rfl) (by go_simp; rfl) (by go_simp; rfl) (by go_simp) ?_
  refine eqf_cons (by rfl) (by go_simp; rfl) (by go_simp; rfl) (by go_simp) ?_
  refine eqf_cons (by rfl) (by go_simp; rfl) (by go_simp; rfl) (by go_simp) ?_
  refine eqf_cons (by rfl) (by go_simp; rfl) (by go_simp; rfl) (by go_simp) ?_
  exact eqf_last (by rfl) (by go_simp; rfl) (by go_simp; rfl) (by go_simp)
end Go.Proofs.Ytnjimecjpnjojaa.Print
