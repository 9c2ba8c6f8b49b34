/- slices.Clone at bytes, told by lists. -/
import Derived.Test.YtnjimecjpnjojaaQBase
import Derived.Test.YtnjimecjpnjojaaF68
namespace Go.Proofs.Ytnjimecjpnjojaa.Q
open Go.RowKit Go.Proofs.Ytnjimecjpnjojaa.Print Go.Proofs.YtnjimecjpnjojaaW.PrintWords Go.Proofs.YtnjimecjpnjojaaW.PrintLast Go.Proofs.YtnjimecjpnjojaaW.PrintMore
set_option linter.unusedVariables false
set_option linter.unusedSimpArgs false

theorem clone_spec (l : List Int) (h : l.length < 140737488355328) : slices_Clone_byte_byte.f l = some l := by
  unfold slices_Clone_byte_byte.f
  rw [if_pos h]
end Go.Proofs.Ytnjimecjpnjojaa.Q
