/- slices.Clone at bytes, told by lists. -/
import Derived.Test.YtnnehekodoakeaaQBase
import Derived.Test.YtnnehekodoakeaaF41
namespace Go.Proofs.Ytnnehekodoakeaa.Q
open Go.RowKit Go.Proofs.Ytnnehekodoakeaa.Print Go.Proofs.YtnnehekodoakeaaW.PrintWords Go.Proofs.YtnnehekodoakeaaW.PrintLast Go.Proofs.YtnnehekodoakeaaW.PrintMore
set_option linter.unusedVariables false
set_option linter.unusedSimpArgs false

theorem clone_spec (l : List Int) (h : l.length < 140737488355328) : slices_Clone_byte_byte.f l = some l := by
  unfold slices_Clone_byte_byte.f
  rw [if_pos h]
end Go.Proofs.Ytnnehekodoakeaa.Q
