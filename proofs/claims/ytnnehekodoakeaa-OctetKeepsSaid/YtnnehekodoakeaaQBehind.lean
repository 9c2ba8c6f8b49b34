/- octet.Behind, told by lists. -/
import Derived.Test.YtnnehekodoakeaaQClone
import Derived.Test.YtnnehekodoakeaaF36
namespace Go.Proofs.Ytnnehekodoakeaa.Q
open Go.RowKit Go.Proofs.Ytnnehekodoakeaa.Print Go.Proofs.YtnnehekodoakeaaW.PrintWords Go.Proofs.YtnnehekodoakeaaW.PrintLast Go.Proofs.YtnnehekodoakeaaW.PrintMore
set_option linter.unusedVariables false
set_option linter.unusedSimpArgs false

/-- What stands behind a place. -/
def behindv (l : List Int) (at_ : Int) : List Int := l.drop at_.toNat
theorem behind_spec (l : List Int) (at_ : Int) (hl : l.length < 140737488355328) : octet_Behind.f l at_ = some (behindv l at_) := by
  unfold octet_Behind.f behindv
  have h : mn (mx at_ 0) (l.length : Int) = (min at_.toNat l.length : Nat) := by
    unfold mn mx
    split <;> split <;> omega
  rw [h, if_pos (by omega), if_pos (by omega), clone_spec _ (by rw [List.length_drop]; omega)]
  simp only [Option.bind_some, Int.toNat_natCast]
  congr 1
  rcases Nat.le_total at_.toNat l.length with e | e
  · rw [Nat.min_eq_left e]
  · rw [Nat.min_eq_right e, List.drop_of_length_le (Nat.le_refl _), List.drop_of_length_le e]
end Go.Proofs.Ytnnehekodoakeaa.Q
