/- octet.Cut, told by lists. -/
import Derived.Test.YtnnehekodoakeaaQClone
import Derived.Test.YtnnehekodoakeaaF34
namespace Go.Proofs.Ytnnehekodoakeaa.Q
open Go.RowKit Go.Proofs.Ytnnehekodoakeaa.Print Go.Proofs.YtnnehekodoakeaaW.PrintWords Go.Proofs.YtnnehekodoakeaaW.PrintLast Go.Proofs.YtnnehekodoakeaaW.PrintMore
set_option linter.unusedVariables false
set_option linter.unusedSimpArgs false

/-- What is cut out of l at a place, n bytes. -/
def cutv (l : List Int) (at_ n : Int) : List Int × Bool :=
  if 0 ≤ at_ ∧ 0 ≤ n ∧ at_ + n ≤ l.length then ((l.drop at_.toNat).take n.toNat, true) else ([], false)
theorem cut_spec (l : List Int) (at_ n : Int) (hl : l.length < 140737488355328) (ha : at_ ≤ 9223372036854775807) : octet_Cut.f l at_ n = some (cutv l at_ n) := by
  unfold octet_Cut.f cutv
  by_cases a : at_ < 0
  · rw [if_pos a, if_neg (by omega)]
  · rw [if_neg a]
    by_cases b : n < 0
    · rw [if_pos b, if_neg (by omega)]
    · rw [if_neg b]
      by_cases c : at_ > (l.length : Int)
      · rw [if_pos c, if_neg (by omega)]
      · rw [if_neg c, w64 (x := (l.length : Int) - at_) (by omega) (by omega)]
        by_cases d : n > (l.length : Int) - at_
        · rw [if_pos d, if_neg (by omega)]
        · rw [if_neg d, if_pos (by omega), w64 (by omega) (by omega), if_pos (by omega), if_pos (by omega), if_pos (by omega)]
          rw [clone_spec _ (by rw [List.length_drop, List.length_take]; omega)]
          simp only [Option.bind_some]
          rw [List.drop_take, show (at_ + n).toNat - at_.toNat = n.toNat by omega]
end Go.Proofs.Ytnnehekodoakeaa.Q
