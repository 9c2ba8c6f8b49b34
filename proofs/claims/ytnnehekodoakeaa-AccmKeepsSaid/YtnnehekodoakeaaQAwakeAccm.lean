/- The anchor of accm's laws answers true. -/
import Derived.Test.YtnnehekodoakeaaQBase
import Derived.Test.YtnnehekodoakeaaF14
namespace Go.Proofs.Ytnnehekodoakeaa.Pure
open Go.RowKit Go.Proofs.Ytnnehekodoakeaa.Print Go.Proofs.Ytnnehekodoakeaa.Q Go.Proofs.YtnnehekodoakeaaW.PrintWords Go.Proofs.YtnnehekodoakeaaW.PrintLast Go.Proofs.YtnnehekodoakeaaW.PrintMore
set_option linter.unusedVariables false
set_option linter.unusedSimpArgs false

theorem awake_accm : Ev (fun k => umpirelaw05_awake.f k) true := Ev.of (fun k => umpirelaw05_awake.mono k) (k := 60) (by decide +kernel)
end Go.Proofs.Ytnnehekodoakeaa.Pure
