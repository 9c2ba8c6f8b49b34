/- The anchor of octet's laws answers true. -/
import Derived.Test.YtnnehekodoakeaaQBase
import Derived.Test.YtnnehekodoakeaaF27
namespace Go.Proofs.Ytnnehekodoakeaa.Pure
open Go.RowKit Go.Proofs.Ytnnehekodoakeaa.Print Go.Proofs.Ytnnehekodoakeaa.Q Go.Proofs.YtnnehekodoakeaaW.PrintWords Go.Proofs.YtnnehekodoakeaaW.PrintLast Go.Proofs.YtnnehekodoakeaaW.PrintMore
set_option linter.unusedVariables false
set_option linter.unusedSimpArgs false

theorem awake_octet : Ev (fun k => umpirelaw02_awake.f k) true := Ev.of (fun k => umpirelaw02_awake.mono k) (k := 60) (by decide +kernel)
end Go.Proofs.Ytnnehekodoakeaa.Pure
