/- The anchor of fcs's laws answers true. -/
import Derived.Test.YtnokndhppdkmdaaQFcs
import Derived.Test.YtnokndhppdkmdaaF9
namespace Go.Proofs.Ytnokndhppdkmdaa.Pure
open Go.RowKit Go.Proofs.Ytnokndhppdkmdaa.Print Go.Proofs.Ytnokndhppdkmdaa.Q Go.Proofs.YtnokndhppdkmdaaW.PrintWords Go.Proofs.YtnokndhppdkmdaaW.PrintLast Go.Proofs.YtnokndhppdkmdaaW.PrintMore
set_option linter.unusedVariables false
set_option linter.unusedSimpArgs false

theorem awake_fcs : Ev (fun k => umpirelaw04_awake.f k) true := Ev.of (fun k => umpirelaw04_awake.mono k) (k := 60) (by decide +kernel)
end Go.Proofs.Ytnokndhppdkmdaa.Pure
