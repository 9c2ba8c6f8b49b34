/- The anchor of stuff's laws answers true. -/
import Derived.Test.YtjpfhipgffmgjaaQStuff
import Derived.Test.YtjpfhipgffmgjaaF12
namespace Go.Proofs.Ytjpfhipgffmgjaa.Pure
open Go.RowKit Go.Proofs.Ytjpfhipgffmgjaa.Print Go.Proofs.Ytjpfhipgffmgjaa.Q Go.Proofs.YtjpfhipgffmgjaaW.PrintWords Go.Proofs.YtjpfhipgffmgjaaW.PrintLast Go.Proofs.YtjpfhipgffmgjaaW.PrintMore
set_option linter.unusedVariables false
set_option linter.unusedSimpArgs false

theorem awake_stuff : Ev (fun k => umpirelaw06_awake.f k) true := Ev.of (fun k => umpirelaw06_awake.mono k) (k := 60) (by decide +kernel)
end Go.Proofs.Ytjpfhipgffmgjaa.Pure
