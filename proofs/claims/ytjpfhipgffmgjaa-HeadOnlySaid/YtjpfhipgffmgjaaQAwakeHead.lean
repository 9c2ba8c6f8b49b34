/- The anchor of head's laws answers true. -/
import Derived.Test.YtjpfhipgffmgjaaQBase
import Derived.Test.YtjpfhipgffmgjaaF20
namespace Go.Proofs.Ytjpfhipgffmgjaa.Pure
open Go.RowKit Go.Proofs.Ytjpfhipgffmgjaa.Print Go.Proofs.Ytjpfhipgffmgjaa.Q Go.Proofs.YtjpfhipgffmgjaaW.PrintWords Go.Proofs.YtjpfhipgffmgjaaW.PrintLast Go.Proofs.YtjpfhipgffmgjaaW.PrintMore
set_option linter.unusedVariables false
set_option linter.unusedSimpArgs false

theorem awake_head : Ev (fun k => umpirelaw08_awake.f k) true := Ev.of (fun k => umpirelaw08_awake.mono k) (k := 60) (by decide +kernel)
end Go.Proofs.Ytjpfhipgffmgjaa.Pure
