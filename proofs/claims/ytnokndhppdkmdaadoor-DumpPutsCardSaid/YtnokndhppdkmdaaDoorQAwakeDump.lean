/- The anchor of dump's laws answers true. -/
import Derived.Test.YtnokndhppdkmdaaDoorQBase
import Derived.Test.YtnokndhppdkmdaaDoorF9
namespace Go.Proofs.YtnokndhppdkmdaaDoor.Pure
open Go.RowKit Go.Proofs.YtnokndhppdkmdaaDoor.Print Go.Proofs.YtnokndhppdkmdaaDoor.Q Go.Proofs.YtnokndhppdkmdaaDoorW.PrintWords Go.Proofs.YtnokndhppdkmdaaDoorW.PrintLast Go.Proofs.YtnokndhppdkmdaaDoorW.PrintMore

theorem awake_dump : Ev (fun k => umpirelaw10_awake.f k) true := Ev.of (fun k => umpirelaw10_awake.mono k) (k := 40) (by decide +kernel)
end Go.Proofs.YtnokndhppdkmdaaDoor.Pure
