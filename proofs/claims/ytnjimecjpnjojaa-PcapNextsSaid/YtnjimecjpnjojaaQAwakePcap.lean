/- The anchor of pcap's laws answers true. -/
import Derived.Test.YtnjimecjpnjojaaQBase
import Derived.Test.YtnjimecjpnjojaaF15
namespace Go.Proofs.Ytnjimecjpnjojaa.Pure
open Go.RowKit Go.Proofs.Ytnjimecjpnjojaa.Print Go.Proofs.Ytnjimecjpnjojaa.Q Go.Proofs.YtnjimecjpnjojaaW.PrintWords Go.Proofs.YtnjimecjpnjojaaW.PrintLast Go.Proofs.YtnjimecjpnjojaaW.PrintMore

theorem awake_pcap : Ev (fun k => umpirelaw09_awake.f k) true := Ev.of (fun k => umpirelaw09_awake.mono k) (k := 60) (by decide +kernel)
end Go.Proofs.Ytnjimecjpnjojaa.Pure
