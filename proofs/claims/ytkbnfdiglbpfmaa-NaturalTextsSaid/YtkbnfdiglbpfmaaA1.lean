/- The chapter's examples: alive answers true. -/
import Derived.Test.YtkbnfdiglbpfmaaP5
namespace Go.Proofs.Ytkbnfdiglbpfmaa.M
open Go.RowKit Go.Proofs.Ytkbnfdiglbpfmaa.P Go.Proofs.YtkbnfdiglbpfmaaW.PrintWords Go.Proofs.YtkbnfdiglbpfmaaW.PrintLast Go.Proofs.YtkbnfdiglbpfmaaW.PrintMore
set_option maxRecDepth 100000
theorem alive_at : garmentlaw01_alive.f 200 = some true := by decide +kernel
theorem alive_ev : Ev (fun k => garmentlaw01_alive.f k) true := Ev.of (fun k => garmentlaw01_alive.mono k) alive_at
end Go.Proofs.Ytkbnfdiglbpfmaa.M
