import Derived.Test.YthhccabdlajngaaFrmO
namespace Go.Proofs.Ythhccabdlajngaa.FrmP
open Go Go.Sim Go.Sim.E Go.RowKit Go.Proofs Go.Proofs.Ythhccabdlajngaa.Cod Go.Proofs.Ythhccabdlajngaa.Tab Go.Proofs.Ythhccabdlajngaa.Bse Go.Proofs.Ythhccabdlajngaa.Krc Go.Proofs.Ythhccabdlajngaa.FrmA Go.Proofs.Ythhccabdlajngaa.FrmB Go.Proofs.Ythhccabdlajngaa.FrmC Go.Proofs.Ythhccabdlajngaa.FrmD Go.Proofs.Ythhccabdlajngaa.FrmE Go.Proofs.Ythhccabdlajngaa.FrmF Go.Proofs.Ythhccabdlajngaa.FrmN Go.Proofs.Ythhccabdlajngaa.FrmO Go.Proofs.Ythhccabdlajngaa.FrmO
set_option linter.unusedVariables false
set_option linter.unusedSimpArgs false
set_option maxRecDepth 100000
set_option maxHeartbeats 4000000
def u64R (x : Int) : Prop := 0 ≤ x ∧ x < 18446744073709551616
end Go.Proofs.Ythhccabdlajngaa.FrmP
