import Derived.Test.YthhccabdlajngaaDoorNumF
namespace Go.Proofs.YthhccabdlajngaaDoor.NumG
open Go Go.Sim Go.Sim.E Go.RowKit Go.Proofs Go.Proofs.YthhccabdlajngaaDoor.Cod Go.Proofs.YthhccabdlajngaaDoor.Tab Go.Proofs.YthhccabdlajngaaDoor.Bse Go.Proofs.YthhccabdlajngaaDoor.NumA Go.Proofs.YthhccabdlajngaaDoor.NumB Go.Proofs.YthhccabdlajngaaDoor.NumC Go.Proofs.YthhccabdlajngaaDoor.NumD Go.Proofs.YthhccabdlajngaaDoor.NumE Go.Proofs.YthhccabdlajngaaDoor.NumF
set_option linter.unusedVariables false
set_option linter.unusedSimpArgs false
set_option maxRecDepth 100000
set_option maxHeartbeats 4000000
end Go.Proofs.YthhccabdlajngaaDoor.NumG
