import Derived.Test.YtnfgnafphfddhaaSwG
namespace Go.Proofs.Ytnfgnafphfddhaa.SwK
open Go Go.Sim Go.Sim.E Go.RowKit Go.Proofs Go.Proofs.Ytnfgnafphfddhaa.Cod Go.Proofs.Ytnfgnafphfddhaa.Tab Go.Proofs.Ytnfgnafphfddhaa.SpnP Go.Proofs.Ytnfgnafphfddhaa.SwA Go.Proofs.Ytnfgnafphfddhaa.SwB Go.Proofs.Ytnfgnafphfddhaa.SwC Go.Proofs.Ytnfgnafphfddhaa.SwS Go.Proofs.Ytnfgnafphfddhaa.SwD Go.Proofs.Ytnfgnafphfddhaa.SwF Go.Proofs.Ytnfgnafphfddhaa.SwG
set_option linter.unusedVariables false
set_option linter.unusedSimpArgs false
set_option maxRecDepth 100000
set_option maxHeartbeats 4000000
theorem plF_iff (t n : Int) : plF t n = true ↔ 0 ≤ n ∧ n ≤ t ∧ (Int.tmod n (256 : Int) = 0 ∨ n = t) := by simp [plF]
end Go.Proofs.Ytnfgnafphfddhaa.SwK
