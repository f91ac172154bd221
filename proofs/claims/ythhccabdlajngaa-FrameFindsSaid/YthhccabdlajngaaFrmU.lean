import Derived.Test.YthhccabdlajngaaFrmT
namespace Go.Proofs.Ythhccabdlajngaa.FrmU
open Go Go.Sim Go.Sim.E Go.RowKit Go.Proofs Go.Proofs.Ythhccabdlajngaa.Cod Go.Proofs.Ythhccabdlajngaa.Tab Go.Proofs.Ythhccabdlajngaa.Bse Go.Proofs.Ythhccabdlajngaa.Krc Go.Proofs.Ythhccabdlajngaa.FrmA Go.Proofs.Ythhccabdlajngaa.FrmB Go.Proofs.Ythhccabdlajngaa.FrmC Go.Proofs.Ythhccabdlajngaa.FrmD Go.Proofs.Ythhccabdlajngaa.FrmE Go.Proofs.Ythhccabdlajngaa.FrmF Go.Proofs.Ythhccabdlajngaa.FrmN Go.Proofs.Ythhccabdlajngaa.FrmO Go.Proofs.Ythhccabdlajngaa.FrmO Go.Proofs.Ythhccabdlajngaa.FrmP Go.Proofs.Ythhccabdlajngaa.FrmQ Go.Proofs.Ythhccabdlajngaa.FrmR Go.Proofs.Ythhccabdlajngaa.FrmS Go.Proofs.Ythhccabdlajngaa.FrmT
set_option linter.unusedVariables false
set_option linter.unusedSimpArgs false
set_option maxRecDepth 100000
set_option maxHeartbeats 4000000
theorem fp_17 (k : Int) (t : V 16) (es er o n : Int) (su : V 32) (d r : AV) (c : Int) (a b : Int) : spl (fc k t es er o n su d r c) 17 [U a, U b] = fc k t a b o n su d r c := by
  have h1 := v16 t
  have := spl_app [U a, U b] [U es, U er] (I k :: cB t.1) (L o :: L n :: (cB su.1 ++ [d, r, I c])) rfl
  have e : (I k :: cB t.1).length = 17 := by simp [h1]
  rw [e] at this
  exact this
end Go.Proofs.Ythhccabdlajngaa.FrmU
