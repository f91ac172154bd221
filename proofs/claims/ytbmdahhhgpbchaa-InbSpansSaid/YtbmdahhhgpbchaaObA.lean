import Derived.Test.YtbmdahhhgpbchaaCodC
import Derived.Test.YtbmdahhhgpbchaaSwL
namespace Go.Proofs.Ytbmdahhhgpbchaa.ObA
open Go Go.Sim Go.Sim.E Go.RowKit Go.Proofs Go.Proofs.Ytbmdahhhgpbchaa.Cod Go.Proofs.Ytbmdahhhgpbchaa.Tab Go.Proofs.Ytbmdahhhgpbchaa.Bse Go.Proofs.Ytbmdahhhgpbchaa.SpnP Go.Proofs.Ytbmdahhhgpbchaa.SwA Go.Proofs.Ytbmdahhhgpbchaa.SwB Go.Proofs.Ytbmdahhhgpbchaa.SwC Go.Proofs.Ytbmdahhhgpbchaa.SwS Go.Proofs.Ytbmdahhhgpbchaa.SwD Go.Proofs.Ytbmdahhhgpbchaa.SwF Go.Proofs.Ytbmdahhhgpbchaa.SwG Go.Proofs.Ytbmdahhhgpbchaa.SwL
set_option linter.unusedVariables false
set_option linter.unusedSimpArgs false
set_option maxRecDepth 100000
set_option maxHeartbeats 4000000
abbrev Tm := Bool × Int × Int
/-- A timer as its calls leave it. -/
def TOk (T : Tm) : Prop := (T.1 = false ∧ T.2.1 = 0 ∧ T.2.2 = 0) ∨ (T.1 = true ∧ 1 ≤ T.2.2 ∧ T.2.2 ≤ T.2.1 ∧ T.2.1 ≤ 16)
def offT : Tm := (false, 0, 0)
def oneT : Tm := (true, 1, 1)
theorem TOk.off : TOk offT := .inl ⟨rfl, rfl, rfl⟩
theorem TOk.one : TOk oneT := .inr ⟨rfl, by decide, by decide, by decide⟩
end Go.Proofs.Ytbmdahhhgpbchaa.ObA
