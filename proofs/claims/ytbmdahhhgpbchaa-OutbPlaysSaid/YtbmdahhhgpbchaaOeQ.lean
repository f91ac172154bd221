import Derived.Test.YtbmdahhhgpbchaaOeP
namespace Go.Proofs.Ytbmdahhhgpbchaa.OeQ
open Go Go.Sim Go.Sim.E Go.RowKit Go.Proofs Go.Proofs.Ytbmdahhhgpbchaa.Cod Go.Proofs.Ytbmdahhhgpbchaa.Tab Go.Proofs.Ytbmdahhhgpbchaa.Bse Go.Proofs.Ytbmdahhhgpbchaa.SpnP Go.Proofs.Ytbmdahhhgpbchaa.SwA Go.Proofs.Ytbmdahhhgpbchaa.SwB Go.Proofs.Ytbmdahhhgpbchaa.SwC Go.Proofs.Ytbmdahhhgpbchaa.SwS Go.Proofs.Ytbmdahhhgpbchaa.SwD Go.Proofs.Ytbmdahhhgpbchaa.SwF Go.Proofs.Ytbmdahhhgpbchaa.SwG Go.Proofs.Ytbmdahhhgpbchaa.SwL Go.Proofs.Ytbmdahhhgpbchaa.ObA Go.Proofs.Ytbmdahhhgpbchaa.ObB Go.Proofs.Ytbmdahhhgpbchaa.ObC Go.Proofs.Ytbmdahhhgpbchaa.OeP
set_option linter.unusedVariables false
set_option linter.unusedSimpArgs false
set_option maxRecDepth 100000
set_option maxHeartbeats 4000000
theorem segG_form (t e : Int) : ∀ (k : Nat) (a : Int), ∀ r ∈ segG t e k a, (r.1 - a) % 256 = 0
  | 0, a, r, h => by cases h
  | k + 1, a, r, h => by
    by_cases hc : a < e
    · rw [segG_cons _ _ _ _ hc] at h
      rcases List.mem_cons.1 h with rfl | h
      · simp
      · have := segG_form t e k (a + 256) r h
        omega
    · rw [segG_nil _ _ _ _ hc] at h; cases h
end Go.Proofs.Ytbmdahhhgpbchaa.OeQ
