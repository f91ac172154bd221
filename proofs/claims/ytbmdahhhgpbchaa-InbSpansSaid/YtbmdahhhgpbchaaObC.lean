import Derived.Test.YtbmdahhhgpbchaaObB
namespace Go.Proofs.Ytbmdahhhgpbchaa.ObC
open Go Go.Sim Go.Sim.E Go.RowKit Go.Proofs Go.Proofs.Ytbmdahhhgpbchaa.Cod Go.Proofs.Ytbmdahhhgpbchaa.Tab Go.Proofs.Ytbmdahhhgpbchaa.Bse Go.Proofs.Ytbmdahhhgpbchaa.SpnP Go.Proofs.Ytbmdahhhgpbchaa.SwA Go.Proofs.Ytbmdahhhgpbchaa.SwB Go.Proofs.Ytbmdahhhgpbchaa.SwC Go.Proofs.Ytbmdahhhgpbchaa.SwS Go.Proofs.Ytbmdahhhgpbchaa.SwD Go.Proofs.Ytbmdahhhgpbchaa.SwF Go.Proofs.Ytbmdahhhgpbchaa.SwG Go.Proofs.Ytbmdahhhgpbchaa.SwL Go.Proofs.Ytbmdahhhgpbchaa.ObA Go.Proofs.Ytbmdahhhgpbchaa.ObB
set_option linter.unusedVariables false
set_option linter.unusedSimpArgs false
set_option maxRecDepth 100000
set_option maxHeartbeats 4000000
def pc (src : List Int) (r : Rg) : List Int := (src.drop r.1.toNat).take (r.2.toNat - r.1.toNat)
def enP (src : List Int) (r : Rg) : List AV := [I r.1, fB (pc src r)]
def cP (src : List Int) (rs : List Rg) : List AV := rs.flatMap (enP src)
@[simp] theorem cP_length (src : List Int) (l : List Rg) : (cP src l).length = l.length * 2 := flat_length (enP src) 2 l (fun _ _ => rfl)
@[simp] theorem cP_okI (src : List Int) (l : List Rg) : okI (cP src l) := by
  refine okI_flat (fun a => ?_) l
  intro x hx
  simp only [enP, List.mem_cons, List.not_mem_nil, or_false] at hx
  rcases hx with rfl | rfl <;> simp [isF, okI]
end Go.Proofs.Ytbmdahhhgpbchaa.ObC
