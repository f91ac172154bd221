import Derived.Test.YthhccabdlajngaaFrmW
namespace Go.Proofs.Ythhccabdlajngaa.FrmZ
open Go Go.Sim Go.Sim.E Go.RowKit Go.Proofs Go.Proofs.Ythhccabdlajngaa.Cod Go.Proofs.Ythhccabdlajngaa.Tab Go.Proofs.Ythhccabdlajngaa.Bse Go.Proofs.Ythhccabdlajngaa.Krc Go.Proofs.Ythhccabdlajngaa.FrmA Go.Proofs.Ythhccabdlajngaa.FrmB Go.Proofs.Ythhccabdlajngaa.FrmC Go.Proofs.Ythhccabdlajngaa.FrmD Go.Proofs.Ythhccabdlajngaa.FrmE Go.Proofs.Ythhccabdlajngaa.FrmF Go.Proofs.Ythhccabdlajngaa.FrmN Go.Proofs.Ythhccabdlajngaa.FrmO Go.Proofs.Ythhccabdlajngaa.FrmO Go.Proofs.Ythhccabdlajngaa.FrmP Go.Proofs.Ythhccabdlajngaa.FrmQ Go.Proofs.Ythhccabdlajngaa.FrmR Go.Proofs.Ythhccabdlajngaa.FrmS Go.Proofs.Ythhccabdlajngaa.FrmT Go.Proofs.Ythhccabdlajngaa.FrmU Go.Proofs.Ythhccabdlajngaa.FrmV Go.Proofs.Ythhccabdlajngaa.FrmW
set_option linter.unusedVariables false
set_option linter.unusedSimpArgs false
set_option maxRecDepth 100000
set_option maxHeartbeats 4000000
theorem fm_ints (l : List Int) : l.flatMap (fun n => [AV.sc (Value.int IntKind.u8 n)]) = cB l := by
  induction l with
  | nil => rfl
  | cons x l ih => rw [List.flatMap_cons, ih]; rfl
theorem u8_lim {x : Int} (h : IntKind.u8.min ≤ x ∧ x ≤ IntKind.u8.max) : 0 ≤ x ∧ x < 256 := by
  have h1 : IntKind.u8.min = 0 := by decide
  have h2 : IntKind.u8.max = 255 := by decide
  omega
theorem law4' (l : List Int) (z : Bool) (h : ∀ x ∈ l, IntKind.u8.min ≤ x ∧ x ≤ IntKind.u8.max) : Con Try.prog 4 [] [.fz l.length (l.flatMap fun n => [AV.sc (Value.int IntKind.u8 n)]), Bo z] [] (Bo true) := by
  rw [fm_ints]
  exact law4 l z (fun x hx => u8_lim (h x hx))
end Go.Proofs.Ythhccabdlajngaa.FrmZ
