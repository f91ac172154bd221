import Derived.Test.YthhccabdlajngaaDoorNumI
namespace Go.Proofs.YthhccabdlajngaaDoor.NumZ
open Go Go.Sim Go.Sim.E Go.RowKit Go.Proofs Go.Proofs.YthhccabdlajngaaDoor.Cod Go.Proofs.YthhccabdlajngaaDoor.Tab Go.Proofs.YthhccabdlajngaaDoor.Bse Go.Proofs.YthhccabdlajngaaDoor.NumA Go.Proofs.YthhccabdlajngaaDoor.NumB Go.Proofs.YthhccabdlajngaaDoor.NumC Go.Proofs.YthhccabdlajngaaDoor.NumD Go.Proofs.YthhccabdlajngaaDoor.NumE Go.Proofs.YthhccabdlajngaaDoor.NumF Go.Proofs.YthhccabdlajngaaDoor.NumG Go.Proofs.YthhccabdlajngaaDoor.NumH Go.Proofs.YthhccabdlajngaaDoor.NumI
set_option linter.unusedVariables false
set_option linter.unusedSimpArgs false
set_option maxRecDepth 100000
set_option maxHeartbeats 4000000
theorem fm_ints (l : List Int) : (l.flatMap fun n => [AV.sc (Value.int IntKind.u8 n)]) = cB l := by
  induction l with
  | nil => rfl
  | cons a l ih => rw [List.flatMap_cons, ih]; rfl
theorem u8_lim {n : Int} (h : IntKind.u8.min ≤ n ∧ n ≤ IntKind.u8.max) : 0 ≤ n ∧ n < 256 := by
  have h1 : IntKind.u8.min = 0 := by decide
  have h2 : IntKind.u8.max = 255 := by decide
  omega
theorem law6' (l : List Int) (h : ∀ x ∈ l, IntKind.u8.min ≤ x ∧ x ≤ IntKind.u8.max) : Con Tryd.prog 6 [] [.fz l.length (l.flatMap fun n => [AV.sc (Value.int IntKind.u8 n)])] [] (Bo true) := by
  rw [fm_ints]
  exact exact_law l (fun x hx => u8_lim (h x hx))
end Go.Proofs.YthhccabdlajngaaDoor.NumZ
