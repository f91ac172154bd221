import Derived.Test.YthhccabdlajngaaDoorNumI
namespace Go.Proofs.YthhccabdlajngaaDoor.NumZ
open Go Go.Sim Go.Sim.E Go.RowKit Go.Proofs Go.Proofs.YthhccabdlajngaaDoor.Cod Go.Proofs.YthhccabdlajngaaDoor.Tab Go.Proofs.YthhccabdlajngaaDoor.Bse Go.Proofs.YthhccabdlajngaaDoor.NumA Go.Proofs.YthhccabdlajngaaDoor.NumB Go.Proofs.YthhccabdlajngaaDoor.NumC Go.Proofs.YthhccabdlajngaaDoor.NumD Go.Proofs.YthhccabdlajngaaDoor.NumE Go.Proofs.YthhccabdlajngaaDoor.NumF Go.Proofs.YthhccabdlajngaaDoor.NumG Go.Proofs.YthhccabdlajngaaDoor.NumH Go.Proofs.YthhccabdlajngaaDoor.NumI
set_option linter.unusedVariables false
set_option linter.unusedSimpArgs false
set_option maxRecDepth 100000
set_option maxHeartbeats 4000000
theorem i64_lim {n : Int} (h : IntKind.i64.min ≤ n ∧ n ≤ IntKind.i64.max) : -9223372036854775808 ≤ n ∧ n ≤ 9223372036854775807 := by
  have h1 : IntKind.i64.min = -9223372036854775808 := by decide
  have h2 : IntKind.i64.max = 9223372036854775807 := by decide
  omega
theorem law5' (n w : Int) (hn : IntKind.i64.min ≤ n ∧ n ≤ IntKind.i64.max) (hw : IntKind.i64.min ≤ w ∧ w ≤ IntKind.i64.max) : Con Tryd.prog 5 [] [I n, I w] [] (Bo true) := back_law n w (i64_lim hn) (i64_lim hw)
end Go.Proofs.YthhccabdlajngaaDoor.NumZ
