import Derived.Test.YtbmdahhhgpbchaaSwS
namespace Go.Proofs.Ytbmdahhhgpbchaa.SwD
open Go Go.Sim Go.Sim.E Go.RowKit Go.Proofs Go.Proofs.Ytbmdahhhgpbchaa.Cod Go.Proofs.Ytbmdahhhgpbchaa.Tab Go.Proofs.Ytbmdahhhgpbchaa.Bse Go.Proofs.Ytbmdahhhgpbchaa.SpnP Go.Proofs.Ytbmdahhhgpbchaa.SwA Go.Proofs.Ytbmdahhhgpbchaa.SwB Go.Proofs.Ytbmdahhhgpbchaa.SwC Go.Proofs.Ytbmdahhhgpbchaa.SwS
set_option linter.unusedVariables false
set_option linter.unusedSimpArgs false
set_option maxRecDepth 100000
set_option maxHeartbeats 4000000
theorem merge_length : ∀ (l : List Rg) (x : Rg), (merge x l).length ≤ l.length + 1
  | [], x => by simp [merge]
  | r :: l, x => by
    unfold merge
    split
    · have := merge_length l (min x.1 r.1, max x.2 r.2); simp; omega
    · simp
theorem add_length (x : Rg) : ∀ l : List Rg, (add x l).length ≤ l.length + 1
  | [] => by simp [add]
  | r :: l => by
    unfold add
    split
    · have := add_length x l; simp; omega
    · exact merge_length _ _
def addS (l : List Rg) (a b : Int) : List Rg := if lim b ≤ lim a then l else add (lim a, lim b) l
theorem adds_con (l : List Rg) (hl : l.length < 1000000) (a b : Int) : Con Try.prog 104 [] [.ag [fR l], I a, I b] [] (.ag [fR (addS l a b)]) := add_con l hl a b
theorem addS_length (l : List Rg) (a b : Int) : (addS l a b).length ≤ l.length + 1 := by
  unfold addS
  split
  · omega
  · exact add_length _ l
end Go.Proofs.Ytbmdahhhgpbchaa.SwD
