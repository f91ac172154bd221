import Derived.Test.YtbmdahhhgpbchaaSnK
namespace Go.Proofs.Ytbmdahhhgpbchaa.SnL
open Go Go.Sim Go.Sim.E Go.RowKit Go.Proofs Go.Proofs.Ytbmdahhhgpbchaa.Cod Go.Proofs.Ytbmdahhhgpbchaa.Tab Go.Proofs.Ytbmdahhhgpbchaa.Bse Go.Proofs.Ytbmdahhhgpbchaa.SpnP Go.Proofs.Ytbmdahhhgpbchaa.SwA Go.Proofs.Ytbmdahhhgpbchaa.SwB Go.Proofs.Ytbmdahhhgpbchaa.SwC Go.Proofs.Ytbmdahhhgpbchaa.SwS Go.Proofs.Ytbmdahhhgpbchaa.SwD Go.Proofs.Ytbmdahhhgpbchaa.SwF Go.Proofs.Ytbmdahhhgpbchaa.SwG Go.Proofs.Ytbmdahhhgpbchaa.SwL Go.Proofs.Ytbmdahhhgpbchaa.ObA Go.Proofs.Ytbmdahhhgpbchaa.ObB Go.Proofs.Ytbmdahhhgpbchaa.ObC Go.Proofs.Ytbmdahhhgpbchaa.SnA Go.Proofs.Ytbmdahhhgpbchaa.SnB Go.Proofs.Ytbmdahhhgpbchaa.SnC Go.Proofs.Ytbmdahhhgpbchaa.SnD Go.Proofs.Ytbmdahhhgpbchaa.SnE Go.Proofs.Ytbmdahhhgpbchaa.SnF Go.Proofs.Ytbmdahhhgpbchaa.SnG Go.Proofs.Ytbmdahhhgpbchaa.SnH Go.Proofs.Ytbmdahhhgpbchaa.DgA Go.Proofs.Ytbmdahhhgpbchaa.DgB Go.Proofs.Ytbmdahhhgpbchaa.SnI Go.Proofs.Ytbmdahhhgpbchaa.SnJ Go.Proofs.Ytbmdahhhgpbchaa.SnK
set_option linter.unusedVariables false
set_option linter.unusedSimpArgs false
set_option maxRecDepth 100000
set_option maxHeartbeats 4000000
theorem fm_ints (l : List Int) : l.flatMap (fun n => [AV.sc (Value.int IntKind.u8 n)]) = cB l := by
  induction l with
  | nil => rfl
  | cons x l ih => rw [List.flatMap_cons, ih]; rfl
theorem fm_rgs (l : List (Int × Int)) : l.flatMap (fun p => [AV.sc (Value.int IntKind.u64 p.1)] ++ [AV.sc (Value.int IntKind.u64 p.2)]) = cQ l := by
  induction l with
  | nil => rfl
  | cons x l ih => rw [List.flatMap_cons, ih]; rfl
/-- A frame as the row opens it. -/
abbrev RF := Int × List Int × (Int × Int) × Int × Int × List Int × List Int × List (Int × Int) × Int
def encF (y : RF) : List AV := [AV.sc (Value.int IntKind.i64 y.1)] ++ (y.2.1.flatMap (fun n => [AV.sc (Value.int IntKind.u8 n)]) ++ ([AV.sc (Value.int IntKind.u32 y.2.2.1.1)] ++ [AV.sc (Value.int IntKind.u32 y.2.2.1.2)] ++ ([AV.sc (Value.int IntKind.u64 y.2.2.2.1)] ++ ([AV.sc (Value.int IntKind.u64 y.2.2.2.2.1)] ++
  (y.2.2.2.2.2.1.flatMap (fun n => [AV.sc (Value.int IntKind.u8 n)]) ++ ([AV.fz y.2.2.2.2.2.2.1.length (y.2.2.2.2.2.2.1.flatMap (fun n => [AV.sc (Value.int IntKind.u8 n)]))] ++ ([AV.fz y.2.2.2.2.2.2.2.1.length (y.2.2.2.2.2.2.2.1.flatMap (fun p => [AV.sc (Value.int IntKind.u64 p.1)] ++ [AV.sc (Value.int IntKind.u64 p.2)]))] ++ [AV.sc (Value.int IntKind.i64 y.2.2.2.2.2.2.2.2)])))))))
def rok (y : RF) : Prop := y.2.1.length = 16 ∧ y.2.2.2.2.2.1.length = 32
instance (y : RF) : Decidable (rok y) := inferInstanceAs (Decidable (_ ∧ _))
def toF (y : RF) : Fm := if h : rok y then ⟨y.1, ⟨y.2.1, h.1⟩, y.2.2.1.1, y.2.2.1.2, y.2.2.2.1, y.2.2.2.2.1, ⟨y.2.2.2.2.2.1, h.2⟩, y.2.2.2.2.2.2.1, y.2.2.2.2.2.2.2.1, y.2.2.2.2.2.2.2.2⟩ else ⟨0, z16, 0, 0, 0, 0, z32, [], [], 0⟩
theorem encF_eq (y : RF) (h : rok y) : encF y = fr (toF y) := by
  unfold encF toF
  rw [dif_pos h]
  simp only [fm_ints, fm_rgs]
  simp [fr, fc]
theorem encT_all (l : List (Bool × Bool × Bool × RF)) (h : ∀ x ∈ l, rok x.2.2.2) :
    l.flatMap (fun x => [AV.sc (.bool x.1)] ++ ([AV.sc (.bool x.2.1)] ++ ([AV.sc (.bool x.2.2.1)] ++ encF x.2.2.2))) = cT (l.map fun x => (x.1, x.2.1, x.2.2.1, toF x.2.2.2)) := by
  induction l with
  | nil => rfl
  | cons x l ih =>
    rw [List.flatMap_cons, ih (fun y hy => h y (List.mem_cons_of_mem _ hy)), encF_eq _ (h x (List.mem_cons_self ..))]
    rfl
end Go.Proofs.Ytbmdahhhgpbchaa.SnL
