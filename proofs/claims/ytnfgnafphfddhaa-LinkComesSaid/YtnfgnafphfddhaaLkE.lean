import Derived.Test.YtnfgnafphfddhaaLkD
namespace Go.Proofs.Ytnfgnafphfddhaa.LkE
open Go Go.Sim Go.Sim.E Go.RowKit Go.Proofs Go.Proofs.Ytnfgnafphfddhaa.Cod Go.Proofs.Ytnfgnafphfddhaa.Tab Go.Proofs.Ytnfgnafphfddhaa.Bse Go.Proofs.Ytnfgnafphfddhaa.LkA Go.Proofs.Ytnfgnafphfddhaa.LkB Go.Proofs.Ytnfgnafphfddhaa.LkC Go.Proofs.Ytnfgnafphfddhaa.LkD
set_option linter.unusedVariables false
set_option linter.unusedSimpArgs false
set_option maxRecDepth 100000
set_option maxHeartbeats 4000000
/-- A step as the row opens it. -/
abbrev RS := Bool × List Int × Int × Int × List Int
def encS (x : RS) : List AV := [AV.sc (.bool x.1)] ++ ([AV.fz x.2.1.length (x.2.1.flatMap fun n : Int => [AV.sc (.int .u8 n)])] ++ ([AV.sc (.int .i64 x.2.2.1)] ++ ([AV.sc (.int .u16 x.2.2.2.1)] ++ x.2.2.2.2.flatMap fun n : Int => [AV.sc (.int .u8 n)])))
def toS (x : RS) : Stp := ⟨x.1, x.2.1, x.2.2.1, x.2.2.2.1, x.2.2.2.2.getD 0 0, x.2.2.2.2.getD 1 0, x.2.2.2.2.getD 2 0, x.2.2.2.2.getD 3 0⟩
theorem encS_eq (x : RS) (h : x.2.2.2.2.length = 4) : encS x = stC (toS x) := by
  obtain ⟨a, b, c, d, e⟩ := x
  simp only at h
  unfold encS stC toS
  simp only [flat_cB]
  match e, h with
  | [e0, e1, e2, e3], _ => rfl
theorem encS_all (l : List RS) (h : ∀ x ∈ l, x.2.2.2.2.length = 4) : l.flatMap encS = cS (l.map toS) := by
  induction l with
  | nil => rfl
  | cons x l ih =>
    rw [List.flatMap_cons, encS_eq x (h x (List.mem_cons_self ..)), ih (fun y hy => h y (List.mem_cons_of_mem _ hy))]
    rfl
theorem law5' (l : List RS) (m : RS) (h : ∀ x ∈ l, x.2.2.2.2.length = 4) (hm : m.2.2.2.2.length = 4) (ha : IntKind.u16.min ≤ m.2.2.2.1 ∧ m.2.2.2.1 ≤ IntKind.u16.max) : Con Try.prog 5 [] [.fz l.length (l.flatMap encS), .ag (encS m)] [] (Bo true) := by
  have h1 : IntKind.u16.min = 0 := by decide
  have h2 : IntKind.u16.max = 65535 := by decide
  rw [encS_all l h, encS_eq m hm]
  have := comes_law (l.map toS) (toS m) (by show 0 ≤ m.2.2.2.1 ∧ m.2.2.2.1 < 65536; omega)
  rw [List.length_map] at this
  exact this
end Go.Proofs.Ytnfgnafphfddhaa.LkE
