-- The plain law of spans: no program in sight.
namespace Go.Proofs.Ytnfgnafphfddhaa.SpnP

abbrev Rg := Int × Int
/-- A number lies in one of the ranges. -/
def mem (l : List Rg) (p : Int) : Prop := ∃ r ∈ l, r.1 ≤ p ∧ p < r.2
theorem mem_cons (r : Rg) (l : List Rg) (p : Int) : mem (r :: l) p ↔ (r.1 ≤ p ∧ p < r.2) ∨ mem l p := by
  constructor
  · rintro ⟨s, hs, h⟩
    rcases List.mem_cons.1 hs with rfl | hs
    · exact .inl h
    · exact .inr ⟨s, hs, h⟩
  · rintro (h | ⟨s, hs, h⟩)
    · exact ⟨r, List.mem_cons_self, h⟩
    · exact ⟨s, List.mem_cons_of_mem _ hs, h⟩
/-- A range put into the ones behind it. -/
def merge : Rg → List Rg → List Rg
  | x, [] => [x]
  | x, r :: l => if r.1 ≤ x.2 ∧ x.1 ≤ r.2 then merge (min x.1 r.1, max x.2 r.2) l else x :: r :: l
/-- A range put in. -/
def add (x : Rg) : List Rg → List Rg
  | [] => [x]
  | r :: l => if r.2 < x.1 then r :: add x l else merge x (r :: l)
end Go.Proofs.Ytnfgnafphfddhaa.SpnP
