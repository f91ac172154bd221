-- The plain law of spans: no program in sight.
namespace Go.Proofs.Ytbmdahhhgpbchaa.SpnP

abbrev Rg := Int × Int
/-- A number lies in one of the ranges. -/
def mem (l : List Rg) (p : Int) : Prop := ∃ r ∈ l, r.1 ≤ p ∧ p < r.2
/-- In order, none empty, a true gap between two. -/
def Norm : List Rg → Prop
  | [] => True
  | r :: l => r.1 < r.2 ∧ (∀ s ∈ l, r.2 < s.1) ∧ Norm l
theorem mem_cons (r : Rg) (l : List Rg) (p : Int) : mem (r :: l) p ↔ (r.1 ≤ p ∧ p < r.2) ∨ mem l p := by
  constructor
  · rintro ⟨s, hs, h⟩
    rcases List.mem_cons.1 hs with rfl | hs
    · exact .inl h
    · exact .inr ⟨s, hs, h⟩
  · rintro (h | ⟨s, hs, h⟩)
    · exact ⟨r, List.mem_cons_self, h⟩
    · exact ⟨s, List.mem_cons_of_mem _ hs, h⟩
theorem mem_nil (p : Int) : ¬ mem [] p := by rintro ⟨r, hr, _⟩; cases hr
theorem norm_above {r : Rg} {l : List Rg} (h : Norm (r :: l)) {p : Int} (hp : mem l p) : r.2 < p := by
  obtain ⟨s, hs, h1, h2⟩ := hp
  have := h.2.1 s hs
  omega
/-- A range put into the ones behind it. -/
def merge : Rg → List Rg → List Rg
  | x, [] => [x]
  | x, r :: l => if r.1 ≤ x.2 ∧ x.1 ≤ r.2 then merge (min x.1 r.1, max x.2 r.2) l else x :: r :: l
/-- A range put in. -/
def add (x : Rg) : List Rg → List Rg
  | [] => [x]
  | r :: l => if r.2 < x.1 then r :: add x l else merge x (r :: l)
theorem merge_bound (B : Int) : ∀ (l : List Rg) (x : Rg), B < x.1 → (∀ r ∈ l, B < r.1) → ∀ s ∈ merge x l, B < s.1
  | [], x, hx, _, s, hs => by simp [merge] at hs; subst hs; exact hx
  | r :: l, x, hx, hl, s, hs => by
    have hr := hl r List.mem_cons_self
    unfold merge at hs
    split at hs
    · exact merge_bound B l _ (by show B < min x.1 r.1; omega) (fun q hq => hl q (List.mem_cons_of_mem _ hq)) s hs
    · rcases List.mem_cons.1 hs with rfl | hs
      · exact hx
      · exact hl s hs
theorem add_bound (B : Int) (x : Rg) : ∀ l : List Rg, B < x.1 → (∀ r ∈ l, B < r.1) → ∀ s ∈ add x l, B < s.1
  | [], hx, _, s, hs => by simp [add] at hs; subst hs; exact hx
  | r :: l, hx, hl, s, hs => by
    unfold add at hs
    split at hs
    · rcases List.mem_cons.1 hs with rfl | hs
      · exact hl s List.mem_cons_self
      · exact add_bound B x l hx (fun q hq => hl q (List.mem_cons_of_mem _ hq)) s hs
    · exact merge_bound B (r :: l) x hx hl s hs
theorem norm_from {r : Rg} {l : List Rg} (h : Norm (r :: l)) : ∀ s ∈ l, r.1 < s.1 := fun s hs => by have := h.2.1 s hs; have := h.1; omega
theorem norm_each : ∀ l : List Rg, Norm l → ∀ q ∈ l, q.1 < q.2
  | [], _, q, hq => by cases hq
  | r :: l, hn, q, hq => by
    rcases List.mem_cons.1 hq with rfl | hq
    · exact hn.1
    · exact norm_each l hn.2.2 q hq
theorem merge_norm : ∀ (l : List Rg) (x : Rg), x.1 < x.2 → Norm l → (∀ r ∈ l, x.1 ≤ r.2) → Norm (merge x l) ∧ ∀ p, mem (merge x l) p ↔ (x.1 ≤ p ∧ p < x.2) ∨ mem l p
  | [], x, hx, _, _ => ⟨⟨hx, by simp, trivial⟩, fun p => mem_cons x [] p⟩
  | r :: l, x, hx, hn, hb => by
    have hr := hn.1
    unfold merge
    split
    · rename_i h
      obtain ⟨h1, h2⟩ := merge_norm l (min x.1 r.1, max x.2 r.2) (by show min x.1 r.1 < max x.2 r.2; omega) hn.2.2 (fun q hq => by
        show min x.1 r.1 ≤ q.2
        have := hb q (List.mem_cons_of_mem _ hq)
        omega)
      refine ⟨h1, fun p => ?_⟩
      rw [h2 p, mem_cons]
      show (min x.1 r.1 ≤ p ∧ p < max x.2 r.2) ∨ mem l p ↔ _
      constructor
      · rintro (h3 | h3)
        · by_cases hq : x.1 ≤ p ∧ p < x.2
          · exact .inl hq
          · exact .inr (.inl (by omega))
        · exact .inr (.inr h3)
      · rintro (h3 | h3 | h3)
        · exact .inl (by omega)
        · exact .inl (by omega)
        · exact .inr h3
    · rename_i h
      have hb0 := hb r List.mem_cons_self
      refine ⟨⟨hx, fun s hs => ?_, hn⟩, fun p => mem_cons x (r :: l) p⟩
      rcases List.mem_cons.1 hs with rfl | hs
      · omega
      · have := norm_from hn s hs; omega
theorem add_norm (x : Rg) (hx : x.1 < x.2) : ∀ l : List Rg, Norm l → Norm (add x l) ∧ ∀ p, mem (add x l) p ↔ (x.1 ≤ p ∧ p < x.2) ∨ mem l p
  | [], _ => ⟨⟨hx, by simp, trivial⟩, fun p => mem_cons x [] p⟩
  | r :: l, hn => by
    unfold add
    split
    · rename_i h
      obtain ⟨h1, h2⟩ := add_norm x hx l hn.2.2
      refine ⟨⟨hn.1, fun s hs => add_bound r.2 x l h hn.2.1 s hs, h1⟩, fun p => ?_⟩
      rw [mem_cons, h2 p, mem_cons]
      constructor
      · rintro (h3 | h3 | h3)
        · exact .inr (.inl h3)
        · exact .inl h3
        · exact .inr (.inr h3)
      · rintro (h3 | h3 | h3)
        · exact .inr (.inl h3)
        · exact .inl h3
        · exact .inr (.inr h3)
    · rename_i h
      exact merge_norm (r :: l) x hx hn (fun q hq => by
        rcases List.mem_cons.1 hq with rfl | hq
        · omega
        · have := norm_from hn q hq
          have h3 := hn.2.1 q hq
          have hq2 := norm_each _ hn.2.2 q hq
          omega)

end Go.Proofs.Ytbmdahhhgpbchaa.SpnP
