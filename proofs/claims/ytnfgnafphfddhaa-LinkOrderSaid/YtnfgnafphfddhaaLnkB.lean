import Derived.Test.YtnfgnafphfddhaaLnkA
namespace Go.Proofs.Ytnfgnafphfddhaa.LnkB
open Go.RowKit Go.Proofs.YtnfgnafphfddhaaW.PrintWords Go.Proofs.YtnfgnafphfddhaaW.PrintMore Go.Proofs.Ytnfgnafphfddhaa.Bas Go.Proofs.Ytnfgnafphfddhaa.LnkA
set_option linter.unusedVariables false
set_option linter.unusedSimpArgs false

theorem blk_second (W : World) (o o' : Obj) : ((W.alloc o).alloc o').heap[W.heap.size + 1]? = some o' := by
  have h := blk_new (W.alloc o) o'
  simpa using h

set_option maxHeartbeats 8000000 in
theorem theirs_calls (kd ax x0 x1 x2 x3 : Int) (W : World) :
    Calls Try.prog 16 #[.agg #[.int .i64 kd, .int .u16 ax, .int .u8 x0, .int .u8 x1, .int .u8 x2, .int .u8 x3]] W fun e W' => e = .returned (.agg #[.int .i64 kd, .int .u16 ax, .int .u8 x0, .int .u8 x1, .int .u8 x2, .int .u8 x3]) ∧ Below W.heap.size W W' := by
  go_enter Try.func16, Try.ntmps16
  go_wp2_with (fail)
  refine bodyPost_ret (results_cell_row rfl _ _ (W.heap.size + 1) 30 #[.int .i64 kd, .int .u16 ax, .int .u8 x0, .int .u8 x1, .int .u8 x2, .int .u8 x3] (0, 0) _ rfl (blk_second W _ _) Try.underlying30 rfl (by kernel_rfl)) rfl ⟨rfl, ?_⟩
  exact below_alloc (below_alloc (Below.refl _ _) _) _

/-- A link's value. -/
abbrev lv (room sent lost : Int) (A : Option Addr) (n c : Nat) : Value := .agg #[.int .i64 room, .slice A n c, .int .i64 sent, .int .i64 lost]

set_option maxHeartbeats 8000000 in
theorem New_calls (room : Int) (h0 : 1 ≤ room) (h1 : room ≤ 1000) (W : World) :
    Calls Try.prog 19 #[.int .i64 room] W fun e W' => e = .returned (.tuple #[lv room 0 0 none 0 0, .int .i64 0]) ∧ Below W.heap.size W W' := by
  have h2 : ¬ room < 1 := by omega
  have h3 : ¬ 1000 < room := by omega
  go_enter Try.func19, Try.ntmps19
  go_wp2_with (fail)
  refine bodyPost_ret (results_ct rfl _ _ W.heap.size 37 #[.int .i64 room, .slice none 0 0, .int .i64 0, .int .i64 0] (0, 0) _ rfl (blk_new W _) Try.underlying37 rfl (by kernel_rfl)) rfl ⟨rfl, ?_⟩
  exact below_alloc (Below.refl _ _) _

set_option maxHeartbeats 8000000 in
theorem Counts_calls (room sent lost : Int) (A : Option Addr) (n c : Nat) (W : World) :
    Calls Try.prog 21 #[lv room sent lost A n c] W fun e W' => e = .returned (.tuple #[.int .i64 sent, .int .i64 lost]) ∧ Below W.heap.size W W' := by
  go_enter Try.func21, Try.ntmps21
  go_wp2_with (fail)
  go_quiet (fail)
  go_wp2_with (fail)
  go_ret2
  exact ⟨rfl, pw_below_drewN (below_alloc (Below.refl _ _) _) _⟩

set_option maxHeartbeats 8000000 in
theorem Len_calls (room sent lost : Int) (A : Option Addr) (n c : Nat) (W : World) :
    Calls Try.prog 23 #[lv room sent lost A n c] W fun e W' => e = .returned (.int .i64 n) ∧ Below W.heap.size W W' := by
  go_enter Try.func23, Try.ntmps23
  go_wp2_with (fail)
  go_ret
  exact ⟨rfl, below_alloc (Below.refl _ _) _⟩

/-! ### Rows of slices -/
/-- What the cells of a row of slices say. -/
def Elems (w : World) (L : List (List Int)) (vs : List Value) : Prop := vs.length = L.length ∧ ∀ j, j < L.length → ∃ A c, vs[j]? = some (.slice A (L.getD j []).length c) ∧ (L.getD j []).length ≤ c ∧ ReadsInt w .u8 A (L.getD j []).length (L.getD j [])
theorem Elems.below {w w1 : World} {L : List (List Int)} {vs : List Value} (h : Elems w L vs) (hb : Below w.heap.size w w1) : Elems w1 L vs :=
  ⟨h.1, fun j hj => by
    obtain ⟨A, c, h1, h2, h3⟩ := h.2 j hj
    exact ⟨A, c, h1, h2, h3.below hb⟩⟩
theorem Elems.append {w : World} {L M : List (List Int)} {vs ws : List Value} (h : Elems w L vs) (k : Elems w M ws) : Elems w (L ++ M) (vs ++ ws) := by
  refine ⟨by rw [List.length_append, List.length_append, h.1, k.1], fun j hj => ?_⟩
  rw [List.length_append] at hj
  by_cases hl : j < L.length
  · have e : (L ++ M).getD j [] = L.getD j [] := by simp [List.getD_eq_getElem?_getD, List.getElem?_append_left hl]
    rw [e, List.getElem?_append_left (by rw [h.1]; exact hl)]
    exact h.2 j hl
  · have e : (L ++ M).getD j [] = M.getD (j - L.length) [] := by simp [List.getD_eq_getElem?_getD, List.getElem?_append_right (show L.length ≤ j by omega)]
    rw [e, List.getElem?_append_right (by rw [h.1]; omega), h.1]
    exact k.2 _ (by omega)
theorem Elems.one {w : World} {b : List Int} {A : Option Addr} {c : Nat} (hc : b.length ≤ c) (h : ReadsInt w .u8 A b.length b) : Elems w [b] [.slice A b.length c] :=
  ⟨rfl, fun j hj => by
    obtain rfl : j = 0 := by simp at hj; omega
    exact ⟨A, c, rfl, hc, h⟩⟩
theorem Elems.ones {w : World} {L : List (List Int)} {vs : List Value} (h : Elems w L vs) : ∀ u ∈ vs, u.oneCell' = true := by
  intro u hu
  obtain ⟨j, hj, rfl⟩ := List.mem_iff_getElem.1 hu
  obtain ⟨A, c, h1, _⟩ := h.2 j (by rw [← h.1]; exact hj)
  rw [List.getElem?_eq_getElem hj] at h1
  injection h1 with h1
  rw [h1]; rfl
theorem reads_vals {w : World} {A : Option Addr} {n : Nat} {L : List (List Int)} (h : ReadsS w A n L) : ∃ vs, Elems w L vs ∧ ∀ ad, A = some ad → ∀ j u, vs[j]? = some u → w.cell? (ad.add j) = some u := by
  obtain ⟨h0, h1, h2⟩ := h
  subst h0
  have ex : ∀ j, j < L.length → ∃ v : Value, ∃ A' c', v = .slice A' (L.getD j []).length c' ∧ (L.getD j []).length ≤ c' ∧ ReadsInt w .u8 A' (L.getD j []).length (L.getD j []) ∧ ∀ ad, A = some ad → w.cell? (ad.add j) = some v := by
    intro j hj
    obtain ⟨ad, e, A', c', hc, hl, hr⟩ := h2 j hj
    refine ⟨_, A', c', rfl, hl, hr, fun ad' e' => ?_⟩
    rw [e] at e'
    injection e' with e'
    rw [← e']; exact hc
  obtain ⟨f, hf⟩ := Go.Deep.choose_lt ex
  refine ⟨(List.range L.length).map f, ⟨by simp, fun j hj => ?_⟩, fun ad e j u hu => ?_⟩
  · obtain ⟨A', c', e, h3, h4, _⟩ := hf j hj
    exact ⟨A', c', by rw [List.getElem?_map, List.getElem?_range hj]; simp [e], h3, h4⟩
  · have hj : j < L.length := by
      have := (List.getElem?_eq_some_iff.1 hu).1
      simpa using this
    rw [List.getElem?_map, List.getElem?_range hj] at hu
    simp at hu
    obtain ⟨A', c', _, _, _, h5⟩ := hf j hj
    rw [← hu]; exact h5 ad e
theorem own_readsS {w : World} {base n : Nat} {v : Value} {L : List (List Int)} {vs : List Value} (h : w.ownsRow base 22 1 v n vs) (he : Elems w L vs) : ∃ A c, v = .slice A L.length c ∧ L.length ≤ c ∧ ReadsS w A L.length L := by
  have hn : n = L.length := by have := h.1; rw [he.1] at this; omega
  subst hn
  rcases h.2 with ⟨rfl, h0⟩ | ⟨g, cap, cur, rfl, _, hh, h1, h2, h3, h4⟩
  · have hL : L = [] := List.eq_nil_of_length_eq_zero h0
    subst hL
    exact ⟨none, 0, rfl, Nat.le_refl _, rfl, by simp, fun j hj => absurd hj (Nat.not_lt_zero _)⟩
  · refine ⟨_, cap, rfl, h1, rfl, by simp only [maxLen] at h2; omega, fun j hj => ?_⟩
    obtain ⟨A', c', e1, e2, e3⟩ := he.2 j hj
    exact ⟨_, rfl, A', c', h.cells (g := g) rfl j _ e1, e2, e3⟩
theorem info22 : (Try.prog.info? 22).map (fun i => (i.zero, i.size, i.bytes)) = some (some (.slice none 0 0), 1, 24) := by kernel_rfl
end Go.Proofs.Ytnfgnafphfddhaa.LnkB
