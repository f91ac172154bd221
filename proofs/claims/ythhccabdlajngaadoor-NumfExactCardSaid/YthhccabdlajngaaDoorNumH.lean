import Derived.Test.YthhccabdlajngaaDoorNumG
namespace Go.Proofs.YthhccabdlajngaaDoor.NumH
open Go Go.Sim Go.Sim.E Go.RowKit Go.Proofs Go.Proofs.YthhccabdlajngaaDoor.Cod Go.Proofs.YthhccabdlajngaaDoor.Tab Go.Proofs.YthhccabdlajngaaDoor.Bse Go.Proofs.YthhccabdlajngaaDoor.NumA Go.Proofs.YthhccabdlajngaaDoor.NumB Go.Proofs.YthhccabdlajngaaDoor.NumC Go.Proofs.YthhccabdlajngaaDoor.NumD Go.Proofs.YthhccabdlajngaaDoor.NumE Go.Proofs.YthhccabdlajngaaDoor.NumF Go.Proofs.YthhccabdlajngaaDoor.NumG
set_option linter.unusedVariables false
set_option linter.unusedSimpArgs false
set_option maxRecDepth 100000
set_option maxHeartbeats 4000000
/-! ### the plain law -/
theorem ubG_bd (f v : Int) (hv : v = 0 ∨ v = -1) (hfv : (f = 0 ∧ v = 0) ∨ (f = 255 ∧ v = -1)) : ∀ (r : List Int) (n : Int), byt8 r → nb v n r.length → -9223372036854775808 ≤ (ubG f n r).1 ∧ (ubG f n r).1 ≤ 9223372036854775807
  | [], n, _, h => by
    unfold nb at h
    rw [if_neg (by decide)] at h
    have : (256 : Int) ^ (8 - ([] : List Int).length) = 18446744073709551616 := by decide
    rw [this] at h
    show -9223372036854775808 ≤ n ∧ n ≤ 9223372036854775807
    omega
  | x :: r, n, hb, h => by
    have hx := hb x (List.mem_cons_self ..)
    have hr : byt8 r := fun y hy => hb y (List.mem_cons_of_mem _ hy)
    rw [List.length_cons] at h
    rw [ubG]
    by_cases h8 : 8 < r.length + 1
    · rw [if_pos h8]
      by_cases hxf : x = f
      · rw [if_pos hxf]
        have hnv : n = v := by unfold nb at h; rw [if_pos (by omega)] at h; exact h
        have hv2 : 256 * n + x = v := by rcases hfv with ⟨g1, g2⟩ | ⟨g1, g2⟩ <;> omega
        exact ubG_bd f v hv hfv r _ hr (nb_fit hv h (by omega) hx (fun _ => hv2) (fun _ => hv2)).1
      · rw [if_neg hxf]; exact ⟨by decide, by decide⟩
    · rw [if_neg h8]
      by_cases he : r.length + 1 = 8
      · rw [if_pos he]
        by_cases hs : (x < 128 ↔ f < 128)
        · rw [if_pos hs]
          have hr7 : r.length = 7 := by omega
          rw [hr7] at h
          have := (nb_top hv h hx (by rcases hfv with ⟨g1, g2⟩ | ⟨g1, g2⟩ <;> omega)).1
          rw [← hr7] at this
          exact ubG_bd f v hv hfv r _ hr this
        · rw [if_neg hs]; exact ⟨by decide, by decide⟩
      · rw [if_neg he]
        exact ubG_bd f v hv hfv r _ hr (nb_fit hv h (by omega) hx (fun _ => by omega) (fun _ => by omega)).1
theorem numG_bd : ∀ (d : List Int) (n : Int), (∀ x ∈ d, 48 ≤ x ∧ x ≤ 55) → 0 ≤ n → 0 ≤ numG n d ∧ numG n d < (n + 1) * 8 ^ d.length
  | [], n, _, h => by simp [numG]; omega
  | c :: d, n, hd, h => by
    have hc := hd c (List.mem_cons_self ..)
    have := numG_bd d (8 * n + (c - 48)) (fun x hx => hd x (List.mem_cons_of_mem _ hx)) (by omega)
    refine ⟨this.1, Int.lt_of_lt_of_le this.2 ?_⟩
    rw [List.length_cons, Int.pow_succ]
    have h8 : (0 : Int) ≤ 8 ^ d.length := Int.pow_nonneg (by decide)
    calc (8 * n + (c - 48) + 1) * 8 ^ d.length ≤ (8 * (n + 1)) * 8 ^ d.length := Int.mul_le_mul_of_nonneg_right (by omega) h8
      _ = (n + 1) * (8 ^ d.length * 8) := by rw [Int.mul_comm 8 (n + 1), Int.mul_assoc, Int.mul_comm 8]
theorem getF_bd (b : List Int) (hb : byt8 b) : -9223372036854775808 ≤ (getF b).1 ∧ (getF b).1 ≤ 9223372036854775807 := by
  have z : ∀ e : Int, -9223372036854775808 ≤ ((0 : Int), e).1 ∧ ((0 : Int), e).1 ≤ 9223372036854775807 := fun e => ⟨(by decide : (-9223372036854775808 : Int) ≤ 0), (by decide : (0 : Int) ≤ 9223372036854775807)⟩
  unfold getF
  by_cases h1 : isW b.length = true
  · rw [if_pos h1]
    have hW := isW_iff h1
    have hdl : (b.drop 1).length = b.length - 1 := List.length_drop
    by_cases h2 : b.getD 0 0 = 128
    · rw [if_pos h2]
      show -9223372036854775808 ≤ (ubG 0 0 (b.drop 1)).1 ∧ _
      exact ubG_bd 0 0 (.inl rfl) (.inl ⟨rfl, rfl⟩) _ _ (byt8_drop hb 1) (nb0 (.inl rfl) _)
    · rw [if_neg h2]
      by_cases h3 : b.getD 0 0 = 255
      · rw [if_pos h3]
        show -9223372036854775808 ≤ (ubG 255 (-1) (b.drop 1)).1 ∧ _
        exact ubG_bd 255 (-1) (.inr rfl) (.inr ⟨rfl, rfl⟩) _ _ (byt8_drop hb 1) (nb0 (.inr rfl) _)
      · rw [if_neg h3]
        split
        · exact z 3
        · split
          · have hle := digF_le (b.dropWhile (· == 32))
            have hl2 := drop_le b (· == 32)
            have := numG_bd (digF (b.dropWhile (· == 32))) 0 (digF_dig _) (by decide)
            have hp := p8 (digF (b.dropWhile (· == 32))).length (by omega)
            show -9223372036854775808 ≤ numF (digF (b.dropWhile (· == 32))) ∧ numF (digF (b.dropWhile (· == 32))) ≤ 9223372036854775807
            rw [numF_is]
            omega
          · exact z 3
  · rw [if_neg h1]; exact z 1
end Go.Proofs.YthhccabdlajngaaDoor.NumH
