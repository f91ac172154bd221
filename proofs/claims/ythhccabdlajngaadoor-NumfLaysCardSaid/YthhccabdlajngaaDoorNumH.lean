import Derived.Test.YthhccabdlajngaaDoorNumG
namespace Go.Proofs.YthhccabdlajngaaDoor.NumH
open Go Go.Sim Go.Sim.E Go.RowKit Go.Proofs Go.Proofs.YthhccabdlajngaaDoor.Cod Go.Proofs.YthhccabdlajngaaDoor.Tab Go.Proofs.YthhccabdlajngaaDoor.Bse Go.Proofs.YthhccabdlajngaaDoor.NumA Go.Proofs.YthhccabdlajngaaDoor.NumB Go.Proofs.YthhccabdlajngaaDoor.NumC Go.Proofs.YthhccabdlajngaaDoor.NumD Go.Proofs.YthhccabdlajngaaDoor.NumE Go.Proofs.YthhccabdlajngaaDoor.NumF Go.Proofs.YthhccabdlajngaaDoor.NumG
set_option linter.unusedVariables false
set_option linter.unusedSimpArgs false
set_option maxRecDepth 100000
set_option maxHeartbeats 4000000
/-! ### the plain law -/
theorem beN_cons : ∀ (k : Nat) (n : Int), beN (k + 1) n = (n / 256 ^ k % 256) :: beN k n
  | 0, n => by simp [beN]
  | k + 1, n => by
    have ih := beN_cons k (n / 256)
    rw [beN, ih, List.cons_append]
    have : n / 256 / 256 ^ k = n / 256 ^ (k + 1) := by
      rw [Int.pow_succ, Int.mul_comm, Int.ediv_ediv_of_nonneg (by decide)]
    rw [this]; rfl
theorem step256 (n : Int) (k : Nat) : 256 * (n / 256 ^ (k + 1)) + n / 256 ^ k % 256 = n / 256 ^ k := by
  have : n / 256 ^ (k + 1) = n / 256 ^ k / 256 := by
    rw [Int.pow_succ, Int.ediv_ediv_of_nonneg (Int.pow_nonneg (by decide))]
  rw [this]; omega
theorem ubG_be (n : Int) (hn : -9223372036854775808 ≤ n ∧ n ≤ 9223372036854775807) (f : Int) (hf : f = if n < 0 then 255 else 0) : ∀ k : Nat, k ≤ 11 → ubG f (n / 256 ^ k) (beN k n) = (n, 0)
  | 0, _ => by simp [beN, ubG]
  | k + 1, hk => by
    have ih := ubG_be n hn f hf k (by omega)
    have hl := beN_length k n
    rw [beN_cons, ubG, hl, step256]
    by_cases h8 : 8 < k + 1
    · rw [if_pos h8]
      have hx : n / 256 ^ k % 256 = f := by
        rw [big_shift n hn k (by omega), hf]; unfold sgn
        split <;> rfl
      rw [if_pos hx]; exact ih
    · rw [if_neg h8]
      by_cases he : k + 1 = 8
      · rw [if_pos he]
        obtain rfl : k = 7 := by omega
        have hs : (n / 256 ^ 7 % 256 < 128 ↔ f < 128) := by
          have : (256 : Int) ^ 7 = 72057594037927936 := by decide
          rw [this, hf]; split <;> omega
        rw [if_pos hs]; exact ih
      · rw [if_neg he]; exact ih
theorem numG_app (n : Int) (a : List Int) (x : Int) : numG n (a ++ [x]) = 8 * numG n a + (x - 48) := by
  induction a generalizing n with
  | nil => rfl
  | cons c a ih => exact ih _
theorem numG_oct : ∀ (w : Nat) (n : Int), numG 0 (octN w n) = n % 8 ^ w
  | 0, n => by simp [octN, numG]
  | w + 1, n => by
    rw [octN, numG_app, numG_oct w (n / 8), Int.pow_succ]
    have h8 : (0 : Int) < 8 ^ w := Int.pow_pos (by decide)
    obtain ⟨P, hP⟩ : ∃ P : Int, P = 8 ^ w := ⟨_, rfl⟩
    rw [← hP] at h8 ⊢
    have e1 : n / 8 / P = n / (P * 8) := by rw [Int.mul_comm, Int.ediv_ediv_of_nonneg (by decide)]
    have e2 := Int.emod_def n (P * 8)
    have e3 := Int.emod_def (n / 8) P
    rw [e2, e3, e1]
    have := Int.mul_assoc P 8 (n / (P * 8))
    have e4 := Int.mul_comm 8 (n / (P * 8))
    rw [this, e4, ← Int.mul_assoc]
    omega
theorem tw_app (d r : List Int) (hd : ∀ x ∈ d, octd x = true) (hr : digF r = []) : digF (d ++ r) = d := by
  unfold digF at *
  induction d with
  | nil => exact hr
  | cons c d ih =>
    rw [List.cons_append, List.takeWhile_cons_of_pos (hd c (List.mem_cons_self ..)), ih (fun x hx => hd x (List.mem_cons_of_mem _ hx))]
theorem getF_oct (n : Int) (w : Nat) (hw : w = 7 ∨ w = 11) (h0 : 0 ≤ n) (h1 : n ≤ mostN w) : getF (octN w n ++ [0]) = (n, 0) := by
  have hl := octN_length w n
  have hdg := octN_dig w n
  have hd : ∀ x ∈ octN w n, octd x = true := by
    intro x hx; have := hdg x hx; unfold octd; rw [decide_eq_true this.1, decide_eq_true this.2]; rfl
  have hnum := numG_oct w n
  obtain ⟨c, d, hc⟩ : ∃ c d, octN w n = c :: d := by
    cases h : octN w n with
    | nil => rw [h] at hl; exact absurd hl.symm (by rcases hw with rfl | rfl <;> decide)
    | cons c d => exact ⟨c, d, rfl⟩
  have hcd := hdg c (by rw [hc]; exact List.mem_cons_self ..)
  have hdig : digF (octN w n ++ [0]) = octN w n := tw_app _ _ hd rfl
  have h32 : (octN w n ++ [0]).dropWhile (· == 32) = octN w n ++ [0] := by
    rw [hc, List.cons_append]
    refine List.dropWhile_cons_of_neg ?_
    rw [beq_iff_eq]; omega
  have hx : (octN w n ++ [0]).getD 0 0 = c := by rw [hc]; rfl
  have hW : isW (octN w n ++ [0]).length = true := by
    rw [List.length_append, hl]; rcases hw with rfl | rfl <;> rfl
  have hm : n < 8 ^ w := by
    rcases hw with rfl | rfl
    · have : mostN 7 = 8 ^ 7 - 1 := by decide
      omega
    · have : mostN 11 = 8 ^ 11 - 1 := by decide
      omega
  have hdr : (octN w n ++ [0]).drop w = [0] := List.drop_left' hl
  unfold getF
  rw [if_pos hW, hx, if_neg (by omega), if_neg (by omega), h32, hdig, hl, if_neg (by omega), hdr, numF_is, hnum, Int.emod_eq_of_lt h0 hm]
  rfl
theorem put_back (n w : Int) (hn : -9223372036854775808 ≤ n ∧ n ≤ 9223372036854775807) (h : (putF n w).2 = 0) : ((putF n w).1.length : Int) = w ∧ getF (putF n w).1 = (n, 0) := by
  unfold putF at *
  by_cases hW : isW w = true
  · rw [if_pos hW] at h ⊢
    have hw := isW_iff hW
    by_cases hp : plainF n w = true
    · rw [if_pos hp]
      obtain ⟨_, h0, h1⟩ := plain_most hp
      have ht : (w - 1).toNat = 7 ∨ (w - 1).toNat = 11 := by omega
      refine ⟨?_, getF_oct n _ ht h0 h1⟩
      show ((octN (w - 1).toNat n ++ [0]).length : Int) = w
      rw [List.length_append, octN_length]
      simp only [List.length_singleton]
      omega
    · rw [if_neg hp] at h ⊢
      unfold baseF at *
      have key : ∀ (k : Nat), k = 7 ∨ k = 11 → n / 256 ^ k = sgn n → (((if n < 0 then 255 else 128) :: beN k n).length : Int) = k + 1 ∧ getF ((if n < 0 then (255 : Int) else 128) :: beN k n) = (n, 0) := by
        intro k hk hs
        have hl := beN_length k n
        refine ⟨by rw [List.length_cons, hl]; rfl, ?_⟩
        have hb := ubG_be n hn _ rfl k (by omega)
        rw [hs] at hb
        unfold sgn at hb
        have hWk : ∀ x : Int, isW ((x :: beN k n).length : Int) = true := by
          intro x; rw [List.length_cons, hl]; rcases hk with rfl | rfl <;> rfl
        unfold getF
        rw [if_pos (hWk _)]
        by_cases hneg : n < 0
        · rw [if_pos hneg] at *
          rw [if_pos hneg] at hb
          show (if (255 : Int) = 128 then _ else if (255 : Int) = 255 then ubF 255 (beN k n) else _) = _
          rw [if_neg (by decide), if_pos rfl]
          exact hb
        · rw [if_neg hneg] at *
          rw [if_neg hneg] at hb
          show (if (128 : Int) = 128 then ubF 128 (beN k n) else _) = _
          rw [if_pos rfl]
          exact hb
      by_cases h8 : w = 8
      · rw [if_pos h8] at h ⊢
        by_cases hs : n / 72057594037927936 = sgn n
        · rw [if_pos hs]
          have := key 7 (.inl rfl) hs
          exact ⟨by rw [this.1, h8]; rfl, this.2⟩
        · rw [if_neg hs] at h
          exact absurd h (by decide)
      · rw [if_neg h8]
        have := key 11 (.inr rfl) (big_shift n hn 11 (by decide))
        refine ⟨?_, this.2⟩
        rw [this.1]; omega
  · rw [if_neg hW] at h
    exact absurd h (by decide)
theorem put_err (n w : Int) (h : (putF n w).2 ≠ 0) : (putF n w).1 = [] ∧ ((w = 8 ∧ (putF n w).2 = 10) ∨ ((putF n w).2 = 1)) := by
  unfold putF at *
  by_cases hW : isW w = true
  · rw [if_pos hW] at h ⊢
    by_cases hp : plainF n w = true
    · rw [if_pos hp] at h; exact absurd rfl h
    · rw [if_neg hp] at h ⊢
      unfold baseF at *
      by_cases h8 : w = 8
      · rw [if_pos h8] at h ⊢
        by_cases hs : n / 72057594037927936 = sgn n
        · rw [if_pos hs] at h; exact absurd rfl h
        · rw [if_neg hs]; exact ⟨rfl, .inl ⟨h8, rfl⟩⟩
      · rw [if_neg h8] at h; exact absurd rfl h
  · rw [if_neg hW]; exact ⟨rfl, .inr rfl⟩
theorem ubG_bd (f v : Int) (hv : v = 0 ∨ v = -1) (hfv : (f = 0 ∧ v = 0) ∨ (f = 255 ∧ v = -1)) : ∀ (r : List Int) (n : Int), byt8 r → nb v n r.length → -9223372036854775808 ≤ (ubG f n r).1 ∧ (ubG f n r).1 ≤ 9223372036854775807
  | [], n, _, h => by
    unfold nb at h
    rw [if_neg (by decide)] at h
    have : (256 : Int) ^ (8 - ([] : List Int).length) = 18446744073709551616 := by decide
    rw [this] at h
    show -9223372036854775808 ≤ n ∧ n ≤ 9223372036854775807
    omega
  | x :: r, n, hb, h => by
    have hx := hb x (List.mem_cons_self ..)
    have hr : byt8 r := fun y hy => hb y (List.mem_cons_of_mem _ hy)
    rw [List.length_cons] at h
    rw [ubG]
    by_cases h8 : 8 < r.length + 1
    · rw [if_pos h8]
      by_cases hxf : x = f
      · rw [if_pos hxf]
        have hnv : n = v := by unfold nb at h; rw [if_pos (by omega)] at h; exact h
        have hv2 : 256 * n + x = v := by rcases hfv with ⟨g1, g2⟩ | ⟨g1, g2⟩ <;> omega
        exact ubG_bd f v hv hfv r _ hr (nb_fit hv h (by omega) hx (fun _ => hv2) (fun _ => hv2)).1
      · rw [if_neg hxf]; exact ⟨by decide, by decide⟩
    · rw [if_neg h8]
      by_cases he : r.length + 1 = 8
      · rw [if_pos he]
        by_cases hs : (x < 128 ↔ f < 128)
        · rw [if_pos hs]
          have hr7 : r.length = 7 := by omega
          rw [hr7] at h
          have := (nb_top hv h hx (by rcases hfv with ⟨g1, g2⟩ | ⟨g1, g2⟩ <;> omega)).1
          rw [← hr7] at this
          exact ubG_bd f v hv hfv r _ hr this
        · rw [if_neg hs]; exact ⟨by decide, by decide⟩
      · rw [if_neg he]
        exact ubG_bd f v hv hfv r _ hr (nb_fit hv h (by omega) hx (fun _ => by omega) (fun _ => by omega)).1
theorem numG_bd : ∀ (d : List Int) (n : Int), (∀ x ∈ d, 48 ≤ x ∧ x ≤ 55) → 0 ≤ n → 0 ≤ numG n d ∧ numG n d < (n + 1) * 8 ^ d.length
  | [], n, _, h => by simp [numG]; omega
  | c :: d, n, hd, h => by
    have hc := hd c (List.mem_cons_self ..)
    have := numG_bd d (8 * n + (c - 48)) (fun x hx => hd x (List.mem_cons_of_mem _ hx)) (by omega)
    refine ⟨this.1, Int.lt_of_lt_of_le this.2 ?_⟩
    rw [List.length_cons, Int.pow_succ]
    have h8 : (0 : Int) ≤ 8 ^ d.length := Int.pow_nonneg (by decide)
    calc (8 * n + (c - 48) + 1) * 8 ^ d.length ≤ (8 * (n + 1)) * 8 ^ d.length := Int.mul_le_mul_of_nonneg_right (by omega) h8
      _ = (n + 1) * (8 ^ d.length * 8) := by rw [Int.mul_comm 8 (n + 1), Int.mul_assoc, Int.mul_comm 8]
theorem getF_bd (b : List Int) (hb : byt8 b) : -9223372036854775808 ≤ (getF b).1 ∧ (getF b).1 ≤ 9223372036854775807 := by
  have z : ∀ e : Int, -9223372036854775808 ≤ ((0 : Int), e).1 ∧ ((0 : Int), e).1 ≤ 9223372036854775807 := fun e => ⟨(by decide : (-9223372036854775808 : Int) ≤ 0), (by decide : (0 : Int) ≤ 9223372036854775807)⟩
  unfold getF
  by_cases h1 : isW b.length = true
  · rw [if_pos h1]
    have hW := isW_iff h1
    have hdl : (b.drop 1).length = b.length - 1 := List.length_drop
    by_cases h2 : b.getD 0 0 = 128
    · rw [if_pos h2]
      show -9223372036854775808 ≤ (ubG 0 0 (b.drop 1)).1 ∧ _
      exact ubG_bd 0 0 (.inl rfl) (.inl ⟨rfl, rfl⟩) _ _ (byt8_drop hb 1) (nb0 (.inl rfl) _)
    · rw [if_neg h2]
      by_cases h3 : b.getD 0 0 = 255
      · rw [if_pos h3]
        show -9223372036854775808 ≤ (ubG 255 (-1) (b.drop 1)).1 ∧ _
        exact ubG_bd 255 (-1) (.inr rfl) (.inr ⟨rfl, rfl⟩) _ _ (byt8_drop hb 1) (nb0 (.inr rfl) _)
      · rw [if_neg h3]
        split
        · exact z 3
        · split
          · have hle := digF_le (b.dropWhile (· == 32))
            have hl2 := drop_le b (· == 32)
            have := numG_bd (digF (b.dropWhile (· == 32))) 0 (digF_dig _) (by decide)
            have hp := p8 (digF (b.dropWhile (· == 32))).length (by omega)
            show -9223372036854775808 ≤ numF (digF (b.dropWhile (· == 32))) ∧ numF (digF (b.dropWhile (· == 32))) ≤ 9223372036854775807
            rw [numF_is]
            omega
          · exact z 3
  · rw [if_neg h1]; exact z 1
end Go.Proofs.YthhccabdlajngaaDoor.NumH
