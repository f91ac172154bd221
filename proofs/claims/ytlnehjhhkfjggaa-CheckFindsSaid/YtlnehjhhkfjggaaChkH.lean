import Derived.Test.YtlnehjhhkfjggaaChkF
namespace Go.Proofs.Ytlnehjhhkfjggaa.ChkH
open Go.RowKit Go.Proofs.Ytlnehjhhkfjggaa.ChkA Go.Proofs.Ytlnehjhhkfjggaa.ChkB Go.Proofs.Ytlnehjhhkfjggaa.ChkC Go.Proofs.Ytlnehjhhkfjggaa.ChkD Go.Proofs.Ytlnehjhhkfjggaa.ChkE
set_option linter.unusedVariables false
set_option linter.unusedSimpArgs false

theorem half_xor (a b : Nat) : (a ^^^ b) / 2 = a / 2 ^^^ b / 2 := by
  have := Nat.shiftRight_xor_distrib (a := a) (b := b) (i := 1)
  simpa only [Nat.shiftRight_eq_div_pow, Nat.pow_one] using this
theorem st_xor (a b : Nat) : st (a ^^^ b) = st a ^^^ st b := by
  have hp := Nat.xor_mod_two_eq_one (a := a) (b := b)
  have h : ∀ x y P : Nat, (x ^^^ P) ^^^ (y ^^^ P) = x ^^^ y := by
    intro x y P
    apply Nat.eq_of_testBit_eq
    intro i
    simp only [Nat.testBit_xor]
    cases x.testBit i <;> cases y.testBit i <;> cases P.testBit i <;> rfl
  have h2 : ∀ x y P : Nat, (x ^^^ y) ^^^ P = (x ^^^ P) ^^^ y := by
    intro x y P
    rw [Nat.xor_assoc, Nat.xor_comm y P, ← Nat.xor_assoc]
  unfold st
  rw [half_xor]
  by_cases ha : a % 2 = 1 <;> by_cases hb : b % 2 = 1
  · rw [if_pos ha, if_pos hb, if_neg (by rw [hp]; simp [ha, hb]), h]
  · rw [if_pos ha, if_neg hb, if_pos (by rw [hp]; simp [ha, hb]), h2]
  · rw [if_neg ha, if_pos hb, if_pos (by rw [hp]; simp [ha, hb]), Nat.xor_assoc]
  · rw [if_neg ha, if_neg hb, if_neg (by rw [hp]; simp [ha, hb])]
theorem stN_xor : ∀ n (a b : Nat), stN n (a ^^^ b) = stN n a ^^^ stN n b
  | 0, _, _ => rfl
  | n + 1, a, b => by
    show stN n (st (a ^^^ b)) = stN n (st a) ^^^ stN n (st b)
    rw [st_xor, stN_xor n]
theorem stN_zero : ∀ n, stN n 0 = 0
  | 0 => rfl
  | n + 1 => stN_zero n
theorem stN_add : ∀ n m x, stN n (stN m x) = stN (m + n) x
  | n, 0, x => by rw [Nat.zero_add]; rfl
  | n, m + 1, x => by rw [show m + 1 + n = (m + n) + 1 by omega]; exact stN_add n m (st x)
theorem st_ne {z : Nat} (hz : z < 4294967296) (h : z ≠ 0) : st z ≠ 0 := by
  intro h0
  unfold st at h0
  split at h0
  · have : z / 2 = 3988292384 := by
      have h1 : (z / 2 ^^^ 3988292384) ^^^ 3988292384 = 0 ^^^ 3988292384 := by rw [h0]
      rw [Nat.xor_assoc, Nat.xor_self, Nat.xor_zero, Nat.zero_xor] at h1
      exact h1
    omega
  · omega
theorem stN_ne : ∀ n {z : Nat}, z < 4294967296 → z ≠ 0 → stN n z ≠ 0
  | 0, _, _, h => h
  | n + 1, _, hz, h => stN_ne n (st_lt hz) (st_ne hz h)
theorem xor_zero_iff {a b : Nat} : a ^^^ b = 0 ↔ a = b := by
  constructor
  · intro h
    have h1 : (a ^^^ b) ^^^ b = 0 ^^^ b := by rw [h]
    rw [Nat.xor_assoc, Nat.xor_self, Nat.xor_zero, Nat.zero_xor] at h1
    exact h1
  · rintro rfl; exact Nat.xor_self _
theorem stN_inj (n : Nat) {a b : Nat} (ha : a < 4294967296) (hb : b < 4294967296) : stN n a = stN n b ↔ a = b := by
  constructor
  · intro h
    apply xor_zero_iff.1
    apply Decidable.byContradiction
    intro hne
    exact stN_ne n (Nat.xor_lt_two_pow (n := 32) ha hb) hne (by rw [stN_xor, h, Nat.xor_self])
  · rintro rfl; rfl
theorem st_two (x : Nat) : st (2 * x) = x := by
  unfold st
  rw [if_neg (by omega)]
  omega
theorem st_eight (b : Nat) : stN 8 (256 * b) = b := by
  have h : 256 * b = 2 * (2 * (2 * (2 * (2 * (2 * (2 * (2 * b))))))) := by omega
  rw [h]
  show st (st (st (st (st (st (st (st _))))))) = b
  simp only [st_two]
/-- Four bytes as one number. -/
def val (b0 b1 b2 b3 : Nat) : Nat := b0 ^^^ (256 * b1 ^^^ (65536 * b2 ^^^ 16777216 * b3))
theorem feed4 (r b0 b1 b2 b3 : Nat) : feed r [(b0 : Int), b1, b2, b3] = stN 32 (r ^^^ val b0 b1 b2 b3) := by
  have h0 : feed r [(b0 : Int), b1, b2, b3] = stN 8 (stN 8 (stN 8 (stN 8 (r ^^^ b0) ^^^ b1) ^^^ b2) ^^^ b3) := by
    simp [feed, crc]
  have h1 : r ^^^ val b0 b1 b2 b3 = (r ^^^ b0) ^^^ 256 * (b1 ^^^ 256 * (b2 ^^^ 256 * b3)) := by
    unfold val
    have hd : ∀ a b : Nat, 256 * (a ^^^ b) = 256 * a ^^^ 256 * b := by
      intro a b
      have := Nat.shiftLeft_xor_distrib (a := a) (b := b) (i := 8)
      simp only [Nat.shiftLeft_eq] at this
      simpa [Nat.mul_comm] using this
    rw [hd, hd, hd, ← Nat.mul_assoc, ← Nat.mul_assoc, ← Nat.mul_assoc, Nat.xor_assoc]
  rw [h0, h1]
  have h32 : ∀ x, stN 32 x = stN 8 (stN 8 (stN 8 (stN 8 x))) := fun x => by rw [stN_add, stN_add, stN_add]
  rw [h32]
  rw [stN_xor 8 (r ^^^ b0), st_eight, ← Nat.xor_assoc, stN_xor 8 (stN 8 (r ^^^ b0) ^^^ b1), st_eight, ← Nat.xor_assoc, stN_xor 8 _ (256 * b3), st_eight]
theorem add_xor (i a b : Nat) (hb : b < 2 ^ i) : 2 ^ i * a + b = b ^^^ 2 ^ i * a := by
  apply Nat.eq_of_testBit_eq
  intro j
  rw [Nat.testBit_two_pow_mul_add _ hb, Nat.testBit_xor, Nat.testBit_two_pow_mul]
  by_cases h : j < i
  · simp [h, show ¬ j ≥ i by omega]
  · have hbj : b.testBit j = false := Nat.testBit_lt_two_pow (Nat.lt_of_lt_of_le hb (Nat.pow_le_pow_right (by decide) (by omega)))
    simp [h, show j ≥ i by omega, hbj]
theorem val_sum {b0 b1 b2 b3 : Nat} (h0 : b0 < 256) (h1 : b1 < 256) (h2 : b2 < 256) (h3 : b3 < 256) : b0 + 256 * b1 + 65536 * b2 + 16777216 * b3 = val b0 b1 b2 b3 := by
  unfold val
  have e3 := add_xor 16 b3 b2 (by omega)
  have x1 : b0 + 256 * b1 + 65536 * b2 + 16777216 * b3 = 2 ^ 8 * (b1 + 256 * b2 + 65536 * b3) + b0 := by omega
  have x2 : b1 + 256 * b2 + 65536 * b3 = 2 ^ 8 * (b2 + 256 * b3) + b1 := by omega
  have x3 : b2 + 256 * b3 = 2 ^ 8 * b3 + b2 := by omega
  have hd : ∀ a b : Nat, 256 * (a ^^^ b) = 256 * a ^^^ 256 * b := by
    intro a b
    have := Nat.shiftLeft_xor_distrib (a := a) (b := b) (i := 8)
    simp only [Nat.shiftLeft_eq] at this
    simpa [Nat.mul_comm] using this
  rw [x1, add_xor 8 _ b0 h0, x2, add_xor 8 _ b1 h1, x3, add_xor 8 _ b2 h2]
  simp only [show (2 : Nat) ^ 8 = 256 from rfl, hd, ← Nat.mul_assoc]

theorem val_lt {b0 b1 b2 b3 : Nat} (h0 : b0 < 256) (h1 : b1 < 256) (h2 : b2 < 256) (h3 : b3 < 256) : val b0 b1 b2 b3 < 4294967296 := by rw [← val_sum h0 h1 h2 h3]; omega
/-- OPENED WELL: what the whole feeds to. -/
theorem opened_iff {l : List Int} (hl : ¬ l.length < 4) (hB : Byt l) : (le (sum (l.take (l.length - 4))) = l.drop (l.length - 4)) ↔ feed 4294967295 l = stN 32 4294967295 := by
  obtain ⟨b0, b1, b2, b3, ht, h0, h1, h2, h3⟩ := four (t := l.drop (l.length - 4)) (by rw [List.length_drop]; omega) (Byt_drop hB _)
  have hr := feed_lt 4294967295 (by decide) (l.take (l.length - 4)) (hB.take _)
  have hf : feed 4294967295 l = stN 32 (feed 4294967295 (l.take (l.length - 4)) ^^^ val b0 b1 b2 b3) := by
    rw [← feed4, ← ht, ← feed_append, List.take_append_drop]
  have hv := val_lt h0 h1 h2 h3
  rw [hf, stN_inj 32 (Nat.xor_lt_two_pow (n := 32) hr hv) (by decide), ht, le_eq _ _ _ _ _ (sum_lt _) h0 h1 h2 h3, val_sum h0 h1 h2 h3]
  unfold sum
  generalize feed 4294967295 (l.take (l.length - 4)) = r at *
  generalize val b0 b1 b2 b3 = v at *
  rw [← xor_all r hr]
  constructor
  · intro h
    rw [← h, Nat.xor_comm 4294967295 r, ← Nat.xor_assoc, Nat.xor_self, Nat.zero_xor]
  · intro h
    rw [← h, Nat.xor_assoc, Nat.xor_comm v r, ← Nat.xor_assoc, Nat.xor_self, Nat.zero_xor]
theorem opened_code {l : List Int} (hl : ¬ l.length < 4) (hB : Byt l) : (opened l).2 = if feed 4294967295 l = stN 32 4294967295 then 0 else 9 := by
  by_cases h : le (sum (l.take (l.length - 4))) = l.drop (l.length - 4)
  · rw [opened_ok hl h, if_pos ((opened_iff hl hB).1 h)]
  · rw [opened_bad hl h, if_neg (fun h2 => h ((opened_iff hl hB).2 h2))]

/-- One list turned by another. -/
def turn : List Int → List Int → List Int
  | a :: s, d :: t => ((a.toNat ^^^ d.toNat : Nat) : Int) :: turn s t
  | _, _ => []
theorem feed_turn : ∀ (s d : List Int) (r q : Nat), s.length = d.length → feed (r ^^^ q) (turn s d) = feed r s ^^^ feed q d
  | [], [], _, _, _ => rfl
  | a :: s, e :: d, r, q, h => by
    have ih := feed_turn s d (crc r a.toNat) (crc q e.toNat) (by simpa using h)
    show feed (crc (r ^^^ q) (Int.toNat _)) (turn s d) = feed (crc r a.toNat) s ^^^ feed (crc q e.toNat) d
    rw [← ih, Int.toNat_natCast]
    congr 1
    unfold crc
    rw [← stN_xor]
    congr 1
    rw [Nat.xor_assoc, ← Nat.xor_assoc q, Nat.xor_comm q, Nat.xor_assoc, ← Nat.xor_assoc r]
theorem feed_zeros : ∀ (n r : Nat), feed r (List.replicate n 0) = stN (8 * n) r
  | 0, _ => rfl
  | n + 1, r => by
    have ih := feed_zeros n (crc r 0)
    show feed (crc r 0) (List.replicate n 0) = _
    rw [ih, show 8 * (n + 1) = 8 + 8 * n by omega, ← stN_add]
    unfold crc
    rw [Nat.xor_zero]
theorem turn_getD : ∀ (s d : List Int) (i : Nat), s.length = d.length → (turn s d).getD i 0 = (((s.getD i 0).toNat ^^^ (d.getD i 0).toNat : Nat) : Int)
  | [], [], i, _ => by simp [turn]
  | a :: s, e :: d, 0, h => by simp [turn]
  | a :: s, e :: d, i + 1, h => by
    have := turn_getD s d i (by simpa using h)
    simpa [turn] using this
theorem turn_length : ∀ (s d : List Int), s.length = d.length → (turn s d).length = s.length
  | [], [], _ => rfl
  | a :: s, e :: d, h => by simp [turn, turn_length s d (by simpa using h)]

/-- A sealed run, four of its bytes turned. -/
def T (s : List Int) (K : Nat) (y : Nat → Nat) : Nat → List Int
  | 0 => s
  | k + 1 => (T s K y k).set (K + k) (((((T s K y k).getD (K + k) 0).toNat ^^^ y k : Nat)) : Int)
def fl (y : Nat → Nat) : Nat → Bool
  | 0 => false
  | k + 1 => fl y k || (y k != 0)
theorem T_length (s : List Int) (K : Nat) (y : Nat → Nat) : ∀ k, (T s K y k).length = s.length
  | 0 => rfl
  | k + 1 => by rw [T, List.length_set, T_length s K y k]
theorem T_getD (s : List Int) (hB : Byt s) (K : Nat) (y : Nat → Nat) : ∀ k, K + k ≤ s.length → ∀ i, (T s K y k).getD i 0 = if K ≤ i ∧ i < K + k then (((s.getD i 0).toNat ^^^ y (i - K) : Nat) : Int) else s.getD i 0
  | 0, _, i => by rw [if_neg (by omega)]; rfl
  | k + 1, hk, i => by
    have ih := T_getD s hB K y k (by omega)
    rw [T, List.getD_eq_getElem?_getD, List.getElem?_set]
    by_cases h : K + k = i
    · subst h
      have h2 := ih (K + k)
      rw [if_neg (by omega)] at h2
      rw [if_pos rfl, if_pos (by rw [T_length]; omega), if_pos (by omega), h2, show K + k - K = k by omega]
      rfl
    · have h2 := ih i
      rw [if_neg h, ← List.getD_eq_getElem?_getD, h2]
      by_cases h3 : K ≤ i ∧ i < K + k
      · rw [if_pos h3, if_pos (by omega)]
      · rw [if_neg h3, if_neg (by omega)]
theorem T_byt (s : List Int) (hB : Byt s) (K : Nat) (y : Nat → Nat) (hy : ∀ i, y i < 256) (k : Nat) (hk : K + k ≤ s.length) : Byt (T s K y k) := by
  intro i
  rw [T_getD s hB K y k hk i]
  have := hB i
  split
  · have := Nat.xor_lt_two_pow (n := 8) (x := (s.getD i 0).toNat) (y := y (i - K)) (by omega) (hy _)
    omega
  · exact this
theorem fl_four (y : Nat → Nat) : fl y 4 = true ↔ ¬ (y 0 = 0 ∧ y 1 = 0 ∧ y 2 = 0 ∧ y 3 = 0) := by
  simp [fl]
  omega

theorem finds (s : List Int) (hl : ¬ s.length < 4) (hB : Byt s) (hs : feed 4294967295 s = stN 32 4294967295) (K : Nat) (hK : K + 4 ≤ s.length) (y : Nat → Nat) (hy : ∀ i, y i < 256) :
    (opened (T s K y 4)).2 = if fl y 4 = true then 9 else 0 := by
  rw [opened_code (by rw [T_length]; exact hl) (T_byt s hB K y hy 4 hK)]
  have hd : T s K y 4 = turn s (List.replicate K 0 ++ ([((y 0 : Nat) : Int), y 1, y 2, y 3] ++ List.replicate (s.length - K - 4) 0)) := by
    have hlen : s.length = (List.replicate K (0 : Int) ++ ([((y 0 : Nat) : Int), y 1, y 2, y 3] ++ List.replicate (s.length - K - 4) 0)).length := by simp; omega
    refine getD_ext (by rw [T_length, turn_length _ _ hlen]) fun i hi => ?_
    rw [T_length] at hi
    rw [T_getD s hB K y 4 hK i, turn_getD _ _ i hlen]
    have hb := hB i
    by_cases h : K ≤ i ∧ i < K + 4
    · rw [if_pos h]
      congr 2
      rw [List.getD_eq_getElem?_getD, List.getElem?_append_right (by simp; omega), List.getElem?_append_left (by simp; omega)]
      simp only [List.length_replicate]
      have : i - K < 4 := by omega
      rcases h4 : i - K with _ | _ | _ | _ | j <;> first | rfl | omega
    · rw [if_neg h]
      have hz : (List.replicate K (0 : Int) ++ ([((y 0 : Nat) : Int), y 1, y 2, y 3] ++ List.replicate (s.length - K - 4) 0)).getD i 0 = 0 := by
        rw [List.getD_eq_getElem?_getD]
        by_cases h5 : i < K
        · rw [List.getElem?_append_left (by simp; omega)]; simp [h5]
        · rw [List.getElem?_append_right (by simp; omega), List.getElem?_append_right (by simp; omega)]
          simp [List.getElem?_replicate]
          split <;> rfl
      rw [hz, Int.toNat_zero, Nat.xor_zero, Int.toNat_of_nonneg hb.1]
  have hlen : s.length = (List.replicate K (0 : Int) ++ ([((y 0 : Nat) : Int), y 1, y 2, y 3] ++ List.replicate (s.length - K - 4) 0)).length := by simp; omega
  have hf := feed_turn s _ 4294967295 0 hlen
  rw [Nat.xor_zero, ← hd, feed_append, feed_zeros, stN_zero, feed_append, feed4, Nat.zero_xor, feed_zeros, stN_add, hs] at hf
  rw [hf]
  have hv := val_lt (hy 0) (hy 1) (hy 2) (hy 3)
  have hz : val (y 0) (y 1) (y 2) (y 3) = 0 ↔ (y 0 = 0 ∧ y 1 = 0 ∧ y 2 = 0 ∧ y 3 = 0) := by
    rw [← val_sum (hy 0) (hy 1) (hy 2) (hy 3)]; omega
  by_cases h : (y 0 = 0 ∧ y 1 = 0 ∧ y 2 = 0 ∧ y 3 = 0)
  · have hfl : ¬ fl y 4 = true := by rw [fl_four]; exact fun h2 => h2 h
    rw [if_neg hfl, hz.2 h, stN_zero, Nat.xor_zero, if_pos rfl]
  · rw [if_pos ((fl_four y).2 h), if_neg]
    intro h2
    refine stN_ne (32 + 8 * (s.length - K - 4)) hv (fun h3 => h (hz.1 h3)) ?_
    have h3 : stN 32 4294967295 ^^^ (stN 32 4294967295 ^^^ stN (32 + 8 * (s.length - K - 4)) (val (y 0) (y 1) (y 2) (y 3))) = stN 32 4294967295 ^^^ stN 32 4294967295 := by rw [h2]
    rw [← Nat.xor_assoc, Nat.xor_self, Nat.zero_xor] at h3
    exact h3
theorem feed_sealed (l : List Int) (hB : Byt l) : feed 4294967295 (sealed l) = stN 32 4294967295 := by
  have h := opened_sealed l
  have h4 : ¬ (sealed l).length < 4 := by rw [sealed_length]; omega
  have hc := opened_code h4 (Byt_sealed hB)
  rw [h] at hc
  by_cases hf : feed 4294967295 (sealed l) = stN 32 4294967295
  · exact hf
  · rw [if_neg hf] at hc; cases hc
end Go.Proofs.Ytlnehjhhkfjggaa.ChkH
