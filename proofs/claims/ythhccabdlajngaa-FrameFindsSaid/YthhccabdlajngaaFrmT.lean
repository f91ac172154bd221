import Derived.Test.YthhccabdlajngaaFrmS
namespace Go.Proofs.Ythhccabdlajngaa.FrmT
open Go Go.Sim Go.Sim.E Go.RowKit Go.Proofs Go.Proofs.Ythhccabdlajngaa.Cod Go.Proofs.Ythhccabdlajngaa.Tab Go.Proofs.Ythhccabdlajngaa.Bse Go.Proofs.Ythhccabdlajngaa.Krc Go.Proofs.Ythhccabdlajngaa.FrmA Go.Proofs.Ythhccabdlajngaa.FrmB Go.Proofs.Ythhccabdlajngaa.FrmC Go.Proofs.Ythhccabdlajngaa.FrmD Go.Proofs.Ythhccabdlajngaa.FrmE Go.Proofs.Ythhccabdlajngaa.FrmF Go.Proofs.Ythhccabdlajngaa.FrmN Go.Proofs.Ythhccabdlajngaa.FrmO Go.Proofs.Ythhccabdlajngaa.FrmO Go.Proofs.Ythhccabdlajngaa.FrmP Go.Proofs.Ythhccabdlajngaa.FrmQ Go.Proofs.Ythhccabdlajngaa.FrmR Go.Proofs.Ythhccabdlajngaa.FrmS
set_option linter.unusedVariables false
set_option linter.unusedSimpArgs false
set_option maxRecDepth 100000
set_option maxHeartbeats 4000000
namespace FD
def st (x : Nat) : Nat := if x % 2 = 1 then (x / 2) ^^^ 3988292384 else x / 2
def stN : Nat → Nat → Nat
  | 0, x => x
  | n + 1, x => stN n (st x)
theorem st_lt {x : Nat} (h : x < 4294967296) : st x < 4294967296 := by
  unfold st
  split
  · exact Nat.xor_lt_two_pow (n := 32) (by omega) (by decide)
  · omega
def crc (r c : Nat) : Nat := stN 8 (r ^^^ c)
def Byt (l : List Int) : Prop := ∀ i : Nat, 0 ≤ l.getD i 0 ∧ l.getD i 0 < 256
def feed (r : Nat) (l : List Int) : Nat := l.foldl (fun r x => crc r x.toNat) r
def sum (l : List Int) : Nat := 4294967295 - feed 4294967295 l
theorem stN_lt : ∀ n {x : Nat}, x < 4294967296 → stN n x < 4294967296
  | 0, _, h => h
  | n + 1, _, h => stN_lt n (st_lt h)
theorem crc_lt {r c : Nat} (hr : r < 4294967296) (hc : c < 256) : crc r c < 4294967296 := stN_lt 8 (Nat.xor_lt_two_pow (n := 32) hr (by omega))
theorem Byt.take {l : List Int} (h : Byt l) (n : Nat) : Byt (l.take n) := by
  intro i
  by_cases hi : i < n
  · rw [show (l.take n).getD i 0 = l.getD i 0 by simp [List.getD_eq_getElem?_getD, hi]]; exact h i
  · rw [show (l.take n).getD i 0 = 0 by simp [List.getD_eq_getElem?_getD, List.getElem?_take, hi]]; omega
theorem feed_succ (r : Nat) (l : List Int) (i : Nat) (hi : i < l.length) : feed r (l.take (i + 1)) = crc (feed r (l.take i)) (l.getD i 0).toNat := by
  have h : l.take (i + 1) = l.take i ++ [l.getD i 0] := by
    rw [List.take_add_one]; simp [List.getD_eq_getElem?_getD, List.getElem?_eq_getElem hi]
  rw [h, feed, List.foldl_append]; rfl
theorem feed_lt' (r : Nat) (hr : r < 4294967296) (l : List Int) (h : Byt l) : ∀ n, n ≤ l.length → feed r (l.take n) < 4294967296
  | 0, _ => by simpa [feed] using hr
  | n + 1, hn => by
    rw [feed_succ r l n (by omega)]
    exact crc_lt (feed_lt' r hr l h n (by omega)) (by have := h n; omega)
theorem feed_lt (r : Nat) (hr : r < 4294967296) (l : List Int) (h : Byt l) : feed r l < 4294967296 := by
  have := feed_lt' r hr l h l.length (Nat.le_refl _)
  rwa [List.take_length] at this
theorem sum_lt (l : List Int) : sum l < 4294967296 := by unfold sum; omega
theorem feed_append (r : Nat) (a b : List Int) : feed r (a ++ b) = feed (feed r a) b := List.foldl_append ..
theorem xor_all (x : Nat) (hx : x < 4294967296) : 4294967295 ^^^ x = 4294967295 - x := by
  have h := BitVec.toNat_not (x := BitVec.ofNat 32 x)
  rw [BitVec.not_def, BitVec.toNat_xor, BitVec.toNat_allOnes, BitVec.toNat_ofNat, Nat.mod_eq_of_lt hx] at h
  exact h
theorem getD_ext {a b : List Int} (hl : a.length = b.length) (h : ∀ i, i < a.length → a.getD i 0 = b.getD i 0) : a = b := by
  apply List.ext_getElem hl
  intro i h1 h2
  have := h i h1
  simpa [List.getD_eq_getElem?_getD, List.getElem?_eq_getElem h1, List.getElem?_eq_getElem h2] using this
def le (n : Nat) : List Int := [(n % 256 : Nat), (n / 256 % 256 : Nat), (n / 65536 % 256 : Nat), (n / 16777216 % 256 : Nat)]
def sealed (l : List Int) : List Int := l ++ le (sum l)
def opened (l : List Int) : List Int × Nat :=
  if l.length < 4 then ([], 4) else if le (sum (l.take (l.length - 4))) = l.drop (l.length - 4) then (l.take (l.length - 4), 0) else ([], 9)
theorem opened_ok {l : List Int} (h : ¬ l.length < 4) (h2 : le (sum (l.take (l.length - 4))) = l.drop (l.length - 4)) : opened l = (l.take (l.length - 4), 0) := by unfold opened; rw [if_neg h, if_pos h2]
theorem opened_bad {l : List Int} (h : ¬ l.length < 4) (h2 : ¬ le (sum (l.take (l.length - 4))) = l.drop (l.length - 4)) : opened l = ([], 9) := by unfold opened; rw [if_neg h, if_neg h2]
theorem Byt_drop {l : List Int} (h : Byt l) (n : Nat) : Byt (l.drop n) := by
  intro i
  rw [show (l.drop n).getD i 0 = l.getD (n + i) 0 by simp [List.getD_eq_getElem?_getD, List.getElem?_drop]]
  exact h _
theorem Byt_le (n : Nat) : Byt (le n) := by
  intro i
  rcases i with _ | _ | _ | _ | i <;> simp [le] <;> omega
theorem le_eq (n b0 b1 b2 b3 : Nat) (hn : n < 4294967296) (h0 : b0 < 256) (h1 : b1 < 256) (h2 : b2 < 256) (h3 : b3 < 256) :
    le n = [(b0 : Int), b1, b2, b3] ↔ n = b0 + 256 * b1 + 65536 * b2 + 16777216 * b3 := by
  simp only [le, List.cons.injEq, and_true]
  omega
theorem four {t : List Int} (ht : t.length = 4) (hB : Byt t) : ∃ b0 b1 b2 b3 : Nat, t = [(b0 : Int), b1, b2, b3] ∧ b0 < 256 ∧ b1 < 256 ∧ b2 < 256 ∧ b3 < 256 := by
  match t, ht with
  | [a, b, c, d], _ =>
    have h0 := hB 0
    have h1 := hB 1
    have h2 := hB 2
    have h3 := hB 3
    simp at h0 h1 h2 h3
    exact ⟨a.toNat, b.toNat, c.toNat, d.toNat, by simp; omega, by omega, by omega, by omega, by omega⟩
theorem le_length (n : Nat) : (le n).length = 4 := rfl
theorem sealed_length (l : List Int) : (sealed l).length = l.length + 4 := by simp [sealed, le_length]
theorem Byt_append {a b : List Int} (ha : Byt a) (hb : Byt b) : Byt (a ++ b) := by
  intro i
  rcases Nat.lt_or_ge i a.length with h | h
  · rw [show (a ++ b).getD i 0 = a.getD i 0 by simp [List.getD_eq_getElem?_getD, List.getElem?_append_left h]]; exact ha i
  · rw [show (a ++ b).getD i 0 = b.getD (i - a.length) 0 by simp [List.getD_eq_getElem?_getD, List.getElem?_append_right h]]; exact hb _
theorem Byt_sealed {l : List Int} (h : Byt l) : Byt (sealed l) := Byt_append h (Byt_le _)
theorem opened_sealed (l : List Int) : opened (sealed l) = (l, 0) := by
  have h : (sealed l).length - 4 = l.length := by rw [sealed_length]; omega
  have h1 : (sealed l).take l.length = l := by simp [sealed]
  have h2 : (sealed l).drop l.length = le (sum l) := by simp [sealed]
  have h3 := opened_ok (l := sealed l) (by rw [sealed_length]; omega) (by rw [h, h1, h2])
  rw [h, h1] at h3
  exact h3
theorem half_xor (a b : Nat) : (a ^^^ b) / 2 = a / 2 ^^^ b / 2 := by
  have := Nat.shiftRight_xor_distrib (a := a) (b := b) (i := 1)
  simpa only [Nat.shiftRight_eq_div_pow, Nat.pow_one] using this
theorem st_xor (a b : Nat) : st (a ^^^ b) = st a ^^^ st b := by
  have hp := Nat.xor_mod_two_eq_one (a := a) (b := b)
  have h : ∀ x y P : Nat, (x ^^^ P) ^^^ (y ^^^ P) = x ^^^ y := by
    intro x y P
    apply Nat.eq_of_testBit_eq
    intro i
    simp only [Nat.testBit_xor]
    cases x.testBit i <;> cases y.testBit i <;> cases P.testBit i <;> rfl
  have h2 : ∀ x y P : Nat, (x ^^^ y) ^^^ P = (x ^^^ P) ^^^ y := by
    intro x y P
    rw [Nat.xor_assoc, Nat.xor_comm y P, ← Nat.xor_assoc]
  unfold st
  rw [half_xor]
  by_cases ha : a % 2 = 1 <;> by_cases hb : b % 2 = 1
  · rw [if_pos ha, if_pos hb, if_neg (by rw [hp]; simp [ha, hb]), h]
  · rw [if_pos ha, if_neg hb, if_pos (by rw [hp]; simp [ha, hb]), h2]
  · rw [if_neg ha, if_pos hb, if_pos (by rw [hp]; simp [ha, hb]), Nat.xor_assoc]
  · rw [if_neg ha, if_neg hb, if_neg (by rw [hp]; simp [ha, hb])]
theorem stN_xor : ∀ n (a b : Nat), stN n (a ^^^ b) = stN n a ^^^ stN n b
  | 0, _, _ => rfl
  | n + 1, a, b => by
    show stN n (st (a ^^^ b)) = stN n (st a) ^^^ stN n (st b)
    rw [st_xor, stN_xor n]
theorem stN_zero : ∀ n, stN n 0 = 0
  | 0 => rfl
  | n + 1 => stN_zero n
theorem stN_add : ∀ n m x, stN n (stN m x) = stN (m + n) x
  | n, 0, x => by rw [Nat.zero_add]; rfl
  | n, m + 1, x => by rw [show m + 1 + n = (m + n) + 1 by omega]; exact stN_add n m (st x)
theorem st_ne {z : Nat} (hz : z < 4294967296) (h : z ≠ 0) : st z ≠ 0 := by
  intro h0
  unfold st at h0
  split at h0
  · have : z / 2 = 3988292384 := by
      have h1 : (z / 2 ^^^ 3988292384) ^^^ 3988292384 = 0 ^^^ 3988292384 := by rw [h0]
      rw [Nat.xor_assoc, Nat.xor_self, Nat.xor_zero, Nat.zero_xor] at h1
      exact h1
    omega
  · omega
theorem stN_ne : ∀ n {z : Nat}, z < 4294967296 → z ≠ 0 → stN n z ≠ 0
  | 0, _, _, h => h
  | n + 1, _, hz, h => stN_ne n (st_lt hz) (st_ne hz h)
theorem xor_zero_iff {a b : Nat} : a ^^^ b = 0 ↔ a = b := by
  constructor
  · intro h
    have h1 : (a ^^^ b) ^^^ b = 0 ^^^ b := by rw [h]
    rw [Nat.xor_assoc, Nat.xor_self, Nat.xor_zero, Nat.zero_xor] at h1
    exact h1
  · rintro rfl; exact Nat.xor_self _
theorem stN_inj (n : Nat) {a b : Nat} (ha : a < 4294967296) (hb : b < 4294967296) : stN n a = stN n b ↔ a = b := by
  constructor
  · intro h
    apply xor_zero_iff.1
    apply Decidable.byContradiction
    intro hne
    exact stN_ne n (Nat.xor_lt_two_pow (n := 32) ha hb) hne (by rw [stN_xor, h, Nat.xor_self])
  · rintro rfl; rfl
theorem st_two (x : Nat) : st (2 * x) = x := by
  unfold st
  rw [if_neg (by omega)]
  omega
theorem st_eight (b : Nat) : stN 8 (256 * b) = b := by
  have h : 256 * b = 2 * (2 * (2 * (2 * (2 * (2 * (2 * (2 * b))))))) := by omega
  rw [h]
  show st (st (st (st (st (st (st (st _))))))) = b
  simp only [st_two]
/-- Four bytes as one number. -/
def val (b0 b1 b2 b3 : Nat) : Nat := b0 ^^^ (256 * b1 ^^^ (65536 * b2 ^^^ 16777216 * b3))
theorem feed4 (r b0 b1 b2 b3 : Nat) : feed r [(b0 : Int), b1, b2, b3] = stN 32 (r ^^^ val b0 b1 b2 b3) := by
  have h0 : feed r [(b0 : Int), b1, b2, b3] = stN 8 (stN 8 (stN 8 (stN 8 (r ^^^ b0) ^^^ b1) ^^^ b2) ^^^ b3) := by
    simp [feed, crc]
  have h1 : r ^^^ val b0 b1 b2 b3 = (r ^^^ b0) ^^^ 256 * (b1 ^^^ 256 * (b2 ^^^ 256 * b3)) := by
    unfold val
    have hd : ∀ a b : Nat, 256 * (a ^^^ b) = 256 * a ^^^ 256 * b := by
      intro a b
      have := Nat.shiftLeft_xor_distrib (a := a) (b := b) (i := 8)
      simp only [Nat.shiftLeft_eq] at this
      simpa [Nat.mul_comm] using this
    rw [hd, hd, hd, ← Nat.mul_assoc, ← Nat.mul_assoc, ← Nat.mul_assoc, Nat.xor_assoc]
  rw [h0, h1]
  have h32 : ∀ x, stN 32 x = stN 8 (stN 8 (stN 8 (stN 8 x))) := fun x => by rw [stN_add, stN_add, stN_add]
  rw [h32]
  rw [stN_xor 8 (r ^^^ b0), st_eight, ← Nat.xor_assoc, stN_xor 8 (stN 8 (r ^^^ b0) ^^^ b1), st_eight, ← Nat.xor_assoc, stN_xor 8 _ (256 * b3), st_eight]
theorem add_xor (i a b : Nat) (hb : b < 2 ^ i) : 2 ^ i * a + b = b ^^^ 2 ^ i * a := by
  apply Nat.eq_of_testBit_eq
  intro j
  rw [Nat.testBit_two_pow_mul_add _ hb, Nat.testBit_xor, Nat.testBit_two_pow_mul]
  by_cases h : j < i
  · simp [h, show ¬ j ≥ i by omega]
  · have hbj : b.testBit j = false := Nat.testBit_lt_two_pow (Nat.lt_of_lt_of_le hb (Nat.pow_le_pow_right (by decide) (by omega)))
    simp [h, show j ≥ i by omega, hbj]
theorem val_sum {b0 b1 b2 b3 : Nat} (h0 : b0 < 256) (h1 : b1 < 256) (h2 : b2 < 256) (h3 : b3 < 256) : b0 + 256 * b1 + 65536 * b2 + 16777216 * b3 = val b0 b1 b2 b3 := by
  unfold val
  have e3 := add_xor 16 b3 b2 (by omega)
  have x1 : b0 + 256 * b1 + 65536 * b2 + 16777216 * b3 = 2 ^ 8 * (b1 + 256 * b2 + 65536 * b3) + b0 := by omega
  have x2 : b1 + 256 * b2 + 65536 * b3 = 2 ^ 8 * (b2 + 256 * b3) + b1 := by omega
  have x3 : b2 + 256 * b3 = 2 ^ 8 * b3 + b2 := by omega
  have hd : ∀ a b : Nat, 256 * (a ^^^ b) = 256 * a ^^^ 256 * b := by
    intro a b
    have := Nat.shiftLeft_xor_distrib (a := a) (b := b) (i := 8)
    simp only [Nat.shiftLeft_eq] at this
    simpa [Nat.mul_comm] using this
  rw [x1, add_xor 8 _ b0 h0, x2, add_xor 8 _ b1 h1, x3, add_xor 8 _ b2 h2]
  simp only [show (2 : Nat) ^ 8 = 256 from rfl, hd, ← Nat.mul_assoc]

theorem val_lt {b0 b1 b2 b3 : Nat} (h0 : b0 < 256) (h1 : b1 < 256) (h2 : b2 < 256) (h3 : b3 < 256) : val b0 b1 b2 b3 < 4294967296 := by rw [← val_sum h0 h1 h2 h3]; omega
/-- OPENED WELL: what the whole feeds to. -/
theorem opened_iff {l : List Int} (hl : ¬ l.length < 4) (hB : Byt l) : (le (sum (l.take (l.length - 4))) = l.drop (l.length - 4)) ↔ feed 4294967295 l = stN 32 4294967295 := by
  obtain ⟨b0, b1, b2, b3, ht, h0, h1, h2, h3⟩ := four (t := l.drop (l.length - 4)) (by rw [List.length_drop]; omega) (Byt_drop hB _)
  have hr := feed_lt 4294967295 (by decide) (l.take (l.length - 4)) (hB.take _)
  have hf : feed 4294967295 l = stN 32 (feed 4294967295 (l.take (l.length - 4)) ^^^ val b0 b1 b2 b3) := by
    rw [← feed4, ← ht, ← feed_append, List.take_append_drop]
  have hv := val_lt h0 h1 h2 h3
  rw [hf, stN_inj 32 (Nat.xor_lt_two_pow (n := 32) hr hv) (by decide), ht, le_eq _ _ _ _ _ (sum_lt _) h0 h1 h2 h3, val_sum h0 h1 h2 h3]
  unfold sum
  generalize feed 4294967295 (l.take (l.length - 4)) = r at *
  generalize val b0 b1 b2 b3 = v at *
  rw [← xor_all r hr]
  constructor
  · intro h
    rw [← h, Nat.xor_comm 4294967295 r, ← Nat.xor_assoc, Nat.xor_self, Nat.zero_xor]
  · intro h
    rw [← h, Nat.xor_assoc, Nat.xor_comm v r, ← Nat.xor_assoc, Nat.xor_self, Nat.zero_xor]
theorem opened_code {l : List Int} (hl : ¬ l.length < 4) (hB : Byt l) : (opened l).2 = if feed 4294967295 l = stN 32 4294967295 then 0 else 9 := by
  by_cases h : le (sum (l.take (l.length - 4))) = l.drop (l.length - 4)
  · rw [opened_ok hl h, if_pos ((opened_iff hl hB).1 h)]
  · rw [opened_bad hl h, if_neg (fun h2 => h ((opened_iff hl hB).2 h2))]

/-- One list turned by another. -/
def turn : List Int → List Int → List Int
  | a :: s, d :: t => ((a.toNat ^^^ d.toNat : Nat) : Int) :: turn s t
  | _, _ => []
theorem feed_turn : ∀ (s d : List Int) (r q : Nat), s.length = d.length → feed (r ^^^ q) (turn s d) = feed r s ^^^ feed q d
  | [], [], _, _, _ => rfl
  | a :: s, e :: d, r, q, h => by
    have ih := feed_turn s d (crc r a.toNat) (crc q e.toNat) (by simpa using h)
    show feed (crc (r ^^^ q) (Int.toNat _)) (turn s d) = feed (crc r a.toNat) s ^^^ feed (crc q e.toNat) d
    rw [← ih, Int.toNat_natCast]
    congr 1
    unfold crc
    rw [← stN_xor]
    congr 1
    rw [Nat.xor_assoc, ← Nat.xor_assoc q, Nat.xor_comm q, Nat.xor_assoc, ← Nat.xor_assoc r]
theorem feed_zeros : ∀ (n r : Nat), feed r (List.replicate n 0) = stN (8 * n) r
  | 0, _ => rfl
  | n + 1, r => by
    have ih := feed_zeros n (crc r 0)
    show feed (crc r 0) (List.replicate n 0) = _
    rw [ih, show 8 * (n + 1) = 8 + 8 * n by omega, ← stN_add]
    unfold crc
    rw [Nat.xor_zero]
theorem turn_getD : ∀ (s d : List Int) (i : Nat), s.length = d.length → (turn s d).getD i 0 = (((s.getD i 0).toNat ^^^ (d.getD i 0).toNat : Nat) : Int)
  | [], [], i, _ => by simp [turn]
  | a :: s, e :: d, 0, h => by simp [turn]
  | a :: s, e :: d, i + 1, h => by
    have := turn_getD s d i (by simpa using h)
    simpa [turn] using this
theorem turn_length : ∀ (s d : List Int), s.length = d.length → (turn s d).length = s.length
  | [], [], _ => rfl
  | a :: s, e :: d, h => by simp [turn, turn_length s d (by simpa using h)]

/-- A sealed run, four of its bytes turned. -/
def T (s : List Int) (K : Nat) (y : Nat → Nat) : Nat → List Int
  | 0 => s
  | k + 1 => (T s K y k).set (K + k) (((((T s K y k).getD (K + k) 0).toNat ^^^ y k : Nat)) : Int)
def fl (y : Nat → Nat) : Nat → Bool
  | 0 => false
  | k + 1 => fl y k || (y k != 0)
theorem T_length (s : List Int) (K : Nat) (y : Nat → Nat) : ∀ k, (T s K y k).length = s.length
  | 0 => rfl
  | k + 1 => by rw [T, List.length_set, T_length s K y k]
theorem T_getD (s : List Int) (hB : Byt s) (K : Nat) (y : Nat → Nat) : ∀ k, K + k ≤ s.length → ∀ i, (T s K y k).getD i 0 = if K ≤ i ∧ i < K + k then (((s.getD i 0).toNat ^^^ y (i - K) : Nat) : Int) else s.getD i 0
  | 0, _, i => by rw [if_neg (by omega)]; rfl
  | k + 1, hk, i => by
    have ih := T_getD s hB K y k (by omega)
    rw [T, List.getD_eq_getElem?_getD, List.getElem?_set]
    by_cases h : K + k = i
    · subst h
      have h2 := ih (K + k)
      rw [if_neg (by omega)] at h2
      rw [if_pos rfl, if_pos (by rw [T_length]; omega), if_pos (by omega), h2, show K + k - K = k by omega]
      rfl
    · have h2 := ih i
      rw [if_neg h, ← List.getD_eq_getElem?_getD, h2]
      by_cases h3 : K ≤ i ∧ i < K + k
      · rw [if_pos h3, if_pos (by omega)]
      · rw [if_neg h3, if_neg (by omega)]
theorem T_byt (s : List Int) (hB : Byt s) (K : Nat) (y : Nat → Nat) (hy : ∀ i, y i < 256) (k : Nat) (hk : K + k ≤ s.length) : Byt (T s K y k) := by
  intro i
  rw [T_getD s hB K y k hk i]
  have := hB i
  split
  · have := Nat.xor_lt_two_pow (n := 8) (x := (s.getD i 0).toNat) (y := y (i - K)) (by omega) (hy _)
    omega
  · exact this
theorem fl_four (y : Nat → Nat) : fl y 4 = true ↔ ¬ (y 0 = 0 ∧ y 1 = 0 ∧ y 2 = 0 ∧ y 3 = 0) := by
  simp [fl]
  omega

theorem finds (s : List Int) (hl : ¬ s.length < 4) (hB : Byt s) (hs : feed 4294967295 s = stN 32 4294967295) (K : Nat) (hK : K + 4 ≤ s.length) (y : Nat → Nat) (hy : ∀ i, y i < 256) :
    (opened (T s K y 4)).2 = if fl y 4 = true then 9 else 0 := by
  rw [opened_code (by rw [T_length]; exact hl) (T_byt s hB K y hy 4 hK)]
  have hd : T s K y 4 = turn s (List.replicate K 0 ++ ([((y 0 : Nat) : Int), y 1, y 2, y 3] ++ List.replicate (s.length - K - 4) 0)) := by
    have hlen : s.length = (List.replicate K (0 : Int) ++ ([((y 0 : Nat) : Int), y 1, y 2, y 3] ++ List.replicate (s.length - K - 4) 0)).length := by simp; omega
    refine getD_ext (by rw [T_length, turn_length _ _ hlen]) fun i hi => ?_
    rw [T_length] at hi
    rw [T_getD s hB K y 4 hK i, turn_getD _ _ i hlen]
    have hb := hB i
    by_cases h : K ≤ i ∧ i < K + 4
    · rw [if_pos h]
      congr 2
      rw [List.getD_eq_getElem?_getD, List.getElem?_append_right (by simp; omega), List.getElem?_append_left (by simp; omega)]
      simp only [List.length_replicate]
      have : i - K < 4 := by omega
      rcases h4 : i - K with _ | _ | _ | _ | j <;> first | rfl | omega
    · rw [if_neg h]
      have hz : (List.replicate K (0 : Int) ++ ([((y 0 : Nat) : Int), y 1, y 2, y 3] ++ List.replicate (s.length - K - 4) 0)).getD i 0 = 0 := by
        rw [List.getD_eq_getElem?_getD]
        by_cases h5 : i < K
        · rw [List.getElem?_append_left (by simp; omega)]; simp [h5]
        · rw [List.getElem?_append_right (by simp; omega), List.getElem?_append_right (by simp; omega)]
          simp [List.getElem?_replicate]
          split <;> rfl
      rw [hz, Int.toNat_zero, Nat.xor_zero, Int.toNat_of_nonneg hb.1]
  have hlen : s.length = (List.replicate K (0 : Int) ++ ([((y 0 : Nat) : Int), y 1, y 2, y 3] ++ List.replicate (s.length - K - 4) 0)).length := by simp; omega
  have hf := feed_turn s _ 4294967295 0 hlen
  rw [Nat.xor_zero, ← hd, feed_append, feed_zeros, stN_zero, feed_append, feed4, Nat.zero_xor, feed_zeros, stN_add, hs] at hf
  rw [hf]
  have hv := val_lt (hy 0) (hy 1) (hy 2) (hy 3)
  have hz : val (y 0) (y 1) (y 2) (y 3) = 0 ↔ (y 0 = 0 ∧ y 1 = 0 ∧ y 2 = 0 ∧ y 3 = 0) := by
    rw [← val_sum (hy 0) (hy 1) (hy 2) (hy 3)]; omega
  by_cases h : (y 0 = 0 ∧ y 1 = 0 ∧ y 2 = 0 ∧ y 3 = 0)
  · have hfl : ¬ fl y 4 = true := by rw [fl_four]; exact fun h2 => h2 h
    rw [if_neg hfl, hz.2 h, stN_zero, Nat.xor_zero, if_pos rfl]
  · rw [if_pos ((fl_four y).2 h), if_neg]
    intro h2
    refine stN_ne (32 + 8 * (s.length - K - 4)) hv (fun h3 => h (hz.1 h3)) ?_
    have h3 : stN 32 4294967295 ^^^ (stN 32 4294967295 ^^^ stN (32 + 8 * (s.length - K - 4)) (val (y 0) (y 1) (y 2) (y 3))) = stN 32 4294967295 ^^^ stN 32 4294967295 := by rw [h2]
    rw [← Nat.xor_assoc, Nat.xor_self, Nat.zero_xor] at h3
    exact h3
theorem feed_sealed (l : List Int) (hB : Byt l) : feed 4294967295 (sealed l) = stN 32 4294967295 := by
  have h := opened_sealed l
  have h4 : ¬ (sealed l).length < 4 := by rw [sealed_length]; omega
  have hc := opened_code h4 (Byt_sealed hB)
  rw [h] at hc
  by_cases hf : feed 4294967295 (sealed l) = stN 32 4294967295
  · exact hf
  · rw [if_neg hf] at hc; cases hc
end FD
theorem fd_st (k x : Nat) : FD.stN k (stp x) = stp (FD.stN k x) := by
  induction k generalizing x with
  | zero => rfl
  | succ k ih => exact ih (stp x)
theorem fd_stN (k x : Nat) : stpN k x = FD.stN k x := by
  induction k with
  | zero => rfl
  | succ k ih =>
    show stp (stpN k x) = FD.stN k (stp x)
    rw [ih, fd_st]
theorem fd_byt {l : List Int} (h : byt8 l) : FD.Byt l := fun i => byt8_get h i
theorem fd_feed : ∀ (l : List Int) (r : Nat), byt8 l → crcs r l = FD.feed r l
  | [], r, _ => rfl
  | x :: l, r, h => by
    have hx := h x (List.mem_cons_self ..)
    show crcs (crc r (x.toNat % 256)) l = FD.feed (FD.crc r x.toNat) l
    rw [fd_feed l _ (fun y hy => h y (List.mem_cons_of_mem _ hy)), Nat.mod_eq_of_lt (by omega)]
    unfold crc FD.crc
    rw [fd_stN]
theorem fd_sum {l : List Int} (h : byt8 l) : sumN l = FD.sum l := by unfold sumN FD.sum; rw [fd_feed l _ h]
theorem fd_seal {l : List Int} (h : byt8 l) : slB l = FD.sealed l := by unfold slB FD.sealed; rw [fd_sum h]; rfl
theorem fd_open {l : List Int} (h : byt8 l) : (opF l).1 = (FD.opened l).1 ∧ (opF l).2 = ((FD.opened l).2 : Int) := by
  have e : le4 (sumN (l.take (l.length - 4))) = FD.le (FD.sum (l.take (l.length - 4))) := by rw [fd_sum (byt8_take h _)]; rfl
  unfold opF FD.opened
  rw [e]
  split
  · exact ⟨rfl, rfl⟩
  · split
    · exact ⟨rfl, rfl⟩
    · exact ⟨rfl, rfl⟩
theorem byt_fd {l : List Int} (h : FD.Byt l) : byt8 l := by
  intro x hx
  obtain ⟨i, hi, rfl⟩ := List.getElem_of_mem hx
  have := h i
  rw [List.getD_eq_getElem?_getD, List.getElem?_eq_getElem hi] at this
  exact this
theorem opF_seal (l : List Int) (h : byt8 l) : opF (slB l) = (l, 0) := by
  have hb : byt8 (slB l) := byt8_app h (le4_byt _)
  have := fd_open hb
  rw [fd_seal h, FD.opened_sealed] at this
  rw [fd_seal h]
  exact Prod.ext this.1 this.2
/-- What is sealed, turned in four bytes in a row, is not opened. -/
theorem opF_turned (l : List Int) (h : byt8 l) (K : Nat) (hK : K + 4 ≤ (slB l).length) (y : Nat → Nat) (hy : ∀ i, y i < 256) (hn : ¬ (y 0 = 0 ∧ y 1 = 0 ∧ y 2 = 0 ∧ y 3 = 0)) : (opF (FD.T (slB l) K y 4)).2 = 9 := by
  have hs : byt8 (slB l) := byt8_app h (le4_byt _)
  have hT := FD.T_byt (slB l) (fd_byt hs) K y hy 4 hK
  rw [(fd_open (byt_fd hT)).2]
  have := FD.finds (slB l) (by omega) (fd_byt hs) (by rw [fd_seal h]; exact FD.feed_sealed l (fd_byt h)) K hK y hy
  rw [this, if_pos ((FD.fl_four y).2 hn)]
  rfl
theorem ofN_app (a b : List Int) : ∀ i, i ≤ a.length → ofN (a ++ b) i = ofN a i
  | 0, _ => rfl
  | i + 1, h => by
    rw [ofN, ofN, ofN_app a b i (by omega)]
    have : (a ++ b).getD i 0 = a.getD i 0 := by
      rw [List.getD_eq_getElem?_getD, List.getElem?_append_left (by omega), List.getD_eq_getElem?_getD]
    rw [this]
theorem ofN_snoc (a : List Int) (c : Int) (w : Nat) (h : a.length = w) : ofN (a ++ [c]) (w + 1) = (256 * ofN a w + c) % 18446744073709551616 := by
  subst h
  rw [ofN, ofN_app a [c] _ (Nat.le_refl _)]
  have : (a ++ [c]).getD a.length 0 = c := by
    rw [List.getD_eq_getElem?_getD, List.getElem?_append_right (Nat.le_refl _), Nat.sub_self]; rfl
  rw [this]
theorem p256 (w : Nat) (h : w ≤ 8) : (256 : Int) ^ w ≤ 18446744073709551616 := by
  have : w = 0 ∨ w = 1 ∨ w = 2 ∨ w = 3 ∨ w = 4 ∨ w = 5 ∨ w = 6 ∨ w = 7 ∨ w = 8 := by omega
  rcases this with rfl | rfl | rfl | rfl | rfl | rfl | rfl | rfl | rfl <;> decide
theorem ofN_beN : ∀ (w : Nat) (n : Int), w ≤ 8 → 0 ≤ n → n < 256 ^ w → ofN (beN w n) w = n
  | 0, n, _, h0, h1 => by
    have : n = 0 := by simp at h1; omega
    rw [this]; rfl
  | w + 1, n, hw, h0, h1 => by
    have h2 := p256 (w + 1) hw
    rw [Int.pow_succ] at h1 h2
    have ih := ofN_beN w (n / 256) (by omega) (by omega) (by omega)
    rw [beN, ofN_snoc _ _ w (beN_length w _), ih]
    omega
theorem ap_drop (a b : List Int) (n : Nat) (h : a.length = n) : (a ++ b).drop n = b := by rw [List.drop_append, List.drop_of_length_le (by omega), h, Nat.sub_self]; rfl
theorem ap_take (a b : List Int) (n : Nat) (h : a.length = n) : (a ++ b).take n = a := by rw [List.take_append_of_le_length (by omega), List.take_of_length_le (by omega)]
/-- A frame that may be held. -/
def fok (f : Fm) : Prop := byt8 f.t.1 ∧ byt8 f.su.1 ∧ byt8 f.d ∧ (0 ≤ f.es ∧ f.es < 4294967296) ∧ (0 ≤ f.er ∧ f.er < 4294967296) ∧ u64R f.o ∧ u64R f.n ∧ ∀ p ∈ f.r, u64R p.1 ∧ u64R p.2
theorem may_k {f : Fm} (h : mayF f = 0) : 1 ≤ f.k ∧ f.k ≤ 7 := by
  by_cases h0 : 1 ≤ f.k ∧ f.k ≤ 7
  · exact h0
  · exfalso
    unfold mayF at h
    rw [if_neg (by omega), if_neg (by omega), if_neg (by omega), if_neg (by omega)] at h
    cases h
theorem s16_app (t : V 16) (B : List Int) : s16 (t.1 ++ B) false = t := by
  apply Subtype.ext
  rw [s16_eq (by rw [List.length_append, t.2]; omega), ap_take _ _ _ t.2]
theorem s32_app (t : V 32) (B : List Int) : s32 (t.1 ++ B) false = t := by
  apply Subtype.ext
  show (tkF (t.1 ++ B) false 32).1 = t.1
  rw [tk_ge _ _ _ (by rw [List.length_append, t.2]; omega)]
  exact ap_take _ _ _ t.2
/-- The head of a datagram is read as it was laid. -/
theorem head_is (f : Fm) (hf : fok f) (hk : 1 ≤ f.k ∧ f.k ≤ 7) (B : List Int) : 28 ≤ (hdB f ++ B).length ∧ (hdB f ++ B).take 2 = [84, 87] ∧ (hdB f ++ B).getD 2 0 = f.k ∧ (hdB f ++ B).getD 3 0 = mkF f.es f.er ∧
    s16 ((hdB f ++ B).drop 4) false = f.t ∧ S4 (hdB f ++ B) 20 = f.es ∧ S4 (hdB f ++ B) 24 = f.er ∧ (hdB f ++ B).drop 28 = B := by
  obtain ⟨h1, h2, h3, h4, h5, h6, h7, h8⟩ := hf
  have e : hdB f ++ B = 84 :: 87 :: (f.k % 256) :: mkF f.es f.er :: (f.t.1 ++ (beN 4 f.es ++ (beN 4 f.er ++ B))) := by simp [hdB]
  have d4 : (hdB f ++ B).drop 4 = f.t.1 ++ (beN 4 f.es ++ (beN 4 f.er ++ B)) := by rw [e]; rfl
  have d20 : (hdB f ++ B).drop 20 = beN 4 f.es ++ (beN 4 f.er ++ B) := by
    rw [show 20 = 4 + 16 from rfl, ← List.drop_drop, d4, ap_drop _ _ _ f.t.2]
  have d24 : (hdB f ++ B).drop 24 = beN 4 f.er ++ B := by
    rw [show 24 = 20 + 4 from rfl, ← List.drop_drop, d20, ap_drop _ _ _ (beN_length 4 _)]
  have d28 : (hdB f ++ B).drop 28 = B := by
    rw [show 28 = 24 + 4 from rfl, ← List.drop_drop, d24, ap_drop _ _ _ (beN_length 4 _)]
  refine ⟨?_, by rw [e]; rfl, ?_, by rw [e]; rfl, by rw [d4, s16_app], ?_, ?_, d28⟩
  · rw [e]
    simp only [List.length_cons, List.length_append, beN_length, f.t.2]
    omega
  · have : (hdB f ++ B).getD 2 0 = f.k % 256 := by rw [e]; rfl
    rw [this]; omega
  · show ofN (((hdB f ++ B).drop 20).take 4) 4 = _
    rw [d20, ap_take _ _ _ (beN_length 4 _), ofN_beN 4 _ (by decide) h4.1 (by have := h4.2; simpa using this)]
  · show ofN (((hdB f ++ B).drop 24).take 4) 4 = _
    rw [d24, ap_take _ _ _ (beN_length 4 _), ofN_beN 4 _ (by decide) h5.1 (by have := h5.2; simpa using this)]
theorem rg_is (o : Int) : ∀ (l : List Rg) (pre : List Int), (∀ p ∈ l, u64R p.1 ∧ u64R p.2) → rgN (pre ++ rgB l) pre.length l.length = l
  | [], pre, _ => rfl
  | p :: l, pre, h => by
    have hp := h p (List.mem_cons_self ..)
    have e : pre ++ rgB (p :: l) = (pre ++ (beN 8 p.1 ++ beN 8 p.2)) ++ rgB l := by
      show pre ++ (beN 8 p.1 ++ beN 8 p.2 ++ rgB l) = _
      simp
    have hl : (pre ++ (beN 8 p.1 ++ beN 8 p.2)).length = pre.length + 16 := by simp [beN_length]
    have ih := rg_is o l (pre ++ (beN 8 p.1 ++ beN 8 p.2)) (fun q hq => h q (List.mem_cons_of_mem _ hq))
    rw [hl, ← e] at ih
    have d0 : (pre ++ rgB (p :: l)).drop pre.length = beN 8 p.1 ++ (beN 8 p.2 ++ rgB l) := by
      rw [ap_drop _ _ _ rfl]
      show beN 8 p.1 ++ beN 8 p.2 ++ rgB l = _
      simp
    have d8 : (pre ++ rgB (p :: l)).drop (pre.length + 8) = beN 8 p.2 ++ rgB l := by
      rw [← List.drop_drop, d0, ap_drop _ _ _ (beN_length 8 _)]
    rw [List.length_cons, rgN, ih, rg1, d0, d8, ap_take _ _ _ (beN_length 8 _), ap_take _ _ _ (beN_length 8 _), ofN_beN 8 _ (by decide) hp.1.1 (by have := hp.1.2; simpa using this), ofN_beN 8 _ (by decide) hp.2.1 (by have := hp.2.2; simpa using this)]
/-- A bare frame's fields are read as they were laid. -/
theorem fields_is (f : Fm) (hf : fok f) (hm : mayF f = 0) : fdE f.k f.t f.es f.er (bodyF (bare f)) = (bare f, 0) := by
  have hk := may_k hm
  obtain ⟨k, t, es, er, o, n, su, d, r, c⟩ := f
  obtain ⟨h1, h2, h3, h4, h5, h6, h7, h8⟩ := hf
  simp only at hk h1 h2 h3 h4 h5 h6 h7 h8 ⊢
  have on : ofN (beN 8 n) 8 = n := ofN_beN 8 _ (by decide) h7.1 (by have := h7.2; simpa using this)
  have oo : ofN (beN 8 o) 8 = o := ofN_beN 8 _ (by decide) h6.1 (by have := h6.2; simpa using this)
  have ln := beN_length 8 n
  have lo := beN_length 8 o
  have tn : (beN 8 n).take 8 = beN 8 n := List.take_of_length_le (by omega)
  have tob : (beN 8 o).take 8 = beN 8 o := List.take_of_length_le (by omega)
  by_cases k15 : k = 1 ∨ k = 5
  · have hb : bare ⟨k, t, es, er, o, n, su, d, r, c⟩ = ⟨k, t, es, er, 0, n, su, [], [], 0⟩ := if_pos k15
    have hB : bodyF ⟨k, t, es, er, 0, n, su, [], [], 0⟩ = beN 8 n ++ su.1 := if_pos k15
    have hl : (beN 8 n ++ su.1).length = 40 := by rw [List.length_append, ln, su.2]
    rw [hb, hB, fdE15 k k15, if_neg (by omega), if_neg (by omega)]
    have hF : ff15 k t es er (beN 8 n ++ su.1) = ⟨k, t, es, er, 0, n, su, [], [], 0⟩ := by
      unfold ff15
      rw [ap_take _ _ _ ln, on, ap_drop _ _ _ ln]
      have := s32_app su []
      rw [List.append_nil] at this
      rw [this]
    rw [hF]
    have : mayF ⟨k, t, es, er, 0, n, su, [], [], 0⟩ = 0 := if_pos (by rcases k15 with h | h; exact .inl h; exact .inr (.inr (.inl h)))
    rw [this]
  by_cases k2 : k = 2
  · subst k2
    have hB : bodyF (bare ⟨2, t, es, er, o, n, su, d, r, c⟩) = beN 8 o := by show beN 8 o ++ [] ++ rgB [] = _; simp [rgB]
    rw [hB, fdE2, if_neg (by omega), if_neg (by omega)]
    have hF : ff2 t es er (beN 8 o) = bare ⟨2, t, es, er, o, n, su, d, r, c⟩ := by unfold ff2; rw [tob, oo]; rfl
    rw [hF]; rfl
  by_cases k6 : k = 6
  · subst k6
    have hB : bodyF (bare ⟨6, t, es, er, o, n, su, d, r, c⟩) = beN 8 n := rfl
    rw [hB, fdE6, if_neg (by omega), if_neg (by omega)]
    have hF : ff6 t es er (beN 8 n) = bare ⟨6, t, es, er, o, n, su, d, r, c⟩ := by unfold ff6; rw [tn, on]; rfl
    rw [hF]; rfl
  by_cases k7 : k = 7
  · subst k7
    have hc : ¬ c < 1 ∧ ¬ 99 < c := by
      have hm' : (if c < 1 then (3 : Int) else if 99 < c then 3 else 0) = 0 := hm
      refine ⟨fun h => ?_, fun h => ?_⟩
      · rw [if_pos h] at hm'; cases hm'
      · rw [if_neg (by omega), if_pos h] at hm'; cases hm'
    have hB : bodyF (bare ⟨7, t, es, er, o, n, su, d, r, c⟩) = [c % 256] := rfl
    have hb : byt8 [c % 256] := by intro x hx; simp at hx; omega
    rw [hB, fdE7 _ _ _ _ hb, if_neg (by simp), if_neg (by simp)]
    have hF : ff7 t es er [c % 256] = bare ⟨7, t, es, er, o, n, su, d, r, c⟩ := by
      show (⟨7, t, es, er, 0, 0, z32, [], [], c % 256⟩ : Fm) = ⟨7, t, es, er, 0, 0, z32, [], [], c⟩
      rw [show c % 256 = c from by omega]
    rw [hF]
    exact congrArg _ hm
  by_cases k3 : k = 3
  · subst k3
    have hd : ¬ d.length = 0 := by
      intro h
      have hm' : (if d.length = 0 then (4 : Int) else if 256 < d.length then 10 else 0) = 0 := hm
      rw [if_pos h] at hm'; cases hm'
    have hB : bodyF (bare ⟨3, t, es, er, o, n, su, d, r, c⟩) = beN 8 o ++ d := by show beN 8 o ++ d ++ rgB [] = _; simp [rgB]
    have hl : (beN 8 o ++ d).length = 8 + d.length := by rw [List.length_append, lo]
    rw [hB, fdE3, if_neg (by omega)]
    have hF : ff3 t es er (beN 8 o ++ d) = bare ⟨3, t, es, er, o, n, su, d, r, c⟩ := by
      unfold ff3
      rw [ap_take _ _ _ lo, ap_drop _ _ _ lo, oo]; rfl
    rw [hF]
    exact congrArg _ hm
  have k4 : k = 4 := by omega
  subst k4
  have hB : bodyF (bare ⟨4, t, es, er, o, n, su, d, r, c⟩) = beN 8 o ++ rgB r := by show beN 8 o ++ [] ++ rgB r = _; simp
  have hl : (beN 8 o ++ rgB r).length = 8 + 16 * r.length := by rw [List.length_append, lo, rgB_length]
  rw [hB, fdE4, if_neg (by omega), if_pos (by omega)]
  have hF : ff4 t es er (beN 8 o ++ rgB r) = bare ⟨4, t, es, er, o, n, su, d, r, c⟩ := by
    unfold ff4
    have := rg_is 0 r (beN 8 o) h8
    rw [lo] at this
    rw [ap_take _ _ _ lo, oo, hl, show (8 + 16 * r.length - 8) / 16 = r.length from by omega, this]; rfl
  rw [hF]
  exact congrArg _ hm
theorem rows_byt (f : Fm) (hf : fok f) : byt8 (hdB f ++ bodyF (bare f)) := by
  have hb := bare_byt f hf.2.1 hf.2.2.1
  exact byt8_app (hdB_byt f hf.1) (bodyF_byt _ hb.1 hb.2)
/-- What is laid is parsed, bare. -/
theorem back1 (f : Fm) (hf : fok f) (hm : mayF f = 0) : psF (layF f).1 = (bare f, 0) := by
  have hk := may_k hm
  have e : (layF f).1 = slB (hdB f ++ bodyF (bare f)) := by rw [layF, if_pos hm]
  obtain ⟨g1, g2, g3, g4, g5, g6, g7, g8⟩ := head_is f hf hk (bodyF (bare f))
  rw [e, psF, opF_seal _ (rows_byt f hf), if_pos rfl]
  simp only
  rw [ps1, if_neg (by omega), if_pos g2, g3, if_neg (by omega), if_neg (by omega), g4, g6, g7, if_pos rfl, g5, g8, fields_is f hf hm, if_pos rfl]
end Go.Proofs.Ythhccabdlajngaa.FrmT
