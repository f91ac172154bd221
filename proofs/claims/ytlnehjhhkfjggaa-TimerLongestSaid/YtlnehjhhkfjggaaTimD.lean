import Derived.Test.YtlnehjhhkfjggaaTimB
namespace Go.Proofs.Ytlnehjhhkfjggaa.TimD
open Go.RowKit Go.Proofs.Ytlnehjhhkfjggaa.PTimerFires Go.Proofs.YtlnehjhhkfjggaaW.PrintWords Go.Proofs.YtlnehjhhkfjggaaW.PrintLast Go.Proofs.YtlnehjhhkfjggaaW.PrintMore
open Go.Proofs.Ytlnehjhhkfjggaa.TimB

theorem mn_rng {w : Int} (h2 : 1 ≤ w) (h3 : w ≤ 16) : 1 ≤ mn (w + w) 16 ∧ mn (w + w) 16 ≤ 16 := by
  unfold mn; split <;> omega
theorem tk_down {w l : Int} (h1 : 2 ≤ l) (h2 : l ≤ w) (h3 : w ≤ 16) : tk true w l = (true, w, l - 1, false) := by
  unfold tk; rw [if_pos ⟨rfl, by omega, h2, h3⟩, if_pos (by omega)]
theorem tk_fire {w : Int} (h2 : 1 ≤ w) (h3 : w ≤ 16) : tk true w 1 = (true, mn (w + w) 16, mn (w + w) 16, true) := by
  unfold tk; rw [if_pos ⟨rfl, by omega, h2, h3⟩, if_neg (by omega)]

/-- How long it takes to fire m times from a full wait on. -/
def lg : Nat → Int → Int
  | 0, _ => 0
  | m + 1, w => w + lg m (mn (w + w) 16)

theorem lg_rng (m : Nat) : ∀ w : Int, 1 ≤ w → w ≤ 16 → m ≤ lg m w ∧ lg m w ≤ 16 * m := by
  induction m with
  | zero => intro w _ _; simp [lg]
  | succ m ih =>
    intro w h1 h2
    have hr := mn_rng h1 h2
    have := ih _ hr.1 hr.2
    simp only [lg]; omega

theorem longest_run (m : Nat) : ∀ (k : Nat) (t w N i : Int), N - i = m → m < k → 0 ≤ i → N ≤ 300 → 0 ≤ t → t ≤ 16 * i → 1 ≤ w → w ≤ 16 →
    timer_Longest.l0 k t w N i = some (t + lg m w) := by
  induction m with
  | zero =>
    intro k t w N i hd hk h0 hN ht ht2 h1 h2
    obtain ⟨k, rfl⟩ : ∃ m, k = m + 1 := ⟨k - 1, by omega⟩
    simp only [timer_Longest.l0]
    rw [if_neg (by omega)]; simp [lg]
  | succ m ih =>
    intro k t w N i hd hk h0 hN ht ht2 h1 h2
    obtain ⟨k, rfl⟩ : ∃ m, k = m + 1 := ⟨k - 1, by omega⟩
    have hr := mn_rng h1 h2
    rw [timer_Longest.l0]
    rw [if_pos (by omega), wrap_id (by omega) (by omega), wrap_id (by omega) (by omega), wrap_id (by omega) (by omega)]
    rw [ih _ _ _ _ _ (by omega) (by omega) (by omega) hN (by omega) (by omega) hr.1 hr.2]
    simp only [lg]; rw [Int.add_assoc]

/-- It runs down, and fires. -/
theorem run_fire (d : Nat) : ∀ (m : Nat) (f w l : Int), l = d + 1 → l ≤ w → w ≤ 16 →
    tks (m + (d + 1)) f true w l = tks m (f + 1) true (mn (w + w) 16) (mn (w + w) 16) := by
  induction d with
  | zero =>
    intro m f w l hl h1 h2
    obtain rfl : l = 1 := by omega
    rw [show m + (0 + 1) = m + 1 from rfl, tks, tk_fire (by omega) h2, if_pos rfl]
  | succ d ih =>
    intro m f w l hl h1 h2
    rw [show m + (d + 1 + 1) = (m + (d + 1)) + 1 from rfl, tks, tk_down (by omega) h1 h2, if_neg Bool.false_ne_true]
    exact ih m f w (l - 1) (by omega) (by omega) h2

/-- It runs down, and does not fire. -/
theorem run_still (d : Nat) : ∀ (f w l : Int), d < l → l ≤ w → w ≤ 16 → tks d f true w l = (true, w, l - d, f) := by
  induction d with
  | zero => intro f w l hl h1 h2; simp [tks]
  | succ d ih =>
    intro f w l hl h1 h2
    rw [tks, tk_down (by omega) h1 h2, if_neg Bool.false_ne_true]
    simp only
    rw [ih f w (l - 1) (by omega) (by omega) h2, show l - 1 - (d : Int) = l - ((d + 1 : Nat) : Int) from by omega]

theorem fires (m : Nat) : ∀ (D : Nat) (f w : Int), (D : Int) = lg m w → 1 ≤ w → w ≤ 16 → ∃ a b, tks D f true w w = (true, a, b, f + m) := by
  induction m with
  | zero =>
    intro D f w hD h1 h2
    simp only [lg] at hD
    obtain rfl : D = 0 := by omega
    exact ⟨w, w, by simp [tks]⟩
  | succ m ih =>
    intro D f w hD h1 h2
    have hr := mn_rng h1 h2
    have hlr := lg_rng m _ hr.1 hr.2
    simp only [lg] at hD
    obtain ⟨e, he⟩ : ∃ e : Nat, w = e + 1 := ⟨(w - 1).toNat, by omega⟩
    obtain ⟨q, rfl⟩ : ∃ q, D = q + (e + 1) := ⟨D - (e + 1), by omega⟩
    rw [run_fire e q f w w he (by omega) h2]
    obtain ⟨a, b, h⟩ := ih q (f + 1) (mn (w + w) 16) (by omega) hr.1 hr.2
    exact ⟨a, b, by rw [h, show f + 1 + (m : Int) = f + ((m + 1 : Nat) : Int) from by omega]⟩

theorem fires_less (m : Nat) : ∀ (D : Nat) (f w : Int), (D : Int) = lg (m + 1) w - 1 → 1 ≤ w → w ≤ 16 → ∃ a b, tks D f true w w = (true, a, b, f + m) := by
  induction m with
  | zero =>
    intro D f w hD h1 h2
    simp only [lg] at hD
    exact ⟨w, w - D, by rw [run_still D f w w (by omega) (by omega) h2]; simp⟩
  | succ m ih =>
    intro D f w hD h1 h2
    have hr := mn_rng h1 h2
    have hlr := lg_rng (m + 1) _ hr.1 hr.2
    rw [lg] at hD
    obtain ⟨e, he⟩ : ∃ e : Nat, w = e + 1 := ⟨(w - 1).toNat, by omega⟩
    obtain ⟨q, rfl⟩ : ∃ q, D = q + (e + 1) := ⟨D - (e + 1), by omega⟩
    rw [run_fire e q f w w he (by omega) h2]
    obtain ⟨a, b, h⟩ := ih q (f + 1) (mn (w + w) 16) (by omega) hr.1 hr.2
    exact ⟨a, b, by rw [h, show f + 1 + (m : Int) = f + ((m + 1 : Nat) : Int) from by omega]⟩

theorem Longest_is (n : Int) (h0 : 0 ≤ n) (h1 : n ≤ 255) : timer_Longest.f 300 n = some (lg n.toNat 1) := by
  unfold timer_Longest.f
  rw [show mn (mx n 0) 10000 = n from by unfold mn mx; split <;> split <;> omega]
  rw [longest_run n.toNat _ 0 1 n 0 (by omega) (by omega) (by omega) (by omega) (by omega) (by omega) (by omega) (by omega)]; simp
theorem Ticks_full (n : Int) (h0 : 0 ≤ n) (h1 : n ≤ 255) : ∃ a b, (true, a, b, n) = tks (mn (mx (lg n.toNat 1) 0) 10000).toNat 0 true 1 1 := by
  have hlr := lg_rng n.toNat 1 (by omega) (by omega)
  rw [show mn (mx (lg n.toNat 1) 0) 10000 = lg n.toNat 1 from by unfold mn mx; split <;> split <;> omega]
  obtain ⟨a, b, h⟩ := fires n.toNat (lg n.toNat 1).toNat 0 1 (by omega) (by omega) (by omega)
  exact ⟨a, b, by rw [h]; simp; omega⟩
theorem Ticks_less (n : Int) (h0 : 0 ≤ n) (h1 : n ≤ 255) : ∃ a b, (true, a, b, if n - 1 < 0 then 0 else n - 1) = tks (mn (mx (lg n.toNat 1 - 1) 0) 10000).toNat 0 true 1 1 := by
  have hlr := lg_rng n.toNat 1 (by omega) (by omega)
  by_cases hn : n = 0
  · subst hn; exact ⟨1, 1, rfl⟩
  · obtain ⟨m, hm⟩ : ∃ m : Nat, n.toNat = m + 1 := ⟨n.toNat - 1, by omega⟩
    rw [hm] at hlr ⊢
    rw [show mn (mx (lg (m + 1) 1 - 1) 0) 10000 = lg (m + 1) 1 - 1 from by unfold mn mx; split <;> split <;> omega]
    obtain ⟨a, b, h⟩ := fires_less m (lg (m + 1) 1 - 1).toNat 0 1 (by omega) (by omega) (by omega)
    exact ⟨a, b, by rw [h, if_neg (by omega), show n - 1 = 0 + (m : Int) from by omega]⟩
end Go.Proofs.Ytlnehjhhkfjggaa.TimD
