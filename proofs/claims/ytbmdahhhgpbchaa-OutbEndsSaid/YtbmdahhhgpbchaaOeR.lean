import Derived.Test.YtbmdahhhgpbchaaOeQ
namespace Go.Proofs.Ytbmdahhhgpbchaa.OeR
open Go Go.Sim Go.Sim.E Go.RowKit Go.Proofs Go.Proofs.Ytbmdahhhgpbchaa.Cod Go.Proofs.Ytbmdahhhgpbchaa.Tab Go.Proofs.Ytbmdahhhgpbchaa.Bse Go.Proofs.Ytbmdahhhgpbchaa.SpnP Go.Proofs.Ytbmdahhhgpbchaa.SwA Go.Proofs.Ytbmdahhhgpbchaa.SwB Go.Proofs.Ytbmdahhhgpbchaa.SwC Go.Proofs.Ytbmdahhhgpbchaa.SwS Go.Proofs.Ytbmdahhhgpbchaa.SwD Go.Proofs.Ytbmdahhhgpbchaa.SwF Go.Proofs.Ytbmdahhhgpbchaa.SwG Go.Proofs.Ytbmdahhhgpbchaa.SwL Go.Proofs.Ytbmdahhhgpbchaa.ObA Go.Proofs.Ytbmdahhhgpbchaa.ObB Go.Proofs.Ytbmdahhhgpbchaa.ObC Go.Proofs.Ytbmdahhhgpbchaa.OeP Go.Proofs.Ytbmdahhhgpbchaa.OeQ
set_option linter.unusedVariables false
set_option linter.unusedSimpArgs false
set_option maxRecDepth 100000
set_option maxHeartbeats 4000000
theorem otF_ok {t : Int} {s o : List Rg} {T : Tm} (ho : Ok t o) : Ok t (otF t s o T) := by
  unfold otF
  split
  · exact Ok.nil t
  · exact ho
def tw2 : Tm := (true, 2, 2)
def tw1 : Tm := (true, 2, 1)
/-- What holds ahead of a round; k rounds are left. -/
def EInv (t : Int) (k : Nat) (s o : List Rg) (T : Tm) (c : Nat) : Prop :=
  Ok t s ∧ Ok t o ∧ TOk T ∧ Sg t s ∧
  ((endF (lim 0) s = t ∧ T = offT) ∨
   (endF (lim 0) s < t ∧ o = [] ∧ c % 2 = 1 ∧ T.1 = true ∧ 3 * Ph t s ≤ k) ∨
   (endF (lim 0) s < t ∧ o = [] ∧ c % 2 = 0 ∧ T = tw2 ∧ 3 * Ph t s + 2 ≤ k) ∨
   (endF (lim 0) s < t ∧ nxF s o (segs t (endF (lim 0) s)) = none ∧ c % 2 = 1 ∧ T = tw1 ∧ 3 * Ph t s + 1 ≤ k) ∨
   (endF (lim 0) s < t ∧ o = [] ∧ c % 2 = 0 ∧ T = oneT ∧ 3 * Ph t s + 1 ≤ k))
theorem EInv.some {t : Int} {s : List Rg} (ht : 0 ≤ t) (hs : Ok t s) (hb : endF (lim 0) s < t) : (pollF t s (endF (lim 0) s) 9 []).1 ≠ [] :=
  poll_some hb (not_hasF.2 (hs.base ht).2.2.2) 8
theorem EInv.zero {t : Int} {s o : List Rg} {T : Tm} {c : Nat} (ht : 0 ≤ t) (h : EInv t 0 s o T c) : endF (lim 0) s = t ∧ T = offT := by
  obtain ⟨hs, ho, hT, hg, h⟩ := h
  have hz : endF (lim 0) s < t → Ph t s ≠ 0 := fun hb hz => by have := Ph_zero hg hs ht hz; omega
  rcases h with h | ⟨h1, _, _, _, h2⟩ | ⟨h1, _, _, _, h2⟩ | ⟨h1, _, _, _, h2⟩ | ⟨h1, _, _, _, h2⟩
  · exact h
  · exact absurd (by omega) (hz h1)
  · omega
  · omega
  · omega
theorem EInv.none {t : Int} {k : Nat} {s o : List Rg} {T : Tm} {c : Nat} (ht : 0 ≤ t ∧ t ≤ 1099511627776) (h : EInv t (k + 1) s o T c) (hp : (pollF t s (endF (lim 0) s) 9 o).1 = []) :
    EInv t k s (otF t s (pollF t s (endF (lim 0) s) 9 o).2 T) (tkF T).1 c := by
  obtain ⟨hs, ho, hT, hg, h⟩ := h
  have ho2 := (poll_ok (s := s) (b := endF (lim 0) s) ht 9 o ho).1
  rcases h with ⟨h1, rfl⟩ | ⟨h1, rfl, _⟩ | ⟨h1, rfl, _⟩ | ⟨h1, h3, h4, rfl, h5⟩ | ⟨h1, rfl, _⟩
  · exact ⟨hs, otF_ok ho2, hT.tick, hg, .inl ⟨h1, rfl⟩⟩
  · exact absurd hp (EInv.some ht.1 hs h1)
  · exact absurd hp (EInv.some ht.1 hs h1)
  · exact ⟨hs, otF_ok ho2, hT.tick, hg, .inr (.inl ⟨h1, rfl, h4, rfl, by omega⟩)⟩
  · exact absurd hp (EInv.some ht.1 hs h1)
theorem EInv.even {t : Int} {k : Nat} {s o : List Rg} {T : Tm} {c : Nat} (ht : 0 ≤ t ∧ t ≤ 1099511627776) (h : EInv t (k + 1) s o T c) (hp : (pollF t s (endF (lim 0) s) 9 o).1 ≠ []) (hc : c % 2 = 0) :
    EInv t k s (otF t s (pollF t s (endF (lim 0) s) 9 o).2 T) (tkF T).1 (c + 1) := by
  obtain ⟨hs, ho, hT, hg, h⟩ := h
  have ho2 := (poll_ok (s := s) (b := endF (lim 0) s) ht 9 o ho).1
  have hl := poll_len (s := s) ht (hs.base ht.1).1 ho 9
  rcases h with ⟨h1, rfl⟩ | ⟨h1, rfl, h4, _⟩ | ⟨h1, rfl, h4, rfl, h5⟩ | ⟨h1, h3, h4, _⟩ | ⟨h1, rfl, h4, rfl, h5⟩
  · rw [h1, poll_end] at hp; exact absurd rfl hp
  · omega
  · exact ⟨hs, otF_ok ho2, hT.tick, hg, .inr (.inr (.inr (.inl ⟨h1, poll_stop 9 [] (by omega), by omega, rfl, by omega⟩)))⟩
  · omega
  · exact ⟨hs, otF_ok ho2, hT.tick, hg, .inr (.inl ⟨h1, rfl, by omega, rfl, by omega⟩)⟩
theorem EInv.odd {t : Int} {k : Nat} {s o : List Rg} {T : Tm} {c : Nat} {y : Rg} (ht : 0 ≤ t ∧ t ≤ 20000) (h : EInv t (k + 1) s o T c) (hy : y ∈ (pollF t s (endF (lim 0) s) 9 o).1) (hc : c % 2 = 1)
    (O : List Rg) (hO : Ok t O) :
    EInv t k (acS t s (endF (lim 0) s) [y]) (otF t (acS t s (endF (lim 0) s) [y]) O (acT t s (endF (lim 0) s) [y] T)) (tkF (acT t s (endF (lim 0) s) [y] T)).1 (c + 1) := by
  obtain ⟨hs, ho, hT, hg, h⟩ := h
  obtain ⟨e1, e2, e3, e4, e5⟩ := poll_each 9 o y hy
  rcases h with ⟨h1, rfl⟩ | ⟨h1, rfl, h4, h6, h5⟩ | ⟨h1, rfl, h4, _⟩ | ⟨h1, h3, h4, _⟩ | ⟨h1, rfl, h4, _⟩
  · rw [h1, poll_end] at hy; cases hy
  · obtain ⟨a1, a2, a3, a4⟩ := ac_one ht hs hg e2 e3 e5 e4 e1
    have eT : acT t s (endF (lim 0) s) [y] T = tmF t (acS t s (endF (lim 0) s) [y]) oneT := by
      unfold acT agF
      rw [if_pos a4, if_pos h6]
    rw [eT]
    generalize acS t s (endF (lim 0) s) [y] = S at *
    have hl := a1.left (by omega : 0 ≤ t ∧ t ≤ 1099511627776)
    have hd := a1.done ht.1
    have hbS := a1.base ht.1
    by_cases hz : lfF t S = 0
    · have e : tmF t S oneT = offT := if_pos hz
      rw [e]
      exact ⟨a1, otF_ok hO, TOk.off, a2, .inl ⟨hd.1 (by omega), rfl⟩⟩
    · have e : tmF t S oneT = oneT := if_neg hz
      rw [e]
      have hb2 : endF (lim 0) S < t := by
        have : ¬ endF (lim 0) S = t := fun hc => hz (by rw [hl]; exact hd.2 hc)
        omega
      exact ⟨a1, otF_ok hO, .inr ⟨rfl, by decide, by decide, by decide⟩, a2, .inr (.inr (.inl ⟨hb2, rfl, by omega, rfl, by omega⟩))⟩
  · omega
  · rw [pollF_none h3] at hy; cases hy
  · omega
theorem Ph_le (t : Int) (s : List Rg) (ht : t ≤ 3000) : Ph t s ≤ 12 := by
  have := List.countP_le_length (p := fun j : Nat => !hasF s (256 * (j : Int))) (l := List.range ((t.toNat + 255) / 256))
  rw [List.length_range] at this
  unfold Ph
  omega
theorem EInv.start {t : Int} (ht : 0 ≤ t ∧ t ≤ 3000) : EInv t 1000 [] [] (tmF t [] oneT) 0 := by
  have h0 : endF (lim 0) [] = 0 := rfl
  have hl := (Ok.nil t).left (by omega : 0 ≤ t ∧ t ≤ 1099511627776)
  have hp := Ph_le t [] ht.2
  refine ⟨Ok.nil t, Ok.nil t, TOk.timed TOk.one, fun p q _ _ _ _ _ h => absurd h (mem_nil p), ?_⟩
  by_cases hz : t = 0
  · left
    refine ⟨by rw [h0, hz], if_pos ?_⟩
    rw [hl]; simp [sz]; omega
  · right; right; right; right
    refine ⟨by rw [h0]; omega, rfl, rfl, if_neg ?_, by omega⟩
    rw [hl]; simp [sz]; omega
end Go.Proofs.Ytbmdahhhgpbchaa.OeR
