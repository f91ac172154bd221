import Derived.Test.YtbmdahhhgpbchaaOeP
namespace Go.Proofs.Ytbmdahhhgpbchaa.OeQ
open Go Go.Sim Go.Sim.E Go.RowKit Go.Proofs Go.Proofs.Ytbmdahhhgpbchaa.Cod Go.Proofs.Ytbmdahhhgpbchaa.Tab Go.Proofs.Ytbmdahhhgpbchaa.Bse Go.Proofs.Ytbmdahhhgpbchaa.SpnP Go.Proofs.Ytbmdahhhgpbchaa.SwA Go.Proofs.Ytbmdahhhgpbchaa.SwB Go.Proofs.Ytbmdahhhgpbchaa.SwC Go.Proofs.Ytbmdahhhgpbchaa.SwS Go.Proofs.Ytbmdahhhgpbchaa.SwD Go.Proofs.Ytbmdahhhgpbchaa.SwF Go.Proofs.Ytbmdahhhgpbchaa.SwG Go.Proofs.Ytbmdahhhgpbchaa.SwL Go.Proofs.Ytbmdahhhgpbchaa.ObA Go.Proofs.Ytbmdahhhgpbchaa.ObB Go.Proofs.Ytbmdahhhgpbchaa.ObC Go.Proofs.Ytbmdahhhgpbchaa.OeP
set_option linter.unusedVariables false
set_option linter.unusedSimpArgs false
set_option maxRecDepth 100000
set_option maxHeartbeats 4000000
theorem poll_stop {t b : Int} {s : List Rg} : ∀ (n : Nat) (o : List Rg), (pollF t s b n o).1.length < n → nxF s (pollF t s b n o).2 (segs t b) = none
  | 0, o, h => by simp at h
  | n + 1, o, h => by
    rcases hq : nxF s o (segs t b) with _ | r
    · rw [pollF_none hq]; exact hq
    · rw [pollF_some hq] at h ⊢
      exact poll_stop n _ (by simpa using h)
theorem nx_not {t b : Int} {s o : List Rg} {r : Rg} (h : nxF s o (segs t b) = some r) : hasF s r.1 = false := by
  have h2 := List.find?_some h
  simp only [nxP, Bool.and_eq_true, Bool.not_eq_true'] at h2
  exact h2.1
theorem segG_form (t e : Int) : ∀ (k : Nat) (a : Int), ∀ r ∈ segG t e k a, (r.1 - a) % 256 = 0
  | 0, a, r, h => by cases h
  | k + 1, a, r, h => by
    by_cases hc : a < e
    · rw [segG_cons _ _ _ _ hc] at h
      rcases List.mem_cons.1 h with rfl | h
      · simp
      · have := segG_form t e k (a + 256) r h
        omega
    · rw [segG_nil _ _ _ _ hc] at h; cases h
/-- Each piece is a whole segment that did not come. -/
theorem poll_each {t b : Int} {s : List Rg} : ∀ (n : Nat) (o : List Rg), ∀ r ∈ (pollF t s b n o).1, hasF s r.1 = false ∧ b ≤ r.1 ∧ r.1 < t ∧ r.2 = min (r.1 + 256) t ∧ (r.1 - b) % 256 = 0
  | 0, o, r, h => by cases h
  | n + 1, o, r, h => by
    rcases hq : nxF s o (segs t b) with _ | q
    · rw [pollF_none hq] at h; cases h
    · rw [pollF_some hq] at h
      rcases List.mem_cons.1 h with rfl | h
      · have hm := (nx_spec hq).1
        have := segG_from _ _ _ _ _ hm
        have := segG_form _ _ _ _ _ hm
        have := (nx_spec hq).2.2.2
        exact ⟨nx_not hq, by omega, by omega, by omega, by omega⟩
      · exact poll_each n _ r h
theorem poll_some {t b : Int} {s : List Rg} (hb : b < t) (hn : hasF s b = false) (n : Nat) : (pollF t s b (n + 1) []).1 ≠ [] := by
  have hq : ∃ r, nxF s [] (segs t b) = some r := by
    have e : segs t b = (b, min (b + 256) t) :: segG t (min t (b + 2048)) 8 (b + 256) := segG_cons _ _ _ _ (by omega)
    refine ⟨(b, min (b + 256) t), ?_⟩
    rw [e]
    unfold nxF
    rw [List.find?_cons_of_pos]
    show (!hasF s b && !hasF [] b) = true
    rw [hn]; rfl
  obtain ⟨r, hq⟩ := hq
  rw [pollF_some hq]
  simp
theorem poll_end (t : Int) (s o : List Rg) (n : Nat) : pollF t s t n o = ([], o) := pollF_none (by rw [segs_self]; rfl) n
/-- What is acknowledged: one segment. -/
theorem ac_one {t : Int} {s : List Rg} {y : Rg} (ht : 0 ≤ t ∧ t ≤ 20000) (hs : Ok t s) (hg : Sg t s) (h1 : endF (lim 0) s ≤ y.1) (h2 : y.1 < t) (h3 : (y.1 - endF (lim 0) s) % 256 = 0) (h4 : y.2 = min (y.1 + 256) t) (hn : hasF s y.1 = false) :
    Ok t (acS t s (endF (lim 0) s) [y]) ∧ Sg t (acS t s (endF (lim 0) s) [y]) ∧ Ph t (acS t s (endF (lim 0) s) [y]) < Ph t s ∧ acM t s (endF (lim 0) s) [y] = true := by
  have b := hs.base ht.1
  have g := hg.base hs ht.1
  have ht' : 0 ≤ t ∧ t ≤ 1099511627776 := by omega
  have h3' : y.1 % 256 = 0 := by omega
  have p0 : plF t (endF (lim 0) s) = true := (plF_iff _ _).2 ⟨b.1, b.2.1, .inl (by rw [Int.tmod_eq_emod_of_nonneg b.1]; omega)⟩
  have p1 : plF t y.1 = true := (plF_iff _ _).2 ⟨by omega, by omega, .inl (by rw [Int.tmod_eq_emod_of_nonneg (by omega)]; exact h3')⟩
  have p2 : plF t y.2 = true := (plF_iff _ _).2 ⟨by omega, by omega, by
    by_cases hc : y.1 + 256 ≤ t
    · left; rw [Int.tmod_eq_emod_of_nonneg (by omega)]; omega
    · right; omega⟩
  have hB : acB t s (endF (lim 0) s) = true := by simp [acB, p0]
  have e : acS t s (endF (lim 0) s) [y] = addS (addS s 0 (endF (lim 0) s)) y.1 y.2 := by
    unfold acS akF
    rw [if_pos hB]
    simp [ak1, p1, p2, h1]
  obtain ⟨a1, a2, a3⟩ := hs.add ht' 0 (endF (lim 0) s) b.2.1
  obtain ⟨c1, c2, c3⟩ := a1.add ht' y.1 y.2 (by omega)
  rw [← e] at c1 c2 c3
  have hm : ∀ p, mem (acS t s (endF (lim 0) s) [y]) p ↔ (y.1 ≤ p ∧ p < y.2) ∨ mem s p := by
    intro p
    rw [c2 p, a2 p, lim_id (by omega) (by omega), lim_id (by omega) (by omega), lim_id b.1 (by omega), show lim 0 = 0 from rfl]
    constructor
    · rintro (h | h | h)
      · exact .inl h
      · exact .inr (b.2.2.1 p h.1 h.2)
      · exact .inr h
    · rintro (h | h)
      · exact .inl h
      · exact .inr (.inr h)
  obtain ⟨m1, m2, m3⟩ := more ht.1 hs c1 hg (by omega) h2 h3' h4 (not_hasF.1 hn) hm
  refine ⟨c1, m1, m2, ?_⟩
  unfold acM
  rw [hB]
  have eq : acS t s (endF (lim 0) s) [y] = akF t (endF (lim 0) s) s [y] := by unfold acS; rw [if_pos hB]
  rw [← eq, c1.left ht', hs.left ht']
  simp only [Bool.true_and, decide_eq_true_eq]
  omega
end Go.Proofs.Ytbmdahhhgpbchaa.OeQ
