import Derived.Test.YtbmdahhhgpbchaaOpG
namespace Go.Proofs.Ytbmdahhhgpbchaa.OpH
open Go Go.Sim Go.Sim.E Go.RowKit Go.Proofs Go.Proofs.Ytbmdahhhgpbchaa.Cod Go.Proofs.Ytbmdahhhgpbchaa.Tab Go.Proofs.Ytbmdahhhgpbchaa.Bse Go.Proofs.Ytbmdahhhgpbchaa.SpnP Go.Proofs.Ytbmdahhhgpbchaa.SwA Go.Proofs.Ytbmdahhhgpbchaa.SwB Go.Proofs.Ytbmdahhhgpbchaa.SwC Go.Proofs.Ytbmdahhhgpbchaa.SwS Go.Proofs.Ytbmdahhhgpbchaa.SwD Go.Proofs.Ytbmdahhhgpbchaa.SwF Go.Proofs.Ytbmdahhhgpbchaa.SwG Go.Proofs.Ytbmdahhhgpbchaa.SwL Go.Proofs.Ytbmdahhhgpbchaa.ObA Go.Proofs.Ytbmdahhhgpbchaa.ObB Go.Proofs.Ytbmdahhhgpbchaa.ObC Go.Proofs.Ytbmdahhhgpbchaa.OeP Go.Proofs.Ytbmdahhhgpbchaa.OeQ Go.Proofs.Ytbmdahhhgpbchaa.OeA Go.Proofs.Ytbmdahhhgpbchaa.OpA Go.Proofs.Ytbmdahhhgpbchaa.OpB Go.Proofs.Ytbmdahhhgpbchaa.OpC Go.Proofs.Ytbmdahhhgpbchaa.OpD Go.Proofs.Ytbmdahhhgpbchaa.OpE Go.Proofs.Ytbmdahhhgpbchaa.OpF Go.Proofs.Ytbmdahhhgpbchaa.OpG
set_option linter.unusedVariables false
set_option linter.unusedSimpArgs false
set_option maxRecDepth 100000
set_option maxHeartbeats 4000000
theorem rel_next {t f : Int} {cm ou : List Int} {s o : List Rg} (h : Rel t f cm ou s o) : ∀ (k : Nat) (a : Int), 0 ≤ a → (a % 256 = 0 ∨ t ≤ a) →
    (segG t (min t (endF (lim 0) s + 2048)) k a).find? (nxP s o) = (rnF t f cm ou (endF (lim 0) s) k a).map fun a => (a, min (a + 256) t)
  | 0, a, _, _ => rfl
  | k + 1, a, h0, ha => by
    rw [rnF]
    by_cases h1 : a < t ∧ a < endF (lim 0) s + 2048
    · have ham : a % 256 = 0 := by omega
      rw [segG_cons _ _ _ _ (by omega), if_pos h1]
      have e1 := h.cmh h0 h1.1 ham
      have e2 := h.ouh h0 h1.1 ham
      by_cases h2 : cmF f cm a = false ∧ a ∉ ou
      · rw [if_pos h2, List.find?_cons_of_pos]
        · rfl
        · have h3 : hasF o a = false := by
            cases h4 : hasF o a
            · rfl
            · exact absurd (e2.2 h4) h2.2
          show (!hasF s a && !hasF o a) = true
          rw [← e1, h2.1, h3]; rfl
      · rw [if_neg h2, List.find?_cons_of_neg]
        · exact rel_next h k (a + 256) (by omega) (by omega)
        · show ¬ (!hasF s a && !hasF o a) = true
          rw [← e1]
          intro hc
          simp only [Bool.and_eq_true, Bool.not_eq_true'] at hc
          exact h2 ⟨hc.1, fun hm => by rw [e2.1 hm] at hc; cases hc.2⟩
    · rw [segG_nil _ _ _ _ (by omega), if_neg h1]; rfl
theorem rel_nx {t f : Int} {cm ou : List Int} {s o : List Rg} (h : Rel t f cm ou s o) : nxF s o (segs t (endF (lim 0) s)) = (rnF t f cm ou (endF (lim 0) s) 9 (endF (lim 0) s)).map fun a => (a, min (a + 256) t) := by
  have b := (h.hs.base h.ht.1)
  exact rel_next h 9 _ b.1 (by have := h.bm; omega)
theorem rel_add {t f : Int} {cm ou : List Int} {s o : List Rg} (h : Rel t f cm ou s o) {a : Int} (h1 : endF (lim 0) s ≤ a) (h2 : a < t) (h3 : a < endF (lim 0) s + 2048) (h4 : a % 256 = 0) (h5 : a ∉ ou) :
    Rel t f cm (ou ++ [a]) s (addS o a (min (a + 256) t)) := by
  have ht := h.ht
  have b := (h.hs.base h.ht.1).1
  obtain ⟨c1, c2, _⟩ := h.ho.add (by omega : 0 ≤ t ∧ t ≤ 1099511627776) a (min (a + 256) t) (by omega)
  refine ⟨h.ht, h.hf, h.rk, h.hs, c1, h.mem, ?_, ?_, ?_⟩
  · rw [List.nodup_append]
    exact ⟨h.ond, by simp, fun x hx y hy => by rw [List.mem_singleton.1 hy]; exact fun e => h5 (e ▸ hx)⟩
  · intro x hx
    rcases List.mem_append.1 hx with hx | hx
    · exact h.oel x hx
    · rw [List.mem_singleton.1 hx]; exact ⟨h4, h1, h2, h3⟩
  · intro p hp1 hp2
    rw [c2 p, lim_id (by omega) (by omega), lim_id (by omega) (by omega), h.omem p hp1 hp2, List.mem_append, List.mem_singleton]
    have : sgb p = a ↔ (a ≤ p ∧ p < min (a + 256) t) := by unfold sgb; omega
    rw [this, or_comm]
theorem rel_poll {t f : Int} {cm : List Int} {s : List Rg} : ∀ (n : Nat) (ou : List Int) (o : List Rg), Rel t f cm ou s o →
    (rpF t f cm (endF (lim 0) s) n ou).1 = (pollF t s (endF (lim 0) s) n o).1 ∧ Rel t f cm (rpF t f cm (endF (lim 0) s) n ou).2 s (pollF t s (endF (lim 0) s) n o).2
  | 0, ou, o, h => ⟨rfl, h⟩
  | n + 1, ou, o, h => by
    have hn := rel_nx h
    rcases hq : rnF t f cm ou (endF (lim 0) s) 9 (endF (lim 0) s) with _ | a
    · rw [hq] at hn
      rw [rpF_none hq, pollF_none hn]
      exact ⟨rfl, h⟩
    · rw [hq] at hn
      have hn' : nxF s o (segs t (endF (lim 0) s)) = some (a, min (a + 256) t) := hn
      rw [rpF_some hq, pollF_some hn']
      obtain ⟨r1, r2, r3, r4⟩ := rnF_spec 9 _ a hq
      have sp := nx_spec hn'
      have sf := segG_form _ _ _ _ _ sp.1
      have bm := h.bm
      have h2 := rel_add h r1 r2 (by have := sp.2.2.2.1; exact this) (by simp only at sf; omega) r4
      obtain ⟨p1, p2⟩ := rel_poll n _ _ h2
      exact ⟨by rw [p1], p2⟩
/-! ### how many are out -/
theorem seg_mem (t e : Int) : ∀ (k : Nat) (b a : Int), b ≤ a → a < e → (a - b) % 256 = 0 → e ≤ b + 256 * (k : Int) → (a, min (a + 256) t) ∈ segG t e k b
  | 0, b, a, h1, h2, h3, h4 => by omega
  | k + 1, b, a, h1, h2, h3, h4 => by
    rw [segG_cons _ _ _ _ (by omega)]
    by_cases hc : a = b
    · subst hc; exact List.mem_cons_self ..
    · exact List.mem_cons_of_mem _ (seg_mem t e k (b + 256) a (by omega) h2 (by omega) (by omega))
theorem segG_nd (t e : Int) : ∀ (k : Nat) (b : Int), ((segG t e k b).map (·.1)).Nodup
  | 0, b => by simp [segG]
  | k + 1, b => by
    by_cases hc : b < e
    · rw [segG_cons _ _ _ _ hc, List.map_cons, List.nodup_cons]
      refine ⟨fun hm => ?_, segG_nd t e k _⟩
      obtain ⟨x, hx, e2⟩ := List.mem_map.1 hm
      have := segG_from _ _ _ _ x hx
      simp only at e2
      omega
    · rw [segG_nil _ _ _ _ hc]; simp
theorem count_one (a : Int) : ∀ l : List Int, l.Nodup → a ∈ l → l.countP (fun x => decide (x = a)) = 1
  | x :: l, hn, hm => by
    have hn' := List.nodup_cons.1 hn
    rw [List.countP_cons]
    rcases List.mem_cons.1 hm with rfl | hm
    · have : l.countP (fun x => decide (x = a)) = 0 := List.countP_eq_zero.2 (fun x hx => by simp; exact fun e => hn'.1 (e ▸ hx))
      rw [this]; simp
    · have hxa : x ≠ a := fun e => hn'.1 (e ▸ hm)
      rw [count_one a l hn'.2 hm]; simp [hxa]
theorem count_sub (l : List Int) (hl : l.Nodup) : ∀ m : List Int, m.Nodup → (∀ a ∈ m, a ∈ l) → l.countP (fun x => decide (x ∈ m)) = m.length
  | [], _, _ => by simp
  | a :: m, hn, hs => by
    have hn' := List.nodup_cons.1 hn
    have ih := count_sub l hl m hn'.2 (fun x hx => hs x (List.mem_cons_of_mem _ hx))
    have e : l.countP (fun x => decide (x ∈ a :: m)) = l.countP (fun x => decide (x = a) || decide (x ∈ m)) := by
      refine List.countP_congr (fun x _ => ?_)
      simp
    rw [e, countP_or, count_one a l hl (hs a (List.mem_cons_self ..)), ih, List.length_cons]
    · omega
    · intro x _ ⟨h1, h2⟩
      simp only [decide_eq_true_eq] at h1 h2
      exact hn'.1 (h1 ▸ h2)
theorem rel_out {t f : Int} {cm ou : List Int} {s o : List Rg} (h : Rel t f cm ou s o) : cntF o (segs t (endF (lim 0) s)) = ou.length := by
  have b := (h.hs.base h.ht.1).1
  have bm := h.bm
  have e : cntF o (segs t (endF (lim 0) s)) = ((segs t (endF (lim 0) s)).map (·.1)).countP (fun x => decide (x ∈ ou)) := by
    rw [List.countP_map]
    unfold cntF
    refine List.countP_congr (fun x hx => ?_)
    have h1 := segG_from _ _ _ _ x hx
    have h2 := segG_form _ _ _ _ x hx
    have := h.ouh (a := x.1) (by omega) (by omega) (by omega)
    simp only [Function.comp, decide_eq_true_eq]
    exact this.symm
  rw [e]
  refine count_sub _ (segG_nd _ _ _ _) ou h.ond (fun a ha => ?_)
  have := h.oel a ha
  exact List.mem_map.2 ⟨(a, min (a + 256) t), seg_mem t _ 9 _ a (by omega) (by omega) (by omega) (by omega), rfl⟩
end Go.Proofs.Ytbmdahhhgpbchaa.OpH
