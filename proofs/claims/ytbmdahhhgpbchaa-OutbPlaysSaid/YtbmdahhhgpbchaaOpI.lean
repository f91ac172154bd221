import Derived.Test.YtbmdahhhgpbchaaOpH
namespace Go.Proofs.Ytbmdahhhgpbchaa.OpI
open Go Go.Sim Go.Sim.E Go.RowKit Go.Proofs Go.Proofs.Ytbmdahhhgpbchaa.Cod Go.Proofs.Ytbmdahhhgpbchaa.Tab Go.Proofs.Ytbmdahhhgpbchaa.Bse Go.Proofs.Ytbmdahhhgpbchaa.SpnP Go.Proofs.Ytbmdahhhgpbchaa.SwA Go.Proofs.Ytbmdahhhgpbchaa.SwB Go.Proofs.Ytbmdahhhgpbchaa.SwC Go.Proofs.Ytbmdahhhgpbchaa.SwS Go.Proofs.Ytbmdahhhgpbchaa.SwD Go.Proofs.Ytbmdahhhgpbchaa.SwF Go.Proofs.Ytbmdahhhgpbchaa.SwG Go.Proofs.Ytbmdahhhgpbchaa.SwL Go.Proofs.Ytbmdahhhgpbchaa.ObA Go.Proofs.Ytbmdahhhgpbchaa.ObB Go.Proofs.Ytbmdahhhgpbchaa.ObC Go.Proofs.Ytbmdahhhgpbchaa.OeP Go.Proofs.Ytbmdahhhgpbchaa.OeQ Go.Proofs.Ytbmdahhhgpbchaa.OeA Go.Proofs.Ytbmdahhhgpbchaa.OpA Go.Proofs.Ytbmdahhhgpbchaa.OpB Go.Proofs.Ytbmdahhhgpbchaa.OpC Go.Proofs.Ytbmdahhhgpbchaa.OpD Go.Proofs.Ytbmdahhhgpbchaa.OpE Go.Proofs.Ytbmdahhhgpbchaa.OpF Go.Proofs.Ytbmdahhhgpbchaa.OpG Go.Proofs.Ytbmdahhhgpbchaa.OpH
set_option linter.unusedVariables false
set_option linter.unusedSimpArgs false
set_option maxRecDepth 100000
set_option maxHeartbeats 4000000
theorem wt_mem {t f to : Int} (hf : f % 256 = 0 ∨ f = t) (hto : to ≤ t) (htm : to % 256 = 0 ∨ to = t) : ∀ (k : Nat) (cm : List Int) (a : Int), to - a ≤ 256 * (k : Int) → (a % 256 = 0 ∨ to ≤ a) →
    ∀ p, 0 ≤ p → p < t → ((p < f ∨ sgb p ∈ wtF f k cm a to) ↔ (a ≤ p ∧ p < to) ∨ (p < f ∨ sgb p ∈ cm))
  | 0, cm, a, hk, ha, p, hp1, hp2 => by
    have : ¬ (a ≤ p ∧ p < to) := by omega
    simp [wtF, this]
  | k + 1, cm, a, hk, ha, p, hp1, hp2 => by
    rw [wtF]
    by_cases h1 : a < to
    · rw [if_pos h1]
      have ih := wt_mem hf hto htm k (if cmF f cm a = true then cm else cm ++ [a]) (a + 256) (by omega) (by omega) p hp1 hp2
      rw [ih]
      have hsg : sgb p = a ↔ (a ≤ p ∧ p < a + 256) := by unfold sgb; omega
      have hin : (a ≤ p ∧ p < a + 256) → p < to := by omega
      by_cases h2 : cmF f cm a = true
      · rw [if_pos h2]
        have h3 : a < f ∨ a ∈ cm := by simpa [cmF] using h2
        constructor
        · rintro (h | h)
          · exact .inl (by omega)
          · exact .inr h
        · rintro (h | h)
          · by_cases h4 : p < a + 256
            · right
              rcases h3 with h3 | h3
              · left; omega
              · right; rw [hsg.2 ⟨h.1, h4⟩]; exact h3
            · left; omega
          · exact .inr h
      · rw [if_neg h2, List.mem_append, List.mem_singleton, hsg]
        constructor
        · rintro (h | h | h | h)
          · exact .inl (by omega)
          · exact .inr (.inl h)
          · exact .inr (.inr h)
          · exact .inl ⟨h.1, hin h⟩
        · rintro (h | h | h)
          · by_cases h4 : p < a + 256
            · exact .inr (.inr (.inr ⟨h.1, h4⟩))
            · left; omega
          · exact .inr (.inl h)
          · exact .inr (.inr (.inl h))
    · rw [if_neg h1]
      have : ¬ (a ≤ p ∧ p < to) := by omega
      simp [this]
/-- What came, both ways. -/
structure Ra (t f : Int) (cm : List Int) (s : List Rg) : Prop where
  rk : RK t f cm
  hs : Ok t s
  mem : ∀ p, 0 ≤ p → p < t → (SpnP.mem s p ↔ p < f ∨ sgb p ∈ cm)
theorem ra_cmh {t f : Int} {cm : List Int} {s : List Rg} (h : Ra t f cm s) {a : Int} (h0 : 0 ≤ a) (h1 : a < t) (h2 : a % 256 = 0) : cmF f cm a = hasF s a := by
  have e := (h.mem a h0 h1).trans (by rw [sgb_self h2])
  have e2 : cmF f cm a = true ↔ hasF s a = true := by
    rw [hasF_mem, e]; simp [cmF]
  cases h3 : cmF f cm a <;> cases h4 : hasF s a <;> simp_all
theorem ra_add {t f : Int} {cm : List Int} {s : List Rg} (ht : 0 ≤ t ∧ t ≤ 20000) (hf : f % 256 = 0 ∨ f = t) (h : Ra t f cm s) {a b : Int} (pa : plF t a = true) (pb : plF t b = true) : Ra t f (wtF f 100 cm a b) (addS s a b) := by
  have p1 := plF_mod pa
  have p2 := plF_mod pb
  obtain ⟨c1, c2, _⟩ := h.hs.add (by omega : 0 ≤ t ∧ t ≤ 1099511627776) a b p2.2.1
  refine ⟨wtF_ok b p2.2.1 100 cm a h.rk (by omega), c1, fun p hp1 hp2 => ?_⟩
  rw [c2 p, lim_id (by omega) (by omega), lim_id (by omega) (by omega), wt_mem hf p2.2.1 p2.2.2 100 cm a (by omega) (by omega) p hp1 hp2, h.mem p hp1 hp2]
theorem ra_all {t f off : Int} {cm : List Int} {s : List Rg} (ht : 0 ≤ t ∧ t ≤ 20000) (hf0 : 0 ≤ f) (hf : f % 256 = 0 ∨ f = t) (h : Ra t f cm s) (po : plF t off = true) (l : List Rg) : Ra t f (akR t off f cm l) (akF t off s l) := by
  have p0 := plF_mod po
  have step : ∀ (l : List Rg) (c : List Int) (S : List Rg), Ra t f c S → Ra t f (l.foldl (ak1R t off f) c) (l.foldl (ak1 t off) S) := by
    intro l
    induction l with
    | nil => intro c S h; exact h
    | cons r l ih =>
      intro c S h
      refine ih _ _ ?_
      unfold ak1R ak1
      split
      · rename_i hc
        simp only [Bool.and_eq_true] at hc
        exact ra_add ht hf h hc.1 hc.2.1
      · exact h
  refine step l _ _ ?_
  obtain ⟨c1, c2, _⟩ := h.hs.add (by omega : 0 ≤ t ∧ t ≤ 1099511627776) 0 off p0.2.1
  refine ⟨wtF_ok off p0.2.1 100 cm f h.rk (by omega), c1, fun p hp1 hp2 => ?_⟩
  rw [c2 p, show lim 0 = 0 from rfl, lim_id (by omega) (by omega)]
  by_cases hc : f ≤ off
  · rw [wt_mem hf p0.2.1 p0.2.2 100 cm f (by omega) (by omega) p hp1 hp2, h.mem p hp1 hp2]
    constructor
    · rintro (h1 | h1 | h1)
      · by_cases h2 : p < f
        · exact .inr (.inl h2)
        · exact .inl ⟨by omega, h1.2⟩
      · exact .inr (.inl h1)
      · exact .inr (.inr h1)
    · rintro (h1 | h1 | h1)
      · exact .inl ⟨hp1, h1.2⟩
      · exact .inr (.inl h1)
      · exact .inr (.inr h1)
  · have e : wtF f 100 cm f off = cm := by rw [wtF, if_neg (by omega)]
    rw [e, h.mem p hp1 hp2]
    constructor
    · rintro (h1 | h1)
      · exact .inl (by omega)
      · exact h1
    · exact .inr
theorem st_mem {t : Int} {S o : List Rg} (ht : 0 ≤ t ∧ t ≤ 1099511627776) : ∀ (xs acc : List Rg), (∀ x ∈ xs, 0 ≤ x.1 ∧ x.1 ≤ x.2 ∧ x.2 ≤ t) → Ok t acc →
    ∀ p, SpnP.mem (xs.foldl (stF1 S o) acc) p ↔ SpnP.mem acc p ∨ ∃ x ∈ xs, hasF o x.1 = true ∧ hasF S x.1 = false ∧ x.1 ≤ p ∧ p < x.2
  | [], acc, _, _, p => by simp
  | x :: xs, acc, hx, ha, p => by
    have hx0 := hx x (List.mem_cons_self ..)
    rw [List.foldl_cons]
    by_cases hc : (hasF o x.1 && !hasF S x.1) = true
    · rw [show stF1 S o acc x = addS acc x.1 x.2 from if_pos hc]
      obtain ⟨c1, c2, _⟩ := ha.add ht x.1 x.2 hx0.2.2
      rw [st_mem ht xs _ (fun y hy => hx y (List.mem_cons_of_mem _ hy)) c1 p, c2 p, lim_id (by omega) (by omega), lim_id (by omega) (by omega)]
      simp only [Bool.and_eq_true, Bool.not_eq_true'] at hc
      constructor
      · rintro ((h | h) | ⟨y, hy, h⟩)
        · exact .inr ⟨x, List.mem_cons_self .., hc.1, hc.2, h.1, h.2⟩
        · exact .inl h
        · exact .inr ⟨y, List.mem_cons_of_mem _ hy, h⟩
      · rintro (h | ⟨y, hy, h⟩)
        · exact .inl (.inr h)
        · rcases List.mem_cons.1 hy with rfl | hy
          · exact .inl (.inl ⟨h.2.2.1, h.2.2.2⟩)
          · exact .inr ⟨y, hy, h⟩
    · rw [show stF1 S o acc x = acc from if_neg hc, st_mem ht xs _ (fun y hy => hx y (List.mem_cons_of_mem _ hy)) ha p]
      constructor
      · rintro (h | ⟨y, hy, h⟩)
        · exact .inl h
        · exact .inr ⟨y, List.mem_cons_of_mem _ hy, h⟩
      · rintro (h | ⟨y, hy, h⟩)
        · exact .inl h
        · rcases List.mem_cons.1 hy with rfl | hy
          · exact absurd (by simp [h.1, h.2.1]) hc
          · exact .inr ⟨y, hy, h⟩
theorem rel_ack1 {t f off : Int} {cm ou : List Int} {s o : List Rg} (h : Rel t f cm ou s o) (l : List Rg) (po : plF t off = true) :
    Rel t f (akR t off f cm l) (ou.filter fun a => !cmF f (akR t off f cm l) a) (akF t off s l) (stF (akF t off s l) o (segs t (endF (lim 0) (akF t off s l)))) := by
  have ht := h.ht
  have ht' : 0 ≤ t ∧ t ≤ 1099511627776 := by omega
  have hr := ra_all (off := off) ht h.hf.1 h.hf.2.2 ⟨h.rk, h.hs, h.mem⟩ po l
  have hmono := (ak_ok (off := off) ht' h.hs (plF_mod po).2.1 l).2.1
  have hb := base_mono ht.1 h.hs hr.hs hmono
  have b0 := h.hs.base ht.1
  generalize akR t off f cm l = C at *
  generalize akF t off s l = S at *
  have b1 := hr.hs.base ht.1
  have hnc : ∀ a ∈ ou, cmF f C a = false → a % 256 = 0 ∧ endF (lim 0) S ≤ a ∧ a < t ∧ a < endF (lim 0) S + 2048 := by
    intro a ha hc
    have he := h.oel a ha
    rw [ra_cmh hr (by omega) he.2.2.1 he.1] at hc
    have hn := not_hasF.1 hc
    refine ⟨he.1, ?_, he.2.2.1, by omega⟩
    apply Decidable.byContradiction
    intro hlt
    exact hn (b1.2.2.1 a (by omega) (by omega))
  have hsegs : ∀ x ∈ segs t (endF (lim 0) S), 0 ≤ x.1 ∧ x.1 ≤ x.2 ∧ x.2 ≤ t := fun x hx => by
    have := segG_from _ _ _ _ x hx
    omega
  have bm : endF (lim 0) S % 256 = 0 ∨ endF (lim 0) S = t := by
    refine Sg.base ?_ hr.hs ht.1
    intro p q hp1 hp2 hq1 hq2 e hm
    have hf := h.hf
    have e2 : sgb p = sgb q := by unfold sgb; rw [e]
    rcases (hr.mem p hp1 hp2).1 hm with hm | hm
    · refine (hr.mem q hq1 hq2).2 (.inl ?_)
      rcases hf.2.2 with h2 | h2 <;> omega
    · exact (hr.mem q hq1 hq2).2 (.inr (e2 ▸ hm))
  refine ⟨ht, h.hf, hr.rk, hr.hs, stF_ok ht', hr.mem, h.ond.filter _, ?_, ?_⟩
  · intro a ha
    have ha := List.mem_filter.1 ha
    exact hnc a ha.1 (by simpa using ha.2)
  · intro p hp1 hp2
    unfold stF
    rw [st_mem ht' _ [] hsegs (Ok.nil t) p]
    constructor
    · rintro (hm | ⟨x, hx, h1, h2, h3, h4⟩)
      · exact absurd hm (mem_nil p)
      · have g1 := segG_from _ _ _ _ x hx
        have g2 := segG_form _ _ _ _ x hx
        have hxm : x.1 % 256 = 0 := by omega
        have e : sgb p = x.1 := by unfold sgb; omega
        rw [e]
        refine List.mem_filter.2 ⟨(h.ouh (by omega) (by omega) hxm).2 h1, ?_⟩
        rw [ra_cmh hr (by omega) (by omega) hxm, h2]; rfl
    · intro hm
      have hm := List.mem_filter.1 hm
      have hc : cmF f C (sgb p) = false := by simpa using hm.2
      have hq := hnc _ hm.1 hc
      have hp : sgb p ≤ p ∧ p < sgb p + 256 := by unfold sgb; omega
      right
      refine ⟨(sgb p, min (sgb p + 256) t), seg_mem t _ 9 _ _ hq.2.1 (by omega) (by omega) (by omega), (h.ouh (by omega) hq.2.2.1 hq.1).1 hm.1, ?_, hp.1, by show p < min (sgb p + 256) t; omega⟩
      show hasF S (sgb p) = false
      rw [← ra_cmh hr (by omega) hq.2.2.1 hq.1]; exact hc
theorem rel_ack {t f : Int} {cm ou : List Int} {s o : List Rg} (h : Rel t f cm ou s o) (off : Int) (l : List Rg) :
    Rel t f (raC t f off cm l) (raO t f off cm ou l) (acS t s off l) (acO t s o off l) ∧ acM t s off l = raM t f off cm l := by
  have e : acB t s off = raB t f off cm := by unfold acB raB; rw [h.base]
  unfold raC raO acS acO acM raM
  rw [← e]
  by_cases hc : acB t s off = true
  · have po : plF t off = true := by
      have : plF t off = true ∧ ¬ off < endF (lim 0) s := by simpa [acB] using hc
      exact this.1
    have h1 := rel_ack1 h l po
    rw [if_pos hc, if_pos hc, if_pos hc, if_pos hc]
    refine ⟨h1, ?_⟩
    rw [h1.left, h.left]
  · rw [if_neg hc, if_neg hc, if_neg hc, if_neg hc]
    refine ⟨h, ?_⟩
    have hc : acB t s off = false := by simpa using hc
    rw [hc]; rfl
end Go.Proofs.Ytbmdahhhgpbchaa.OpI
