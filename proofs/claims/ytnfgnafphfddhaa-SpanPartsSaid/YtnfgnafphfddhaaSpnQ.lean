import Derived.Test.YtnfgnafphfddhaaSpnE
namespace Go.Proofs.Ytnfgnafphfddhaa.SpnQ
open Go Go.Sim Go.Sim.E Go.RowKit Go.Proofs Go.Proofs.Ytnfgnafphfddhaa.Cod Go.Proofs.Ytnfgnafphfddhaa.Tab Go.Proofs.Ytnfgnafphfddhaa.SpnP Go.Proofs.Ytnfgnafphfddhaa.SpnA Go.Proofs.Ytnfgnafphfddhaa.SpnB Go.Proofs.Ytnfgnafphfddhaa.SpnC Go.Proofs.Ytnfgnafphfddhaa.SpnD Go.Proofs.Ytnfgnafphfddhaa.SpnE
set_option linter.unusedVariables false
set_option linter.unusedSimpArgs false
set_option maxRecDepth 100000
set_option maxHeartbeats 4000000
/-- Norm, told from the end. -/
theorem norm_snoc (r : Rg) : ∀ (o : List Rg), Norm (o ++ [r]) ↔ Norm o ∧ r.1 < r.2 ∧ ∀ s ∈ o, s.2 < r.1
  | [] => by simp [Norm]
  | x :: o => by
    have ih := norm_snoc r o
    constructor
    · intro h
      obtain ⟨h1, h2, h3⟩ := h
      obtain ⟨g1, g2, g3⟩ := ih.1 h3
      refine ⟨⟨h1, fun s hs => h2 s (List.mem_append_left _ hs), g1⟩, g2, fun s hs => ?_⟩
      rcases List.mem_cons.1 hs with rfl | hs
      · exact h2 r (by simp)
      · exact g3 s hs
    · rintro ⟨⟨h1, h2, h3⟩, h4, h5⟩
      refine ⟨h1, fun s hs => ?_, ih.2 ⟨h3, h4, fun s hs => h5 s (List.mem_cons_of_mem _ hs)⟩⟩
      rcases List.mem_append.1 hs with hs | hs
      · exact h2 s hs
      · rw [List.mem_singleton.1 hs]; exact h5 x List.mem_cons_self
theorem mem_snoc (o : List Rg) (r : Rg) (p : Int) : mem (o ++ [r]) p ↔ mem o p ∨ (r.1 ≤ p ∧ p < r.2) := by
  constructor
  · rintro ⟨s, hs, h⟩
    rcases List.mem_append.1 hs with hs | hs
    · exact .inl ⟨s, hs, h⟩
    · rw [List.mem_singleton.1 hs] at h; exact .inr h
  · rintro (⟨s, hs, h⟩ | h)
    · exact ⟨s, List.mem_append_left _ hs, h⟩
    · exact ⟨r, by simp, h⟩
theorem hasF_mem (l : List Rg) (n : Int) : hasF l n = true ↔ mem l n := by
  simp only [hasF, List.any_eq_true, decide_eq_true_eq, mem]
theorem hasF_eq {a b : List Rg} {n m : Int} (h : mem a n ↔ mem b m) : hasF a n = hasF b m := by
  rw [Bool.eq_iff_iff, hasF_mem, hasF_mem]; exact h
theorem has_const {l : List Rg} {n nx p : Int} (h4 : ∀ r ∈ l, (n < r.1 → nx ≤ r.1) ∧ (n < r.2 → nx ≤ r.2)) (h1 : n ≤ p) (h2 : p < nx) : mem l p ↔ mem l n := by
  constructor
  · rintro ⟨r, hr, a, b⟩
    refine ⟨r, hr, ?_, by omega⟩
    apply Decidable.byContradiction
    intro hc
    have := (h4 r hr).1 (by omega)
    omega
  · rintro ⟨r, hr, a, b⟩
    have := (h4 r hr).2 b
    exact ⟨r, hr, by omega, by omega⟩
theorem glue_spec (out : List Rg) (n e : Int) (hn : n < e) (h1 : Norm out) (h2 : ∀ r ∈ out, r.2 ≤ n) : Norm (glue out n e) ∧ (∀ r ∈ glue out n e, r.2 ≤ e) ∧ ∀ p, mem (glue out n e) p ↔ mem out p ∨ (n ≤ p ∧ p < e) := by
  rcases List.eq_nil_or_concat out with rfl | ⟨o, r, rfl⟩
  · rw [glue_nil]
    refine ⟨⟨hn, by simp, trivial⟩, by simp, fun p => ?_⟩
    rw [mem_cons]
    exact ⟨fun h => h.elim .inr .inl, fun h => h.elim .inr .inl⟩
  · rw [List.concat_eq_append] at *
    obtain ⟨k1, k2, k3⟩ := (norm_snoc r o).1 h1
    have hr := h2 r (by simp)
    rw [glue_snoc]
    split
    · rename_i hx
      refine ⟨(norm_snoc _ o).2 ⟨k1, by show r.1 < e; omega, k3⟩, fun s hs => ?_, fun p => ?_⟩
      · rcases List.mem_append.1 hs with hs | hs
        · have := h2 s (List.mem_append_left _ hs); omega
        · rw [List.mem_singleton.1 hs]; exact Int.le_refl _
      · rw [mem_snoc, mem_snoc]
        show _ ∨ (r.1 ≤ p ∧ p < e) ↔ _
        constructor
        · rintro (h | h)
          · exact .inl (.inl h)
          · by_cases hp : p < r.2
            · exact .inl (.inr ⟨h.1, hp⟩)
            · exact .inr ⟨by omega, h.2⟩
        · rintro ((h | h) | h)
          · exact .inl h
          · exact .inr ⟨h.1, by omega⟩
          · exact .inr ⟨by omega, h.2⟩
    · rename_i hx
      refine ⟨(norm_snoc _ _).2 ⟨h1, hn, fun s hs => ?_⟩, fun s hs => ?_, fun p => mem_snoc _ _ _⟩
      · rcases List.mem_append.1 hs with hs | hs
        · show s.2 < n
          have := k3 s hs; omega
        · rw [List.mem_singleton.1 hs]
          show r.2 < n
          omega
      · rcases List.mem_append.1 hs with hs | hs
        · have := h2 s hs; omega
        · rw [List.mem_singleton.1 hs]; exact Int.le_refl _
theorem pcF_spec (l : List Rg) (to : Int) (hto : to ≤ 4611686018427387904) (th : Bool) (lo : Int) : ∀ (k : Nat) (n : Int) (out : List Rg), (to - n).toNat ≤ k → n ≤ to → lo ≤ n → Norm out → (∀ r ∈ out, r.2 ≤ n) →
    (∀ p, mem out p ↔ lo ≤ p ∧ p < n ∧ hasF l p = th) → Norm (pcF l to th k n out) ∧ ∀ p, mem (pcF l to th k n out) p ↔ lo ≤ p ∧ p < to ∧ hasF l p = th
  | 0, n, out, hk, hn, hlo, h1, h2, h3 => by
    have e : n = to := by omega
    subst e
    exact ⟨h1, h3⟩
  | k + 1, n, out, hk, hn, hlo, h1, h2, h3 => by
    by_cases h : n < to
    · rw [pcF_step l to th (k + 1) n out h (by omega), Nat.add_sub_cancel]
      obtain ⟨g1, g2, g3, g4⟩ := nextF_spec n l 4611686018427387904 (by omega)
      generalize nextF n l 4611686018427387904 = nx at *
      have hcon : ∀ p, n ≤ p → p < min nx to → hasF l p = hasF l n := fun p hp1 hp2 => hasF_eq (has_const g4 hp1 (by omega))
      by_cases ht : hasF l n = th
      · rw [if_pos ht]
        obtain ⟨q1, q2, q3⟩ := glue_spec out n (min nx to) (by omega) h1 h2
        refine pcF_spec l to hto th lo k _ _ (by omega) (by omega) (by omega) q1 q2 (fun p => ?_)
        rw [q3 p, h3 p]
        constructor
        · rintro (⟨a, b, c⟩ | ⟨a, b⟩)
          · exact ⟨a, by omega, c⟩
          · exact ⟨by omega, b, by rw [hcon p a b, ht]⟩
        · rintro ⟨a, b, c⟩
          by_cases hp : p < n
          · exact .inl ⟨a, hp, c⟩
          · exact .inr ⟨by omega, b⟩
      · rw [if_neg ht]
        refine pcF_spec l to hto th lo k _ _ (by omega) (by omega) (by omega) h1 (fun r hr => by have := h2 r hr; omega) (fun p => ?_)
        rw [h3 p]
        constructor
        · rintro ⟨a, b, c⟩
          exact ⟨a, by omega, c⟩
        · rintro ⟨a, b, c⟩
          refine ⟨a, ?_, c⟩
          apply Decidable.byContradiction
          intro hp
          exact ht (by rw [← hcon p (by omega) b, c])
    · rw [pcF_stop _ _ _ _ _ _ h]
      have e : n = to := by omega
      subst e
      exact ⟨h1, h3⟩
theorem lim_bounds (n : Int) : 0 ≤ lim n ∧ lim n ≤ 4611686018427387904 := by simp only [lim]; omega
theorem pcs_spec (l : List Rg) (a b : Int) (th : Bool) : Norm (pcs l a b th) ∧ ∀ p, mem (pcs l a b th) p ↔ lim a ≤ p ∧ p < lim b ∧ hasF l p = th := by
  unfold pcs
  by_cases h : lim a ≤ lim b
  · exact pcF_spec l (lim b) (lim_bounds b).2 th (lim a) _ _ _ (Nat.le_refl _) h (Int.le_refl _) trivial (by simp) (fun p => ⟨fun hp => absurd hp (mem_nil p), fun hp => by omega⟩)
  · rw [pcF_stop _ _ _ _ _ _ (by omega)]
    exact ⟨trivial, fun p => ⟨fun hp => absurd hp (mem_nil p), fun hp => by omega⟩⟩
/-- The gaps are what is not there. -/
theorem gapsF_spec (s : List Rg) (xa xb : Int) : ∀ (l : List Rg) (at_ : Int) (c : List Rg), Norm l → xa ≤ at_ → Norm c → (∀ r ∈ c, r.2 < at_) → (∀ p, at_ ≤ p → (mem s p ↔ mem l p)) →
    (∀ p, mem c p ↔ xa ≤ p ∧ p < xb ∧ p < at_ ∧ ¬ mem s p) → Norm (gapsF xb l at_ c) ∧ ∀ p, mem (gapsF xb l at_ c) p ↔ xa ≤ p ∧ p < xb ∧ ¬ mem s p
  | [], at_, c, hl, hx, h1, h2, h3, h4 => by
    unfold gapsF
    by_cases h : at_ < xb
    · rw [if_pos h]
      refine ⟨(norm_snoc _ _).2 ⟨h1, h, h2⟩, fun p => ?_⟩
      rw [mem_snoc, h4 p]
      show _ ∨ (at_ ≤ p ∧ p < xb) ↔ _
      constructor
      · rintro (⟨a, b, _, d⟩ | ⟨a, b⟩)
        · exact ⟨a, b, d⟩
        · exact ⟨by omega, b, fun hm => mem_nil p ((h3 p a).1 hm)⟩
      · rintro ⟨a, b, d⟩
        by_cases hp : p < at_
        · exact .inl ⟨a, b, hp, d⟩
        · exact .inr ⟨by omega, b⟩
    · rw [if_neg h]
      refine ⟨h1, fun p => ?_⟩
      rw [h4 p]
      exact ⟨fun ⟨a, b, _, d⟩ => ⟨a, b, d⟩, fun ⟨a, b, d⟩ => ⟨a, b, by omega, d⟩⟩
  | r :: l, at_, c, hl, hx, h1, h2, h3, h4 => by
    unfold gapsF
    have hr := hl.1
    have h3' : ∀ p, max at_ r.2 ≤ p → (mem s p ↔ mem l p) := by
      intro p hp
      rw [h3 p (by omega), mem_cons]
      exact ⟨fun h => h.elim (fun h => by omega) id, .inr⟩
    have hin : ∀ p, at_ ≤ p → p < max at_ r.2 → (mem s p ↔ r.1 ≤ p) := by
      intro p hp1 hp2
      rw [h3 p hp1, mem_cons]
      constructor
      · rintro (h | h)
        · exact h.1
        · have := norm_above hl h; omega
      · intro h
        exact .inl ⟨h, by omega⟩
    by_cases h : at_ < min r.1 xb
    · rw [if_pos h]
      refine gapsF_spec s xa xb l _ _ hl.2.2 (by omega) ((norm_snoc _ _).2 ⟨h1, h, h2⟩) (fun q hq => ?_) h3' (fun p => ?_)
      · rcases List.mem_append.1 hq with hq | hq
        · have := h2 q hq; omega
        · rw [List.mem_singleton.1 hq]
          show min r.1 xb < max at_ r.2
          omega
      · rw [mem_snoc, h4 p]
        show _ ∨ (at_ ≤ p ∧ p < min r.1 xb) ↔ _
        constructor
        · rintro (⟨a, b, d, e⟩ | ⟨a, b⟩)
          · exact ⟨a, b, by omega, e⟩
          · refine ⟨by omega, by omega, by omega, fun hm => ?_⟩
            have := (hin p a (by omega)).1 hm
            omega
        · rintro ⟨a, b, d, e⟩
          by_cases hp : p < at_
          · exact .inl ⟨a, b, hp, e⟩
          · refine .inr ⟨by omega, ?_⟩
            have : ¬ r.1 ≤ p := fun hh => e ((hin p (by omega) d).2 hh)
            omega
    · rw [if_neg h]
      refine gapsF_spec s xa xb l _ _ hl.2.2 (by omega) h1 (fun q hq => by have := h2 q hq; omega) h3' (fun p => ?_)
      rw [h4 p]
      constructor
      · rintro ⟨a, b, d, e⟩
        exact ⟨a, b, by omega, e⟩
      · rintro ⟨a, b, d, e⟩
        refine ⟨a, b, ?_, e⟩
        apply Decidable.byContradiction
        intro hp
        exact e ((hin p (by omega) d).2 (by omega))
theorem gaps_spec (s : List Rg) (hs : Norm s) (xa xb : Int) : Norm (gapsF xb s xa []) ∧ ∀ p, mem (gapsF xb s xa []) p ↔ xa ≤ p ∧ p < xb ∧ ¬ mem s p :=
  gapsF_spec s xa xb s xa [] hs (Int.le_refl _) trivial (by simp) (fun p _ => Iff.rfl) (fun p => ⟨fun hp => absurd hp (mem_nil p), fun hp => by omega⟩)
theorem endF_spec (n : Int) : ∀ s : List Rg, Norm s → n ≤ endF n s ∧ (∀ p, n ≤ p → p < endF n s → mem s p) ∧ ¬ mem s (endF n s) ∧ (endF n s = n ∨ mem s n)
  | [], _ => ⟨Int.le_refl _, fun p h1 h2 => by simp only [endF] at h2; omega, mem_nil _, .inl rfl⟩
  | r :: l, hs => by
    obtain ⟨g1, g2, g3, g4⟩ := endF_spec n l hs.2.2
    unfold endF
    split
    · rename_i h
      refine ⟨by omega, fun p h1 h2 => (mem_cons _ _ _).2 (.inl ⟨by omega, h2⟩), fun hm => ?_, .inr ((mem_cons _ _ _).2 (.inl h))⟩
      rcases (mem_cons _ _ _).1 hm with hm | hm
      · omega
      · have := norm_above hs hm; omega
    · rename_i h
      refine ⟨g1, fun p h1 h2 => (mem_cons _ _ _).2 (.inr (g2 p h1 h2)), fun hm => ?_, g4.imp id (fun hm => (mem_cons _ _ _).2 (.inr hm))⟩
      rcases (mem_cons _ _ _).1 hm with hm | hm
      · rcases g4 with g4 | g4
        · rw [g4] at hm; exact h hm
        · have := norm_above hs g4; omega
      · exact g3 hm
/-- All of a set lies within the limits. -/
def In (s : List Rg) : Prop := ∀ p, mem s p → 0 ≤ p ∧ p < 4611686018427387904
theorem endF_top (n : Int) (hn : n ≤ 4611686018427387904) (s : List Rg) (hs : Norm s) (hi : In s) : endF n s ≤ 4611686018427387904 := by
  obtain ⟨g1, g2, g3, g4⟩ := endF_spec n s hs
  apply Decidable.byContradiction
  intro h
  have := hi _ (g2 4611686018427387904 hn (by omega))
  omega
/-- What was grown. -/
theorem grown_spec : ∀ (q s r : List Rg), Norm s → In s → (∀ p, mem s p ↔ mem r p) → Norm (q.foldl gS1 s) ∧ In (q.foldl gS1 s) ∧ ∀ p, mem (q.foldl gS1 s) p ↔ mem (q.foldl gR1 r) p
  | [], s, r, h1, h2, h3 => ⟨h1, h2, h3⟩
  | x :: q, s, r, h1, h2, h3 => by
    have hx1 := lim_bounds x.1
    have hx2 := lim_bounds x.2
    have key : Norm (gS1 s x) ∧ In (gS1 s x) ∧ ∀ p, mem (gS1 s x) p ↔ mem (gR1 r x) p := by
      unfold gS1 gR1
      by_cases h : x.2 = -7
      · rw [if_pos h, if_pos h]
        obtain ⟨k1, k2⟩ := cut_norm (lim x.1) s h1
        refine ⟨k1, fun p hp => h2 p ((k2 p).1 hp).2, fun p => ?_⟩
        rw [k2 p, h3 p]
        constructor
        · rintro ⟨a, y, hy, b, c⟩
          exact ⟨(max y.1 (lim x.1), y.2), List.mem_map.2 ⟨y, hy, rfl⟩, by show max y.1 (lim x.1) ≤ p; omega, c⟩
        · rintro ⟨y, hy, b, c⟩
          obtain ⟨z, hz, rfl⟩ := List.mem_map.1 hy
          have b' : max z.1 (lim x.1) ≤ p := b
          exact ⟨by omega, z, hz, by omega, c⟩
      · rw [if_neg h, if_neg h]
        by_cases he : lim x.2 ≤ lim x.1
        · rw [if_pos he]
          refine ⟨h1, h2, fun p => ?_⟩
          rw [mem_snoc, h3 p]
          exact ⟨.inl, fun h => h.elim id (fun h => by have h1 : lim x.1 ≤ p := h.1; have h2 : p < lim x.2 := h.2; omega)⟩
        · rw [if_neg he]
          obtain ⟨k1, k2⟩ := add_norm (lim x.1, lim x.2) (by show lim x.1 < lim x.2; omega) s h1
          refine ⟨k1, fun p hp => ?_, fun p => ?_⟩
          · rcases (k2 p).1 hp with hp | hp
            · have h1 : lim x.1 ≤ p := hp.1
              have h2 : p < lim x.2 := hp.2
              omega
            · exact h2 p hp
          · rw [k2 p, mem_snoc, h3 p]
            exact ⟨fun h => h.elim .inr .inl, fun h => h.elim .inr .inl⟩
    exact grown_spec q _ _ key.1 key.2.1 key.2.2
theorem grown_is (q : List Rg) : Norm (gS q) ∧ In (gS q) ∧ ∀ p, mem (gS q) p ↔ mem (gR q) p := grown_spec q [] [] trivial (fun p hp => absurd hp (mem_nil p)) (fun p => Iff.rfl)
theorem lim0 : lim 0 = 0 := by decide
theorem limT : lim 4611686018427387904 = 4611686018427387904 := by decide
theorem ranges_eq (q : List Rg) : pcs (gR q) 0 4611686018427387904 true = gS q := by
  obtain ⟨h1, h2, h3⟩ := grown_is q
  obtain ⟨k1, k2⟩ := pcs_spec (gR q) 0 4611686018427387904 true
  refine norm_ext _ _ k1 h1 (fun p => ?_)
  rw [k2 p, lim0, limT, hasF_mem, ← h3 p]
  exact ⟨fun h => h.2.2, fun h => ⟨(h2 p h).1, (h2 p h).2, h⟩⟩
theorem not_hasF {l : List Rg} {p : Int} : hasF l p = false ↔ ¬ mem l p := by rw [← hasF_mem]; simp
theorem gaps_eq (q : List Rg) (a b : Int) : gapsF (lim b) (gS q) (lim a) [] = pcs (gR q) a b false := by
  obtain ⟨h1, h2, h3⟩ := grown_is q
  obtain ⟨k1, k2⟩ := pcs_spec (gR q) a b false
  obtain ⟨g1, g2⟩ := gaps_spec (gS q) h1 (lim a) (lim b)
  refine norm_ext _ _ g1 k1 (fun p => ?_)
  rw [k2 p, g2 p, not_hasF, h3 p]
theorem has_eq (q : List Rg) (n : Int) : hasF (gS q) n = hasF (gR q) n := hasF_eq ((grown_is q).2.2 n)
theorem end_eq (q : List Rg) (n : Int) : endF (lim n) (gS q) = rendF (pcs (gR q) n 4611686018427387904 false) := by
  obtain ⟨h1, h2, h3⟩ := grown_is q
  obtain ⟨k1, k2⟩ := pcs_spec (gR q) n 4611686018427387904 false
  obtain ⟨e1, e2, e3, e4⟩ := endF_spec (lim n) (gS q) h1
  have ht := endF_top (lim n) (lim_bounds n).2 (gS q) h1 h2
  rw [limT] at k2
  have k2' : ∀ p, mem (pcs (gR q) n 4611686018427387904 false) p ↔ lim n ≤ p ∧ p < 4611686018427387904 ∧ ¬ mem (gS q) p := fun p => by rw [k2 p, not_hasF, h3 p]
  generalize pcs (gR q) n 4611686018427387904 false = P at *
  cases P with
  | nil =>
    show _ = (4611686018427387904 : Int)
    apply Decidable.byContradiction
    intro h
    exact mem_nil _ ((k2' (endF (lim n) (gS q))).2 ⟨e1, by omega, e3⟩)
  | cons r P =>
    show _ = r.1
    have hr := (k2' r.1).1 ((mem_cons _ _ _).2 (.inl ⟨Int.le_refl _, k1.1⟩))
    have a1 : endF (lim n) (gS q) ≤ r.1 := by
      apply Decidable.byContradiction
      intro h
      exact hr.2.2 (e2 r.1 hr.1 (by omega))
    have a2 : r.1 ≤ endF (lim n) (gS q) := by
      rcases (mem_cons _ _ _).1 ((k2' (endF (lim n) (gS q))).2 ⟨e1, by omega, e3⟩) with h | h
      · exact h.1
      · have := norm_above k1 h; have := k1.1; omega
    omega
theorem covers_iff (s : List Rg) (hs : Norm s) (xa xb : Int) : (xb ≤ xa ∨ xb ≤ endF xa s) ↔ ∀ p, xa ≤ p → p < xb → mem s p := by
  obtain ⟨e1, e2, e3, e4⟩ := endF_spec xa s hs
  constructor
  · rintro (h | h) p h1 h2
    · omega
    · exact e2 p h1 (by omega)
  · intro h
    apply Decidable.byContradiction
    intro hn
    exact e3 (h _ e1 (by omega))
theorem covers_eq (q : List Rg) (a b : Int) : decide (lim b ≤ lim a ∨ lim b ≤ endF (lim a) (gS q)) = decide (pcs (gR q) a b false = []) := by
  obtain ⟨h1, h2, h3⟩ := grown_is q
  obtain ⟨k1, k2⟩ := pcs_spec (gR q) a b false
  rw [decide_eq_decide, covers_iff _ h1]
  constructor
  · intro h
    cases hP : pcs (gR q) a b false with
    | nil => rfl
    | cons r P =>
      rw [hP] at k1 k2
      have := (k2 r.1).1 ((mem_cons _ _ _).2 (.inl ⟨Int.le_refl _, k1.1⟩))
      rw [not_hasF, ← h3] at this
      exact absurd (h r.1 this.1 this.2.1) this.2.2
  · intro h p p1 p2
    apply Classical.byContradiction
    intro hn
    rw [h] at k2
    exact mem_nil p ((k2 p).2 ⟨p1, p2, not_hasF.2 (fun hm => hn ((h3 p).2 hm))⟩)
end Go.Proofs.Ytnfgnafphfddhaa.SpnQ
