import Derived.Test.YtbmdahhhgpbchaaSwG
namespace Go.Proofs.Ytbmdahhhgpbchaa.SwL
open Go Go.Sim Go.Sim.E Go.RowKit Go.Proofs Go.Proofs.Ytbmdahhhgpbchaa.Cod Go.Proofs.Ytbmdahhhgpbchaa.Tab Go.Proofs.Ytbmdahhhgpbchaa.Bse Go.Proofs.Ytbmdahhhgpbchaa.SpnP Go.Proofs.Ytbmdahhhgpbchaa.SwA Go.Proofs.Ytbmdahhhgpbchaa.SwB Go.Proofs.Ytbmdahhhgpbchaa.SwC Go.Proofs.Ytbmdahhhgpbchaa.SwS Go.Proofs.Ytbmdahhhgpbchaa.SwD Go.Proofs.Ytbmdahhhgpbchaa.SwF Go.Proofs.Ytbmdahhhgpbchaa.SwG
set_option linter.unusedVariables false
set_option linter.unusedSimpArgs false
set_option maxRecDepth 100000
set_option maxHeartbeats 4000000
theorem plF_iff (t n : Int) : plF t n = true ↔ 0 ≤ n ∧ n ≤ t ∧ (Int.tmod n (256 : Int) = 0 ∨ n = t) := by simp [plF]
theorem hasF_mem (l : List Rg) (n : Int) : hasF l n = true ↔ mem l n := by
  simp only [hasF, List.any_eq_true, decide_eq_true_eq, mem]
theorem endF_spec (n : Int) : ∀ s : List Rg, Norm s → n ≤ endF n s ∧ (∀ p, n ≤ p → p < endF n s → mem s p) ∧ ¬ mem s (endF n s) ∧ (endF n s = n ∨ mem s n)
  | [], _ => ⟨Int.le_refl _, fun p h1 h2 => by simp only [endF] at h2; omega, mem_nil _, .inl rfl⟩
  | r :: l, hs => by
    obtain ⟨g1, g2, g3, g4⟩ := endF_spec n l hs.2.2
    unfold endF
    split
    · rename_i h
      refine ⟨by omega, fun p h1 h2 => (mem_cons _ _ _).2 (.inl ⟨by omega, h2⟩), fun hm => ?_, .inr ((mem_cons _ _ _).2 (.inl h))⟩
      rcases (mem_cons _ _ _).1 hm with hm | hm
      · omega
      · have := norm_above hs hm; omega
    · rename_i h
      refine ⟨g1, fun p h1 h2 => (mem_cons _ _ _).2 (.inr (g2 p h1 h2)), fun hm => ?_, g4.imp id (fun hm => (mem_cons _ _ _).2 (.inr hm))⟩
      rcases (mem_cons _ _ _).1 hm with hm | hm
      · rcases g4 with g4 | g4
        · rw [g4] at hm; exact h hm
        · have := norm_above hs g4; omega
      · exact g3 hm
theorem lim_bounds (n : Int) : 0 ≤ lim n ∧ lim n ≤ 4611686018427387904 := by simp only [lim]; omega
def In (s : List Rg) : Prop := ∀ p, mem s p → 0 ≤ p ∧ p < 4611686018427387904
def sz : List Rg → Int
  | [] => 0
  | r :: l => (r.2 - r.1) + sz l
theorem in_bounds {s : List Rg} (hs : Norm s) (hi : In s) : ∀ r ∈ s, 0 ≤ r.1 ∧ r.1 < r.2 ∧ r.2 ≤ 4611686018427387904 := by
  intro r hr
  have h1 := norm_each s hs r hr
  have h2 := hi r.1 ⟨r, hr, by omega, h1⟩
  have h3 := hi (r.2 - 1) ⟨r, hr, by omega, by omega⟩
  omega
theorem sz_bound : ∀ (l : List Rg) (lo B : Int), Norm l → lo ≤ B → (∀ r ∈ l, lo ≤ r.1) → (∀ r ∈ l, r.2 ≤ B) → 0 ≤ sz l ∧ sz l ≤ B - lo
  | [], lo, B, _, h, _, _ => by simp [sz]; omega
  | r :: l, lo, B, hn, h, h1, h2 => by
    have g1 := h1 r (List.mem_cons_self ..)
    have g2 := h2 r (List.mem_cons_self ..)
    have := sz_bound l r.2 B hn.2.2 g2 (fun q hq => by have := hn.2.1 q hq; omega) (fun q hq => h2 q (List.mem_cons_of_mem _ hq))
    have g3 := hn.1
    simp only [sz]
    omega
theorem sumR_sz : ∀ (l : List Rg) (n : Int), 0 ≤ n → (∀ r ∈ l, 0 ≤ r.1 ∧ r.1 < r.2 ∧ r.2 ≤ 4611686018427387904) → n + sz l ≤ 4611686018427387904 → 0 ≤ sz l → (∀ r ∈ l, True) →
    l.foldl (fun n r => IntKind.i64.wrap (n + IntKind.i64.wrap (r.2 - r.1))) n = n + sz l
  | [], n, _, _, _, _, _ => by simp [sz]
  | r :: l, n, h0, h1, h2, h3, _ => by
    have g := h1 r (List.mem_cons_self ..)
    have hsz : 0 ≤ sz l := by
      have : ∀ (l : List Rg), (∀ r ∈ l, 0 ≤ r.1 ∧ r.1 < r.2 ∧ r.2 ≤ 4611686018427387904) → 0 ≤ sz l := by
        intro l
        induction l with
        | nil => intro _; simp [sz]
        | cons q l ih => intro h; have := h q (List.mem_cons_self ..); have := ih (fun x hx => h x (List.mem_cons_of_mem _ hx)); simp only [sz]; omega
      exact this l (fun x hx => h1 x (List.mem_cons_of_mem _ hx))
    simp only [sz] at h2 h3 ⊢
    rw [List.foldl_cons, w64 (r.2 - r.1) (by omega), w64 (n + (r.2 - r.1)) (by omega), sumR_sz l _ (by omega) (fun x hx => h1 x (List.mem_cons_of_mem _ hx)) (by omega) hsz (fun _ _ => trivial)]
    omega
theorem sumR_eq {s : List Rg} (hs : Norm s) (hi : In s) : sumR s = sz s := by
  have hb := in_bounds hs hi
  have h := sz_bound s 0 4611686018427387904 hs (by omega) (fun r hr => (hb r hr).1) (fun r hr => (hb r hr).2.2)
  have := sumR_sz s 0 (by omega) hb (by omega) h.1 (fun _ _ => trivial)
  rw [sumR, this]; omega
theorem merge_sz0 : ∀ (l : List Rg) (x r : Rg), Norm (r :: l) → x.1 ≤ r.1 → r.2 ≤ x.2 → sz (r :: l) ≤ sz (merge x l)
  | [], x, r, hn, h1, h2 => by simp only [sz, merge]; omega
  | q :: l, x, r, hn, h1, h2 => by
    have hq := hn.2.1 q (List.mem_cons_self ..)
    have hr := hn.1
    have hql := hn.2.2
    unfold merge
    by_cases h : q.1 ≤ x.2 ∧ x.1 ≤ q.2
    · rw [if_pos h]
      have := merge_sz0 l (min x.1 q.1, max x.2 q.2) (r.1, q.2) ⟨by have := hql.1; show r.1 < q.2; omega, hql.2.1, hql.2.2⟩ (by show min x.1 q.1 ≤ r.1; omega) (by show q.2 ≤ max x.2 q.2; omega)
      simp only [sz] at this ⊢
      omega
    · rw [if_neg h]
      simp only [sz]; omega
theorem merge_sz : ∀ (l : List Rg) (x : Rg), x.1 < x.2 → Norm l → sz l ≤ sz (merge x l)
  | [], x, hx, _ => by simp only [sz, merge]; omega
  | q :: l, x, hx, hn => by
    unfold merge
    by_cases h : q.1 ≤ x.2 ∧ x.1 ≤ q.2
    · rw [if_pos h]
      exact merge_sz0 l _ q hn (by show min x.1 q.1 ≤ q.1; omega) (by show q.2 ≤ max x.2 q.2; omega)
    · rw [if_neg h]
      simp only [sz]; omega
theorem add_sz (x : Rg) (hx : x.1 < x.2) : ∀ l : List Rg, Norm l → sz l ≤ sz (add x l)
  | [], _ => by simp only [add, sz]; omega
  | r :: l, hn => by
    unfold add
    split
    · have := add_sz x hx l hn.2.2; simp only [sz]; omega
    · exact merge_sz _ x hx hn
theorem addS_spec {s : List Rg} (hn : Norm s) (hi : In s) (a b : Int) : Norm (addS s a b) ∧ In (addS s a b) ∧ (∀ p, mem (addS s a b) p ↔ (lim a ≤ p ∧ p < lim b) ∨ mem s p) ∧ (addS s a b).length ≤ s.length + 1 ∧ sz s ≤ sz (addS s a b) := by
  unfold addS
  have l1 := lim_bounds a
  have l2 := lim_bounds b
  by_cases h : lim b ≤ lim a
  · rw [if_pos h]
    exact ⟨hn, hi, fun p => ⟨.inr, fun h' => h'.elim (fun h2 => by omega) id⟩, by omega, by omega⟩
  · rw [if_neg h]
    obtain ⟨h1, h2⟩ := add_norm (lim a, lim b) (by show lim a < lim b; omega) s hn
    refine ⟨h1, fun p hp => ?_, h2, add_length _ _, add_sz _ (by show lim a < lim b; omega) s hn⟩
    rcases (h2 p).1 hp with hp | hp
    · have hp1 : lim a ≤ p := hp.1
      have hp2 : p < lim b := hp.2
      omega
    · exact hi p hp
/-- Ranges that lie below t. -/
def Ok (t : Int) (s : List Rg) : Prop := Norm s ∧ ∀ p, mem s p → 0 ≤ p ∧ p < t
theorem Ok.nil (t : Int) : Ok t [] := ⟨trivial, fun p hp => absurd hp (mem_nil p)⟩
theorem Ok.inn {t : Int} {s : List Rg} (h : Ok t s) (ht : t ≤ 4611686018427387904) : In s := fun p hp => by have := h.2 p hp; omega
theorem Ok.each {t : Int} {s : List Rg} (h : Ok t s) : ∀ r ∈ s, 0 ≤ r.1 ∧ r.1 < r.2 ∧ r.2 ≤ t := by
  intro r hr
  have h1 := norm_each s h.1 r hr
  have h2 := h.2 r.1 ⟨r, hr, by omega, h1⟩
  have h3 := h.2 (r.2 - 1) ⟨r, hr, by omega, by omega⟩
  omega
theorem Ok.add {t : Int} {s : List Rg} (h : Ok t s) (ht : 0 ≤ t ∧ t ≤ 1099511627776) (a b : Int) (hb : b ≤ t) :
    Ok t (addS s a b) ∧ (∀ p, mem (addS s a b) p ↔ (lim a ≤ p ∧ p < lim b) ∨ mem s p) ∧ sz s ≤ sz (addS s a b) := by
  obtain ⟨h1, h2, h3, h4, h5⟩ := addS_spec h.1 (h.inn (by omega)) a b
  refine ⟨⟨h1, fun p hp => ?_⟩, h3, h5⟩
  rcases (h3 p).1 hp with ⟨k1, k2⟩ | hp
  · have := lim_bounds a
    have : lim b ≤ max b 0 := by unfold lim; omega
    omega
  · exact h.2 p hp
theorem Ok.size {t : Int} {s : List Rg} (h : Ok t s) (ht : 0 ≤ t) : 0 ≤ sz s ∧ sz s ≤ t := by
  have := sz_bound s 0 t h.1 ht (fun r hr => (h.each r hr).1) (fun r hr => (h.each r hr).2.2)
  omega
theorem len_sz : ∀ s : List Rg, Norm s → (s.length : Int) ≤ sz s
  | [], _ => by simp [sz]
  | r :: l, h => by
    have := len_sz l h.2.2
    have := h.1
    simp only [sz, List.length_cons]
    omega
theorem Ok.len {t : Int} {s : List Rg} (h : Ok t s) (ht : 0 ≤ t ∧ t ≤ 20000) : s.length ≤ 20000 := by
  have := len_sz s h.1
  have := h.size ht.1
  omega
theorem Ok.left {t : Int} {s : List Rg} (h : Ok t s) (ht : 0 ≤ t ∧ t ≤ 1099511627776) : lfF t s = t - sz s := by
  unfold lfF
  have := h.size ht.1
  rw [sumR_eq h.1 (h.inn (by omega)), w64 _ (by omega)]
theorem Ok.base {t : Int} {s : List Rg} (h : Ok t s) (ht : 0 ≤ t) : 0 ≤ endF (lim 0) s ∧ endF (lim 0) s ≤ t ∧ (∀ p, 0 ≤ p → p < endF (lim 0) s → mem s p) ∧ ¬ mem s (endF (lim 0) s) := by
  have e := endF_spec 0 s h.1
  have e0 : lim 0 = 0 := rfl
  rw [e0]
  refine ⟨e.1, ?_, e.2.1, e.2.2.1⟩
  by_cases hz : endF 0 s ≤ 0
  · omega
  · have := h.2 (endF 0 s - 1) (e.2.1 _ (by omega) (by omega))
    omega
theorem sz_full : ∀ (l : List Rg) (lo B : Int), Norm l → lo < B → (∀ r ∈ l, lo ≤ r.1) → (∀ r ∈ l, r.2 ≤ B) → sz l = B - lo → l = [(lo, B)]
  | [], lo, B, _, h, _, _, e => by simp [sz] at e; omega
  | r :: l, lo, B, hn, h, h1, h2, e => by
    have g1 := h1 r (List.mem_cons_self ..)
    have g2 := h2 r (List.mem_cons_self ..)
    cases l with
    | nil =>
      simp only [sz] at e
      have e1 : r.1 = lo := by omega
      have e2 : r.2 = B := by omega
      rw [← e1, ← e2]
    | cons q l =>
      have hq := hn.2.1 q (List.mem_cons_self ..)
      have hq2 := h2 q (by simp)
      have hqn := hn.2.2.1
      have := sz_bound (q :: l) (r.2 + 1) B hn.2.2 (by omega) (fun x hx => by have := hn.2.1 x hx; omega) (fun x hx => h2 x (List.mem_cons_of_mem _ hx))
      simp only [sz] at e this
      omega
theorem sz_ge : ∀ (l : List Rg) (r : Rg), Norm l → r ∈ l → r.2 - r.1 ≤ sz l
  | q :: l, r, hn, hr => by
    have hl := len_sz l hn.2.2
    have hq := hn.1
    simp only [sz]
    rcases List.mem_cons.1 hr with rfl | hr
    · omega
    · have := sz_ge l r hn.2.2 hr
      omega
theorem Ok.done {t : Int} {s : List Rg} (h : Ok t s) (ht : 0 ≤ t) : t - sz s = 0 ↔ endF (lim 0) s = t := by
  have hb := h.base ht
  have hz := h.size ht
  by_cases h0 : t = 0
  · subst h0; omega
  · constructor
    · intro e
      have := sz_full s 0 t h.1 (by omega) (fun r hr => (h.each r hr).1) (fun r hr => (h.each r hr).2.2) (by omega)
      rw [this, show lim 0 = 0 from rfl]
      simp [endF]; omega
    · intro e
      obtain ⟨r, hr, h1, h2⟩ := hb.2.2.1 0 (Int.le_refl _) (by omega)
      have h3 : t ≤ r.2 := by
        by_cases hlt : r.2 < t
        · exfalso
          obtain ⟨q, hq, h4, h5⟩ := hb.2.2.1 r.2 (by omega) (by omega)
          have := h.1
          have key : ∀ l : List Rg, Norm l → ∀ r ∈ l, ∀ q ∈ l, q.1 ≤ r.2 → r.2 < q.2 → r.1 < q.1 → False := by
            intro l
            induction l with
            | nil => intro _ r hr; cases hr
            | cons x l ih =>
              intro hn r hr q hq g1 g2 g3
              rcases List.mem_cons.1 hr with h5 | h5
              · rcases List.mem_cons.1 hq with h6 | h6
                · subst h5; subst h6; omega
                · have := hn.2.1 q h6; subst h5; omega
              · rcases List.mem_cons.1 hq with h6 | h6
                · have := hn.2.1 r h5; have := norm_each _ hn q hq; subst h6; omega
                · exact ih hn.2.2 r h5 q h6 g1 g2 g3
          by_cases hc : r.1 < q.1
          · exact key s h.1 r hr q hq h4 h5 hc
          · have hq0 := (h.each q hq).1
            have hr0 := (h.each r hr)
            -- both hold the number 0
            have key2 : ∀ l : List Rg, Norm l → ∀ r ∈ l, ∀ q ∈ l, ∀ p, r.1 ≤ p → p < r.2 → q.1 ≤ p → p < q.2 → r = q := by
              intro l
              induction l with
              | nil => intro _ r hr; cases hr
              | cons x l ih =>
                intro hn r hr q hq p g1 g2 g3 g4
                rcases List.mem_cons.1 hr with h5 | h5
                · rcases List.mem_cons.1 hq with h6 | h6
                  · rw [h5, h6]
                  · have := hn.2.1 q h6; subst h5; omega
                · rcases List.mem_cons.1 hq with h6 | h6
                  · have := hn.2.1 r h5; subst h6; omega
                  · exact ih hn.2.2 r h5 q h6 p g1 g2 g3 g4
            have := key2 s h.1 r hr q hq r.1 (by omega) (by omega) (by omega) (by omega)
            subst this; omega
        · omega
      have := sz_ge s r h.1 hr
      have := (h.each r hr).2.2
      omega
theorem segs_len (t b : Int) : (segs t b).length ≤ 8 := by
  have : ∀ (k : Nat) (a e : Int), e ≤ a + 256 * k → (segG t e (k + 1) a).length ≤ k := by
    intro k
    induction k with
    | zero => intro a e h; rw [segG_nil _ _ _ _ (by omega)]; simp
    | succ k ih =>
      intro a e h
      by_cases hc : a < e
      · rw [segG_cons _ _ _ _ hc]
        have := ih (a + 256) e (by omega)
        simp only [List.length_cons]
        omega
      · rw [segG_nil _ _ _ _ hc]; simp
  exact this 8 b _ (by omega)
theorem cnt_add {t e : Int} {o o' : List Rg} {r : Rg} (ho : hasF o r.1 = false) (h' : ∀ n, hasF o' n = true ↔ (r.1 ≤ n ∧ n < r.2) ∨ hasF o n = true) (hr2 : r.1 < r.2 ∧ r.2 ≤ r.1 + 256) :
    ∀ (k : Nat) (a : Int), r ∈ segG t e k a → cntF o' (segG t e k a) = cntF o (segG t e k a) + 1 := by
  have eqv : ∀ n, (n < r.1 ∨ r.2 ≤ n) → hasF o' n = hasF o n := by
    intro n hn
    have := h' n
    cases h1 : hasF o' n <;> cases h2 : hasF o n <;> rw [h1, h2] at this <;> simp at this ⊢
    omega
  intro k
  induction k with
  | zero => intro a hr; cases hr
  | succ k ih =>
    intro a hr
    by_cases hc : a < e
    · rw [segG_cons _ _ _ _ hc] at hr ⊢
      rcases List.mem_cons.1 hr with rfl | hr
      · have e1 : hasF o' a = true := (h' a).2 (.inl ⟨Int.le_refl _, hr2.1⟩)
        have e2 : hasF o a = false := ho
        have e3 : cntF o' (segG t e k (a + 256)) = cntF o (segG t e k (a + 256)) := by
          unfold cntF
          refine List.countP_congr (fun x hx => ?_)
          have := segG_from _ _ _ _ x hx
          have h2 : min (a + 256) t ≤ a + 256 := by omega
          rw [eqv x.1 (.inr (by omega))]
        unfold cntF at e3 ⊢
        rw [List.countP_cons, List.countP_cons, e3]
        simp [e1, e2]
      · have := segG_from _ _ _ _ r hr
        have e1 : hasF o' a = hasF o a := eqv a (.inl (by omega))
        have e3 := ih (a + 256) hr
        unfold cntF at e3 ⊢
        rw [List.countP_cons, List.countP_cons, e3]
        simp only [e1]
        omega
    · rw [segG_nil _ _ _ _ hc] at hr; cases hr
theorem nx_spec {t b : Int} {s o : List Rg} {r : Rg} (h : nxF s o (segs t b) = some r) : r ∈ segs t b ∧ hasF o r.1 = false ∧ b ≤ r.1 ∧ r.1 < b + 2048 ∧ r.1 < r.2 ∧ r.2 ≤ t ∧ r.2 - r.1 ≤ 256 := by
  have h1 := List.mem_of_find?_eq_some h
  have h2 := List.find?_some h
  simp only [nxP, Bool.and_eq_true, Bool.not_eq_true'] at h2
  have := segG_from _ _ _ _ r h1
  refine ⟨h1, h2.2, by omega, by omega, by omega, by omega, by omega⟩
theorem stF_ok {t b : Int} {s o : List Rg} (ht : 0 ≤ t ∧ t ≤ 1099511627776) : Ok t (stF s o (segs t b)) := by
  have : ∀ (xs acc : List Rg), (∀ r ∈ xs, r.2 ≤ t) → Ok t acc → Ok t (xs.foldl (stF1 s o) acc) := by
    intro xs
    induction xs with
    | nil => intro acc _ h; exact h
    | cons x xs ih =>
      intro acc hx h
      refine ih _ (fun r hr => hx r (List.mem_cons_of_mem _ hr)) ?_
      unfold stF1
      split
      · exact (h.add ht x.1 x.2 (hx x (List.mem_cons_self ..))).1
      · exact h
  refine this _ _ (fun r hr => ?_) (Ok.nil t)
  have := segG_from _ _ _ _ r hr
  omega
theorem ak_ok {t off : Int} {s : List Rg} (ht : 0 ≤ t ∧ t ≤ 1099511627776) (h : Ok t s) (hoff : off ≤ t) (l : List Rg) :
    Ok t (akF t off s l) ∧ (∀ p, mem s p → mem (akF t off s l) p) ∧ sz s ≤ sz (akF t off s l) := by
  have : ∀ (l acc : List Rg), Ok t acc → Ok t (l.foldl (ak1 t off) acc) ∧ (∀ p, mem acc p → mem (l.foldl (ak1 t off) acc) p) ∧ sz acc ≤ sz (l.foldl (ak1 t off) acc) := by
    intro l
    induction l with
    | nil => intro acc h; exact ⟨h, fun _ h => h, Int.le_refl _⟩
    | cons x l ih =>
      intro acc h
      have h1 : Ok t (ak1 t off acc x) ∧ (∀ p, mem acc p → mem (ak1 t off acc x) p) ∧ sz acc ≤ sz (ak1 t off acc x) := by
        unfold ak1
        split
        · rename_i hc
          simp only [Bool.and_eq_true, plF_iff] at hc
          obtain ⟨a1, a2, a3⟩ := h.add ht x.1 x.2 hc.2.1.2.1
          exact ⟨a1, fun p hp => (a2 p).2 (.inr hp), a3⟩
        · exact ⟨h, fun _ h => h, Int.le_refl _⟩
      obtain ⟨a1, a2, a3⟩ := ih _ h1.1
      exact ⟨a1, fun p hp => a2 p (h1.2.1 p hp), Int.le_trans h1.2.2 a3⟩
  obtain ⟨a1, a2, a3⟩ := h.add ht 0 off hoff
  obtain ⟨b1, b2, b3⟩ := this l _ a1
  exact ⟨b1, fun p hp => b2 p ((a2 p).2 (.inr hp)), Int.le_trans a3 b3⟩
theorem cnt8 (t b : Int) (o : List Rg) : cntF o (segs t b) ≤ 8 := Nat.le_trans List.countP_le_length (segs_len t b)
end Go.Proofs.Ytbmdahhhgpbchaa.SwL
