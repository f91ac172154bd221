import Derived.Test.YtbmdahhhgpbchaaOpF
namespace Go.Proofs.Ytbmdahhhgpbchaa.OpG
open Go Go.Sim Go.Sim.E Go.RowKit Go.Proofs Go.Proofs.Ytbmdahhhgpbchaa.Cod Go.Proofs.Ytbmdahhhgpbchaa.Tab Go.Proofs.Ytbmdahhhgpbchaa.Bse Go.Proofs.Ytbmdahhhgpbchaa.SpnP Go.Proofs.Ytbmdahhhgpbchaa.SwA Go.Proofs.Ytbmdahhhgpbchaa.SwB Go.Proofs.Ytbmdahhhgpbchaa.SwC Go.Proofs.Ytbmdahhhgpbchaa.SwS Go.Proofs.Ytbmdahhhgpbchaa.SwD Go.Proofs.Ytbmdahhhgpbchaa.SwF Go.Proofs.Ytbmdahhhgpbchaa.SwG Go.Proofs.Ytbmdahhhgpbchaa.SwL Go.Proofs.Ytbmdahhhgpbchaa.ObA Go.Proofs.Ytbmdahhhgpbchaa.ObB Go.Proofs.Ytbmdahhhgpbchaa.ObC Go.Proofs.Ytbmdahhhgpbchaa.OeP Go.Proofs.Ytbmdahhhgpbchaa.OeQ Go.Proofs.Ytbmdahhhgpbchaa.OeA Go.Proofs.Ytbmdahhhgpbchaa.OpA Go.Proofs.Ytbmdahhhgpbchaa.OpB Go.Proofs.Ytbmdahhhgpbchaa.OpC Go.Proofs.Ytbmdahhhgpbchaa.OpD Go.Proofs.Ytbmdahhhgpbchaa.OpE Go.Proofs.Ytbmdahhhgpbchaa.OpF
set_option linter.unusedVariables false
set_option linter.unusedSimpArgs false
set_option maxRecDepth 100000
set_option maxHeartbeats 4000000
/-- Where a segment begins. -/
def sgb (p : Int) : Int := p / 256 * 256
/-- A window of the program and one of the document are of the same. -/
structure Rel (t f : Int) (cm ou : List Int) (s o : List Rg) : Prop where
  ht : 0 ≤ t ∧ t ≤ 20000
  hf : 0 ≤ f ∧ f ≤ t ∧ (f % 256 = 0 ∨ f = t)
  rk : RK t f cm
  hs : Ok t s
  ho : Ok t o
  mem : ∀ p, 0 ≤ p → p < t → (mem s p ↔ p < f ∨ sgb p ∈ cm)
  ond : ou.Nodup
  oel : ∀ a ∈ ou, a % 256 = 0 ∧ endF (lim 0) s ≤ a ∧ a < t ∧ a < endF (lim 0) s + 2048
  omem : ∀ p, 0 ≤ p → p < t → (SpnP.mem o p ↔ sgb p ∈ ou)
theorem sgb_self {a : Int} (h : a % 256 = 0) : sgb a = a := by unfold sgb; omega
theorem Rel.cm {t f : Int} {cm ou : List Int} {s o : List Rg} (h : Rel t f cm ou s o) {a : Int} (h0 : 0 ≤ a) (h1 : a < t) (h2 : a % 256 = 0) : cmF f cm a = true ↔ SpnP.mem s a := by
  rw [h.mem a h0 h1, sgb_self h2]
  simp [cmF]
theorem Rel.cmh {t f : Int} {cm ou : List Int} {s o : List Rg} (h : Rel t f cm ou s o) {a : Int} (h0 : 0 ≤ a) (h1 : a < t) (h2 : a % 256 = 0) : cmF f cm a = hasF s a := by
  have e := (h.cm h0 h1 h2).trans (hasF_mem s a).symm
  cases h3 : cmF f cm a <;> cases h4 : hasF s a <;> simp_all
theorem Rel.ouh {t f : Int} {cm ou : List Int} {s o : List Rg} (h : Rel t f cm ou s o) {a : Int} (h0 : 0 ≤ a) (h1 : a < t) (h2 : a % 256 = 0) : a ∈ ou ↔ hasF o a = true := by
  rw [hasF_mem, h.omem a h0 h1, sgb_self h2]
theorem Rel.seg {t f : Int} {cm ou : List Int} {s o : List Rg} (h : Rel t f cm ou s o) : Sg t s := by
  intro p q hp1 hp2 hq1 hq2 e hm
  have hf := h.hf
  have e2 : sgb p = sgb q := by unfold sgb; rw [e]
  rcases (h.mem p hp1 hp2).1 hm with hm | hm
  · refine (h.mem q hq1 hq2).2 (.inl ?_)
    rcases hf.2.2 with h2 | h2 <;> omega
  · exact (h.mem q hq1 hq2).2 (.inr (e2 ▸ hm))
theorem Rel.bm {t f : Int} {cm ou : List Int} {s o : List Rg} (h : Rel t f cm ou s o) : endF (lim 0) s % 256 = 0 ∨ endF (lim 0) s = t := h.seg.base h.hs h.ht.1
theorem rb_chain {t f : Int} {cm ou : List Int} {s o : List Rg} (h : Rel t f cm ou s o) : ∀ (k : Nat) (a : Int), 0 ≤ a → a ≤ t → (t - a).toNat ≤ k → (a % 256 = 0 ∨ a = t) → (∀ p, 0 ≤ p → p < a → SpnP.mem s p) → rbF t f cm k a = endF (lim 0) s
  | k, a, h0, h1, h2, h3, h4 => by
    have b := h.hs.base h.ht.1
    have hge : a ≤ endF (lim 0) s := by
      apply Decidable.byContradiction
      intro hc
      exact b.2.2.2 (h4 _ b.1 (by omega))
    have stop : ¬ (a < t ∧ cmF f cm a = true) → a = endF (lim 0) s := by
      intro hn
      by_cases ha : a < t
      · have : ¬ SpnP.mem s a := fun hm => hn ⟨ha, (h.cm h0 ha (by omega)).2 hm⟩
        apply Decidable.byContradiction
        intro hc
        exact this (b.2.2.1 a h0 (by omega))
      · omega
    cases k with
    | zero => exact stop (by omega)
    | succ k =>
      rw [rbF]
      by_cases hc : a < t ∧ cmF f cm a = true
      · rw [if_pos hc]
        have hm := (h.cm h0 hc.1 (by omega)).1 hc.2
        refine rb_chain h k (min (a + 256) t) (by omega) (by omega) (by omega) (by omega) (fun p hp1 hp2 => ?_)
        by_cases hpa : p < a
        · exact h4 p hp1 hpa
        · exact h.seg a p h0 hc.1 hp1 (by omega) (by omega) hm
      · rw [if_neg hc]; exact stop hc
theorem Rel.base {t f : Int} {cm ou : List Int} {s o : List Rg} (h : Rel t f cm ou s o) : rbF t f cm t.toNat f = endF (lim 0) s :=
  rb_chain h _ f h.hf.1 h.hf.2.1 (by have := h.hf; omega) h.hf.2.2 (fun p h0 h1 => (h.mem p h0 (by have := h.hf; omega)).2 (.inl h1))
theorem Rel.ri {t f : Int} {cm ou : List Int} {s o : List Rg} (h : Rel t f cm ou s o) : RI t f cm ou := by
  have hb := (h.hs.base h.ht.1).1
  refine ⟨h.ht, ⟨h.hf.1, h.hf.2.1⟩, fun a ha => ?_, fun a ha => ?_, ?_, ?_⟩
  · have := h.rk.el a ha; have := h.hf; omega
  · have := h.oel a ha; omega
  · have := h.rk.len h.hf.1 h.ht.2; omega
  · have := nd_len 80 ou h.ond (fun a ha => by have := h.oel a ha; have := h.ht; omega); omega
theorem Rel.olen {t f : Int} {cm ou : List Int} {s o : List Rg} (h : Rel t f cm ou s o) : ou.length ≤ 80 :=
  nd_len 80 ou h.ond (fun a ha => by have := h.oel a ha; have := (h.hs.base h.ht.1).1; have := h.ht; omega)
/-! ### bytes left -/
def sm (t : Int) (cm : List Int) : Int := cm.foldr (fun a n => (min (a + 256) t - a) + n) 0
theorem lf_sm (t f : Int) : ∀ (cm : List Int) (n : Int), (∀ a ∈ cm, f ≤ a) → cm.foldl (lf1 t f) n = n - sm t cm
  | [], n, _ => by simp [sm]
  | a :: cm, n, h => by
    rw [List.foldl_cons, lf_sm t f cm _ (fun x hx => h x (List.mem_cons_of_mem _ hx))]
    have e : lf1 t f n a = n - (min (a + 256) t - a) := if_pos (h a (List.mem_cons_self ..))
    rw [e]
    simp only [sm, List.foldr_cons]
    omega
theorem cm_count (t f : Int) (ht : 0 ≤ t) (hf : 0 ≤ f ∧ f ≤ t) : ∀ cm : List Int, RK t f cm → ((List.range t.toNat).countP (fun i : Nat => decide ((i : Int) < f) || decide (sgb (i : Int) ∈ cm)) : Int) = f + sm t cm
  | [], _ => by
    have e : (fun i : Nat => decide ((i : Int) < f) || decide (sgb (i : Int) ∈ ([] : List Int))) = fun i : Nat => decide (0 ≤ i ∧ i < f.toNat) := by
      funext i
      simp only [List.not_mem_nil, decide_false, Bool.or_false]
      exact decide_eq_decide.2 (by omega)
    rw [e, countP_range]
    simp [sm]; omega
  | a :: cm, h => by
    have ha := h.el a (List.mem_cons_self ..)
    have hn := (List.nodup_cons.1 h.nd)
    have ih := cm_count t f ht hf cm ⟨hn.2, fun x hx => h.el x (List.mem_cons_of_mem _ hx)⟩
    have e : (List.range t.toNat).countP (fun i : Nat => decide ((i : Int) < f) || decide (sgb (i : Int) ∈ a :: cm)) = (List.range t.toNat).countP (fun i : Nat => decide (a.toNat ≤ i ∧ i < (min (a + 256) t).toNat) || (decide ((i : Int) < f) || decide (sgb (i : Int) ∈ cm))) := by
      refine List.countP_congr (fun i hi => ?_)
      have hi := List.mem_range.1 hi
      have hsg : sgb (i : Int) = a ↔ (a.toNat ≤ i ∧ i < (min (a + 256) t).toNat) := by unfold sgb; omega
      simp only [List.mem_cons, Bool.or_eq_true, decide_eq_true_eq, hsg]
      constructor
      · rintro (h1 | h1 | h1)
        · exact .inr (.inl h1)
        · exact .inl h1
        · exact .inr (.inr h1)
      · rintro (h1 | h1 | h1)
        · exact .inr (.inl h1)
        · exact .inl h1
        · exact .inr (.inr h1)
    rw [e, countP_or, countP_range]
    · simp only [sm, List.foldr_cons]
      simp only [sm] at ih
      omega
    · intro i hi ⟨h1, h2⟩
      have hi := List.mem_range.1 hi
      simp only [Bool.or_eq_true, decide_eq_true_eq] at h1 h2
      have hsg : sgb (i : Int) = a := by unfold sgb; omega
      rcases h2 with h2 | h2
      · omega
      · exact hn.1 (hsg ▸ h2)
theorem Rel.left {t f : Int} {cm ou : List Int} {s o : List Rg} (h : Rel t f cm ou s o) : lfR t f cm = lfF t s := by
  have ht := h.ht
  rw [h.hs.left (by omega), lfR, lf_sm t f cm _ (fun a ha => (h.rk.el a ha).1), ok_count h.hs ht.1]
  have := cm_count t f ht.1 ⟨h.hf.1, h.hf.2.1⟩ cm h.rk
  have e : (List.range t.toNat).countP (fun i : Nat => hasF s (i : Int)) = (List.range t.toNat).countP (fun i : Nat => decide ((i : Int) < f) || decide (sgb (i : Int) ∈ cm)) := by
    refine List.countP_congr (fun i hi => ?_)
    have hi := List.mem_range.1 hi
    rw [hasF_mem, h.mem i (by omega) (by omega)]
    simp
  rw [e]
  omega
end Go.Proofs.Ytbmdahhhgpbchaa.OpG
