import Derived.Test.YtbmdahhhgpbchaaObC
namespace Go.Proofs.Ytbmdahhhgpbchaa.OeP
open Go Go.Sim Go.Sim.E Go.RowKit Go.Proofs Go.Proofs.Ytbmdahhhgpbchaa.Cod Go.Proofs.Ytbmdahhhgpbchaa.Tab Go.Proofs.Ytbmdahhhgpbchaa.Bse Go.Proofs.Ytbmdahhhgpbchaa.SpnP Go.Proofs.Ytbmdahhhgpbchaa.SwA Go.Proofs.Ytbmdahhhgpbchaa.SwB Go.Proofs.Ytbmdahhhgpbchaa.SwC Go.Proofs.Ytbmdahhhgpbchaa.SwS Go.Proofs.Ytbmdahhhgpbchaa.SwD Go.Proofs.Ytbmdahhhgpbchaa.SwF Go.Proofs.Ytbmdahhhgpbchaa.SwG Go.Proofs.Ytbmdahhhgpbchaa.SwL Go.Proofs.Ytbmdahhhgpbchaa.ObA Go.Proofs.Ytbmdahhhgpbchaa.ObB Go.Proofs.Ytbmdahhhgpbchaa.ObC
set_option linter.unusedVariables false
set_option linter.unusedSimpArgs false
set_option maxRecDepth 100000
set_option maxHeartbeats 4000000
/-! ### how much came -/
theorem countP_or {α : Type} (p q : α → Bool) : ∀ l : List α, (∀ x ∈ l, ¬ (p x = true ∧ q x = true)) → l.countP (fun x => p x || q x) = l.countP p + l.countP q
  | [], _ => rfl
  | x :: l, h => by
    have ih := countP_or p q l (fun y hy => h y (List.mem_cons_of_mem _ hy))
    have hx := h x (List.mem_cons_self ..)
    rw [List.countP_cons, List.countP_cons, List.countP_cons, ih]
    cases hp : p x <;> cases hq : q x <;> simp_all <;> omega
theorem countP_range (a b : Nat) : ∀ n : Nat, (List.range n).countP (fun i => decide (a ≤ i ∧ i < b)) = min (max b a) n - min a n
  | 0 => by simp
  | n + 1 => by
    rw [List.range_succ, List.countP_append, countP_range a b n, List.countP_singleton]
    by_cases h : a ≤ n ∧ n < b
    · rw [if_pos (by simpa using h)]; omega
    · rw [if_neg (by simpa using h)]; omega
theorem hasF_cons (r : Rg) (l : List Rg) (n : Int) : hasF (r :: l) n = (decide (r.1 ≤ n ∧ n < r.2) || hasF l n) := rfl
theorem sz_count (n : Nat) : ∀ s : List Rg, Norm s → (∀ r ∈ s, 0 ≤ r.1 ∧ r.2 ≤ n) → sz s = ((List.range n).countP (fun i : Nat => hasF s (i : Int)) : Nat)
  | [], _, _ => by simp [sz, hasF]
  | r :: l, hn, hb => by
    have ih := sz_count n l hn.2.2 (fun q hq => hb q (List.mem_cons_of_mem _ hq))
    have hr := hb r (List.mem_cons_self ..)
    have h1 := hn.1
    have e : (fun i : Nat => hasF (r :: l) (i : Int)) = fun i => decide (r.1.toNat ≤ i ∧ i < r.2.toNat) || hasF l (i : Int) := by
      funext i
      rw [hasF_cons]
      congr 1
      exact decide_eq_decide.2 (by omega)
    rw [e, countP_or, countP_range]
    · simp only [sz, ih]
      omega
    · intro i _ ⟨h2, h3⟩
      obtain ⟨q, hq, h4, h5⟩ := (hasF_mem l (i : Int)).1 h3
      have := hn.2.1 q hq
      simp only [decide_eq_true_eq] at h2
      omega
theorem ok_count {t : Int} {s : List Rg} (h : Ok t s) (ht : 0 ≤ t) : sz s = ((List.range t.toNat).countP (fun i : Nat => hasF s (i : Int)) : Nat) :=
  sz_count t.toNat s h.1 (fun r hr => by have := h.each r hr; omega)
/-- Whole segments. -/
def Sg (t : Int) (s : List Rg) : Prop := ∀ p q : Int, 0 ≤ p → p < t → 0 ≤ q → q < t → p / 256 = q / 256 → mem s p → mem s q
theorem Sg.base {t : Int} {s : List Rg} (h : Sg t s) (hs : Ok t s) (ht : 0 ≤ t) : endF (lim 0) s % 256 = 0 ∨ endF (lim 0) s = t := by
  have b := hs.base ht
  by_cases hb : endF (lim 0) s = t
  · exact .inr hb
  · left
    apply Decidable.byContradiction
    intro hc
    refine b.2.2.2 (h (endF (lim 0) s - 1) _ ?_ ?_ ?_ ?_ ?_ (b.2.2.1 _ ?_ ?_)) <;> omega
end Go.Proofs.Ytbmdahhhgpbchaa.OeP
