import Derived.Test.YtdjjibmjinllnaaDelI
namespace Go.Proofs.Ytdjjibmjinllnaa.DelJ
open Go Go.Sim Go.Sim.E Go.RowKit Go.Proofs Go.Proofs.Ytdjjibmjinllnaa.Cod Go.Proofs.Ytdjjibmjinllnaa.Tab Go.Proofs.Ytdjjibmjinllnaa.Bse Go.Proofs.Ytdjjibmjinllnaa.DelA Go.Proofs.Ytdjjibmjinllnaa.DelB Go.Proofs.Ytdjjibmjinllnaa.DelC Go.Proofs.Ytdjjibmjinllnaa.DelD Go.Proofs.Ytdjjibmjinllnaa.Krc Go.Proofs.Ytdjjibmjinllnaa.DelE Go.Proofs.Ytdjjibmjinllnaa.DelF Go.Proofs.Ytdjjibmjinllnaa.DelG Go.Proofs.Ytdjjibmjinllnaa.DelH Go.Proofs.Ytdjjibmjinllnaa.DelI
set_option linter.unusedVariables false
set_option linter.unusedSimpArgs false
set_option maxRecDepth 100000
set_option maxHeartbeats 4000000
/-! ### the plain law -/
theorem alk_take : ∀ (a b : List Int), a.take (alk a b) = b.take (alk a b)
  | [], b => by simp [alk]
  | x :: a, [] => by simp [alk]
  | x :: a, y :: b => by
    unfold alk
    split
    · rename_i h
      rw [List.take_succ_cons, List.take_succ_cons, alk_take a b, h]
    · simp
theorem bst_take (old fr : List Int) : ∀ i, (old.drop (bst old fr i).1).take (bst old fr i).2 = fr.take (bst old fr i).2
  | 0 => by simp [bst]
  | i + 1 => by
    rw [bst]
    split
    · exact alk_take _ _
    · exact bst_take old fr i
/-- A piece as Make makes them. -/
structure good (old : List Int) (M : Nat) (p : Pc) : Prop where
  r : rightF p = true
  a : p.1 ≤ old.length
  b : p.2.1 ≤ old.length - p.1
  q : p.2.2 = [] ∨ (p.1 = 0 ∧ p.2.1 = 0)
  m : p.2.2.length ≤ M
theorem fin_flat (old : List Int) (P : List Pc) (q : List Int) : (fin P q).flatMap (pcx old) = P.flatMap (pcx old) ++ q := by
  unfold fin
  split
  · rename_i h; subst h; simp
  · rename_i h
    have : 0 < q.length := by
      cases q with
      | nil => exact absurd rfl h
      | cons a q => simp
    rw [List.flatMap_append]
    congr 1
    simp [pcx, this]
theorem fin_good {old : List Int} {M : Nat} {P : List Pc} {q : List Int} (h : ∀ p ∈ P, good old M p) (hq : q.length ≤ M) : ∀ p ∈ fin P q, good old M p := by
  unfold fin
  split
  · exact h
  · rename_i hn
    intro p hp
    rcases List.mem_append.1 hp with hp | hp
    · exact h p hp
    · simp at hp
      subst hp
      have : 0 < q.length := by
        cases q with
        | nil => exact absurd rfl hn
        | cons a q => simp
      exact ⟨by simp [rightF, this], by simp, by simp, .inr ⟨rfl, rfl⟩, hq⟩
theorem mkR_spec (old : List Int) (M : Nat) : ∀ (n : Nat) (P : List Pc) (q fr : List Int), fr.length ≤ n → (∀ p ∈ P, good old M p) → q.length + fr.length ≤ M →
    (∀ p ∈ mkR old n P q fr, good old M p) ∧ (mkR old n P q fr).flatMap (pcx old) = P.flatMap (pcx old) ++ q ++ fr ∧ (mkR old n P q fr).length ≤ P.length + q.length + fr.length
  | 0, P, q, fr, hn, hP, hM => by
    obtain rfl : fr = [] := List.length_eq_zero_iff.1 (by omega)
    refine ⟨fin_good hP (by simpa using hM), ?_, ?_⟩
    · show (fin P q).flatMap (pcx old) = _
      rw [fin_flat]; simp
    · exact Nat.le_trans (fin_length P q) (by simp)
  | n + 1, P, q, [], hn, hP, hM => by
    refine ⟨fin_good hP (by simpa using hM), ?_, ?_⟩
    · show (fin P q).flatMap (pcx old) = _
      rw [fin_flat]; simp
    · exact Nat.le_trans (fin_length P q) (by simp)
  | n + 1, P, q, x :: fr, hn, hP, hM => by
    have hle := bst_le old (x :: fr) old.length
    have htk := bst_take old (x :: fr) old.length
    rw [mkR]
    obtain ⟨rs, hrs⟩ : ∃ rs, rs = x :: fr := ⟨_, rfl⟩
    rw [← hrs] at hle htk ⊢
    obtain ⟨b, hb⟩ : ∃ b, b = bst old rs old.length := ⟨_, rfl⟩
    rw [← hb] at hle htk ⊢
    have h2 := hle.2 (Nat.le_refl _)
    have hrl : rs.length = fr.length + 1 := by rw [hrs]; rfl
    simp only [List.length_cons] at hn hM
    split
    · rename_i h8
      have hdl : (rs.drop b.2).length = rs.length - b.2 := List.length_drop
      have ih := mkR_spec old M n (fin P q ++ [(IN b.1, IN b.2, [])]) [] (rs.drop b.2) (by omega) (by
        intro p hp
        rcases List.mem_append.1 hp with hp | hp
        · exact fin_good hP (by omega) p hp
        · simp at hp
          subst hp
          have e1 : (0 : Int) < IN b.2 := by simp only [IN]; omega
          have e2 : (0 : Int) ≤ IN b.1 := by simp only [IN]; omega
          exact ⟨by simp [rightF, e1, e2], by simp only [IN]; omega, by simp only [IN]; omega, .inl rfl, Nat.zero_le _⟩) (by simp; omega)
      refine ⟨ih.1, ?_, ?_⟩
      · rw [ih.2.1, List.flatMap_append, fin_flat]
        have e3 : pcx old (IN b.1, IN b.2, []) = rs.take b.2 := by
          rw [← htk]; rfl
        simp only [List.flatMap_cons, List.flatMap_nil, List.append_nil, e3, List.append_assoc, List.take_append_drop]
      · have := ih.2.2
        have h3 := fin_length P q
        simp only [List.length_append, List.length_cons, List.length_nil] at this
        omega
    · have ih := mkR_spec old M n P (q ++ [x]) fr (by omega) hP (by simp; omega)
      refine ⟨ih.1, ?_, ?_⟩
      · rw [ih.2.1, hrs]; simp
      · have := ih.2.2
        simp only [List.length_append, List.length_cons, List.length_nil] at this
        omega
theorem mkF_spec (old fresh : List Int) : (∀ p ∈ mkF old fresh, good old fresh.length p) ∧ (mkF old fresh).flatMap (pcx old) = fresh ∧ (mkF old fresh).length ≤ fresh.length := by
  have h := mkR_spec old fresh.length fresh.length [] [] fresh (Nat.le_refl _) (fun p hp => by cases hp) (by simp)
  unfold mkF
  exact ⟨h.1, by simpa using h.2.1, by simpa using h.2.2⟩
theorem apF_good (old : List Int) (M : Nat) : ∀ (l : List Pc) (out : List Int), (∀ p ∈ l, good old M p) → out.length + (l.flatMap (pcx old)).length ≤ 1048576 → apF old l out = (out ++ l.flatMap (pcx old), 0)
  | [], out, _, _ => by simp [apF]
  | p :: l, out, hg, hm => by
    have g := hg p (List.mem_cons_self ..)
    rw [List.flatMap_cons, List.length_append] at hm
    rw [apF, if_pos g.r, if_neg (by have := g.a; omega), if_neg (by have := g.b; omega), if_neg (by omega), apF_good old M l _ (fun q hq => hg q (List.mem_cons_of_mem _ hq)) (by rw [List.length_append]; omega)]
    simp
theorem laF_good (old : List Int) (M : Nat) (ho : old.length ≤ 1000000) (sum : Int) : ∀ (l : List Pc) (out : List Int), (∀ p ∈ l, good old M p) → laF sum l out = (out ++ (l.flatMap pcb ++ 69 :: four sum), 0)
  | [], out, _ => by simp [laF]
  | p :: l, out, hg => by
    have g := hg p (List.mem_cons_self ..)
    have h0 := right_pos g.r
    rw [laF, if_pos g.r, if_neg (by have := g.a; have := g.b; have := Int.max_le (a := p.1) (b := p.2.1) (c := 2147483647); omega), laF_good old M ho sum l _ (fun q hq => hg q (List.mem_cons_of_mem _ hq))]
    simp
theorem pcb_length (p : Pc) : (pcb p).length = if 0 < p.2.2.length then 5 + p.2.2.length else 9 := by
  unfold pcb
  split
  · simp [four_length]; omega
  · simp [four_length]
theorem lay_length (sum : Int) : ∀ l : List Pc, (l.flatMap pcb ++ 69 :: four sum).length = coF l
  | [] => rfl
  | p :: l => by
    have h := lay_length sum l
    rw [List.flatMap_cons, List.append_assoc, List.length_append, h, coF, pcb_length]; omega
theorem num4_four (n : Int) (h0 : 0 ≤ n) (h1 : n < 4294967296) (X : List Int) : num4 (four n ++ X) = n := by
  show ((n / 16777216 % 256 * 256 + n / 65536 % 256) * 256 + n / 256 % 256) * 256 + n % 256 = n
  omega
theorem drop_four (n : Int) (X : List Int) : (four n ++ X).drop 4 = X := rfl
theorem fiF_good {old : List Int} {M : Nat} (ho : old.length ≤ 1000000) (hM : M ≤ 1000000) {p : Pc} (g : good old M p) (X : List Int) : ∃ c t, pcb p ++ X = c :: t ∧ (c = 67 ∨ c = 79) ∧ fiF c t = (p, X, 0) := by
  obtain ⟨a, b, q⟩ := p
  have h0 := right_pos g.r
  have ha := g.a
  have hb := g.b
  have hm := g.m
  have hr := g.r
  simp only at h0 ha hb hm
  by_cases hq : 0 < q.length
  · obtain ⟨rfl, rfl⟩ : a = 0 ∧ b = 0 := by
      rcases g.q with e | e
      · simp only at e; subst e; simp at hq
      · exact e
    refine ⟨79, four (IN q.length) ++ (q ++ X), by simp [pcb, hq], .inr rfl, ?_⟩
    have hn := num4_four (IN q.length) (by simp only [IN]; omega) (by simp only [IN]; omega) (q ++ X)
    have e1 : (IN q.length).toNat = q.length := rfl
    rw [fiF, if_neg (by simp [four_length]), if_neg (by decide), hn, if_neg (by simp only [IN]; omega), if_neg (by simp only [IN]; omega), drop_four, if_neg (by simp only [IN, List.length_append]; omega), e1]
    simp
  · obtain rfl : q = [] := List.length_eq_zero_iff.1 (by omega)
    have hb0 : 0 < b := by
      simp [rightF] at hr; exact hr.1
    refine ⟨67, four a ++ (four b ++ X), by simp [pcb], .inl rfl, ?_⟩
    have hn := num4_four a (by omega) (by omega) (four b ++ X)
    have hn2 := num4_four b (by omega) (by omega) X
    rw [fiF, if_neg (by simp [four_length]), if_pos rfl, hn, drop_four, if_neg (by simp [four_length]), hn2, if_neg (by omega), if_neg (by omega), if_neg (by omega), drop_four]
theorem paF_good {old : List Int} {M : Nat} (ho : old.length ≤ 1000000) (hM : M ≤ 1000000) (sum : Int) (h0 : 0 ≤ sum) (h1 : sum < 4294967296) : ∀ (l : List Pc) (n : Nat) (l0 : List Pc), (∀ p ∈ l, good old M p) → l.length < n → paF n (l.flatMap pcb ++ 69 :: four sum) l0 = (l0 ++ l, sum, 0)
  | [], n + 1, l0, _, _ => by
    have e : laS (four sum) = (sum, 0) := by
      have := num4_four sum h0 h1 []
      rw [List.append_nil] at this
      rw [laS, if_neg (by rw [four_length]; omega), if_neg (by rw [four_length]; omega), this]
    show paF (n + 1) (69 :: four sum) l0 = _
    rw [paF, if_pos rfl, e, if_pos rfl]
    simp
  | p :: l, n + 1, l0, hg, hn => by
    obtain ⟨c, t, e1, e2, e3⟩ := fiF_good ho hM (hg p (List.mem_cons_self ..)) (l.flatMap pcb ++ 69 :: four sum)
    have ih := paF_good ho hM sum h0 h1 l n (l0 ++ [p]) (fun q hq => hg q (List.mem_cons_of_mem _ hq)) (by simpa using hn)
    rw [List.flatMap_cons, List.append_assoc, e1, paF, e3]
    simp only [if_true]
    rw [ih]
    rcases e2 with rfl | rfl <;> simp
theorem paM_good (old fresh : List Int) (ho : old.length ≤ 1000) (hf : fresh.length ≤ 1000) : paM old (laF ((sumN fresh : Nat) : Int) (mkF old fresh) []).1 = (fresh, 0) := by
  obtain ⟨hg, hfl, hlen⟩ := mkF_spec old fresh
  have hl := laF_good old fresh.length (by omega) ((sumN fresh : Nat) : Int) (mkF old fresh) [] hg
  have hs := sumN_lt fresh
  have hap := apF_good old fresh.length (mkF old fresh) [] hg (by rw [hfl]; simp; omega)
  rw [hfl] at hap
  rw [hl]
  simp only [List.nil_append] at hap ⊢
  have hll := lay_length ((sumN fresh : Nat) : Int) (mkF old fresh)
  have hc : (mkF old fresh).length < (List.flatMap pcb (mkF old fresh) ++ 69 :: four ((sumN fresh : Nat) : Int)).length := by
    rw [hll]
    generalize mkF old fresh = R
    induction R with
    | nil => simp [coF]
    | cons p R ih =>
      rw [coF]
      simp only [List.length_cons]
      split <;> omega
  have hp := paF_good (old := old) (M := fresh.length) (by omega) (by omega) ((sumN fresh : Nat) : Int) (by omega) (by omega) (mkF old fresh) _ [] hg hc
  unfold paM
  rw [hp]
  simp only [List.nil_append, if_true]
  rw [hap]
  simp
end Go.Proofs.Ytdjjibmjinllnaa.DelJ
