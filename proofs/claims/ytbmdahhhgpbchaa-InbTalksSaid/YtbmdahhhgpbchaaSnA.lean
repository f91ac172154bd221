import Derived.Test.YtbmdahhhgpbchaaObC
namespace Go.Proofs.Ytbmdahhhgpbchaa.SnA
open Go Go.Sim Go.Sim.E Go.RowKit Go.Proofs Go.Proofs.Ytbmdahhhgpbchaa.Cod Go.Proofs.Ytbmdahhhgpbchaa.Tab Go.Proofs.Ytbmdahhhgpbchaa.Bse Go.Proofs.Ytbmdahhhgpbchaa.SpnP Go.Proofs.Ytbmdahhhgpbchaa.SwA Go.Proofs.Ytbmdahhhgpbchaa.SwB Go.Proofs.Ytbmdahhhgpbchaa.SwC Go.Proofs.Ytbmdahhhgpbchaa.SwS Go.Proofs.Ytbmdahhhgpbchaa.SwD Go.Proofs.Ytbmdahhhgpbchaa.SwF Go.Proofs.Ytbmdahhhgpbchaa.SwG Go.Proofs.Ytbmdahhhgpbchaa.SwL Go.Proofs.Ytbmdahhhgpbchaa.ObA Go.Proofs.Ytbmdahhhgpbchaa.ObB Go.Proofs.Ytbmdahhhgpbchaa.ObC
set_option linter.unusedVariables false
set_option linter.unusedSimpArgs false
set_option maxRecDepth 100000
set_option maxHeartbeats 4000000
/-! ### the cells of a frame -/
abbrev V (n : Nat) := {l : List Int // l.length = n}
def fc (k : Int) (t : V 16) (es er o n : Int) (su : V 32) (d r : AV) (c : Int) : List AV := I k :: (cB t.1 ++ (U es :: U er :: L o :: L n :: (cB su.1 ++ [d, r, I c])))
section
variable (k : Int) (t : V 16) (es er o n : Int) (su : V 32) (d r : AV) (c : Int)
theorem v16 : (cB t.1).length = 16 := by rw [cB_length]; exact t.2
theorem v32 : (cB su.1).length = 32 := by rw [cB_length]; exact su.2
theorem fc_len : (fc k t es er o n su d r c).length = 56 := by
  have h1 := v16 t
  have h2 := v32 su
  simp [fc, h1, h2]
theorem ap_at (a b : List AV) (j : Nat) : (a ++ b).getD (a.length + j) .un = b.getD j .un := by
  rw [List.getD_eq_getElem?_getD, List.getElem?_append_right (by omega), List.getD_eq_getElem?_getD, Nat.add_sub_cancel_left]
theorem fc_at (j : Nat) : (fc k t es er o n su d r c).getD (17 + j) .un = (U es :: U er :: L o :: L n :: (cB su.1 ++ [d, r, I c])).getD j .un := by
  have h1 := v16 t
  have := ap_at (cB t.1) (U es :: U er :: L o :: L n :: (cB su.1 ++ [d, r, I c])) j
  rw [h1] at this
  rw [← this, show 17 + j = (16 + j) + 1 from by omega]
  rfl
theorem fc_at2 (j : Nat) : (fc k t es er o n su d r c).getD (53 + j) .un = [d, r, I c].getD j .un := by
  have h2 := v32 su
  have := ap_at (cB su.1) [d, r, I c] j
  rw [h2] at this
  rw [← this, show 53 + j = 17 + ((32 + j) + 4) from by omega, fc_at]
  rfl
theorem fc_0 : (fc k t es er o n su d r c).getD 0 .un = I k := rfl
theorem fc_17 : (fc k t es er o n su d r c).getD 17 .un = U es := fc_at k t es er o n su d r c 0
theorem fc_18 : (fc k t es er o n su d r c).getD 18 .un = U er := fc_at k t es er o n su d r c 1
theorem fc_19 : (fc k t es er o n su d r c).getD 19 .un = L o := fc_at k t es er o n su d r c 2
theorem fc_20 : (fc k t es er o n su d r c).getD 20 .un = L n := fc_at k t es er o n su d r c 3
theorem fc_53 : (fc k t es er o n su d r c).getD 53 .un = d := fc_at2 k t es er o n su d r c 0
theorem fc_54 : (fc k t es er o n su d r c).getD 54 .un = r := fc_at2 k t es er o n su d r c 1
theorem fc_55 : (fc k t es er o n su d r c).getD 55 .un = I c := fc_at2 k t es er o n su d r c 2
theorem fc_tok : List.take 16 (List.drop 1 (fc k t es er o n su d r c)) = cB t.1 := by
  have h1 := v16 t
  show List.take 16 (cB t.1 ++ _) = _
  rw [List.take_append_of_le_length (by omega), List.take_of_length_le (by omega)]
theorem fc_dr21 : List.drop 21 (fc k t es er o n su d r c) = cB su.1 ++ [d, r, I c] := by
  have h1 := v16 t
  show List.drop 20 (cB t.1 ++ _) = _
  rw [List.drop_append, List.drop_of_length_le (by omega), h1]
  rfl
theorem fc_sum : List.take 32 (List.drop 21 (fc k t es er o n su d r c)) = cB su.1 := by
  have h2 := v32 su
  rw [fc_dr21, List.take_append_of_le_length (by omega), List.take_of_length_le (by omega)]
theorem st_at (a b : List AV) (j : Nat) (v : AV) : (a ++ b).set (a.length + j) v = a ++ b.set j v := by
  rw [List.set_append_right _ _ (by omega), Nat.add_sub_cancel_left]
theorem fc_st (j : Nat) (v : AV) : (fc k t es er o n su d r c).set (17 + j) v = I k :: (cB t.1 ++ (U es :: U er :: L o :: L n :: (cB su.1 ++ [d, r, I c])).set j v) := by
  have h1 := v16 t
  have := st_at (cB t.1) (U es :: U er :: L o :: L n :: (cB su.1 ++ [d, r, I c])) j v
  rw [h1] at this
  rw [← this, show 17 + j = (16 + j) + 1 from by omega]
  rfl
theorem fc_st2 (j : Nat) (v : AV) : (fc k t es er o n su d r c).set (53 + j) v = I k :: (cB t.1 ++ (U es :: U er :: L o :: L n :: (cB su.1 ++ [d, r, I c].set j v))) := by
  have h2 := v32 su
  have := st_at (cB su.1) [d, r, I c] j v
  rw [h2] at this
  rw [← this, show 53 + j = 17 + ((32 + j) + 4) from by omega, fc_st]
  rfl
theorem fs_0 (v : Int) : (fc k t es er o n su d r c).set 0 (I v) = fc v t es er o n su d r c := rfl
theorem fs_17 (v : Int) : (fc k t es er o n su d r c).set 17 (U v) = fc k t v er o n su d r c := fc_st k t es er o n su d r c 0 _
theorem fs_18 (v : Int) : (fc k t es er o n su d r c).set 18 (U v) = fc k t es v o n su d r c := fc_st k t es er o n su d r c 1 _
theorem fs_19 (v : Int) : (fc k t es er o n su d r c).set 19 (L v) = fc k t es er v n su d r c := fc_st k t es er o n su d r c 2 _
theorem fs_20 (v : Int) : (fc k t es er o n su d r c).set 20 (L v) = fc k t es er o v su d r c := fc_st k t es er o n su d r c 3 _
theorem fs_53 (v : AV) : (fc k t es er o n su d r c).set 53 v = fc k t es er o n su v r c := fc_st2 k t es er o n su d r c 0 _
theorem fs_54 (v : AV) : (fc k t es er o n su d r c).set 54 v = fc k t es er o n su d v c := fc_st2 k t es er o n su d r c 1 _
theorem fs_55 (v : Int) : (fc k t es er o n su d r c).set 55 (I v) = fc k t es er o n su d r v := fc_st2 k t es er o n su d r c 2 _
theorem spl_app : ∀ (x m a b : List AV), m.length = x.length → spl (a ++ (m ++ b)) a.length x = a ++ (x ++ b)
  | [], [], a, b, _ => rfl
  | x :: r, y :: m, a, b, h => by
    show spl ((a ++ (y :: (m ++ b))).set a.length x) (a.length + 1) r = _
    have e : (a ++ (y :: (m ++ b))).set a.length x = (a ++ [x]) ++ (m ++ b) := by
      rw [List.set_append_right _ _ (Nat.le_refl _), Nat.sub_self]; simp
    rw [e]
    have := spl_app r m (a ++ [x]) b (by simpa using h)
    simpa using this
theorem fp_1 (u : V 16) : spl (fc k t es er o n su d r c) 1 (cB u.1) = fc k u es er o n su d r c :=
  spl_app (cB u.1) (cB t.1) [I k] _ (by rw [v16, v16])
theorem fp_21 (u : V 32) : spl (fc k t es er o n su d r c) 21 (cB u.1) = fc k t es er o n u d r c := by
  have h1 := v16 t
  have := spl_app (cB u.1) (cB su.1) (I k :: (cB t.1 ++ [U es, U er, L o, L n])) [d, r, I c] (by rw [v32, v32])
  have e : (I k :: (cB t.1 ++ [U es, U er, L o, L n])).length = 21 := by simp [h1]
  rw [e] at this
  have e2 : ∀ w : V 32, fc k t es er o n w d r c = (I k :: (cB t.1 ++ [U es, U er, L o, L n])) ++ (cB w.1 ++ [d, r, I c]) := by intro w; simp [fc]
  rw [e2, e2]
  exact this
end
theorem fp_0 (x : List AV) (h : x.length = 56) (k : Int) (t : V 16) (es er o n : Int) (su : V 32) (d r : AV) (c : Int) : spl (fc k t es er o n su d r c) 0 x = x := by
  have := spl_app x (fc k t es er o n su d r c) [] [] (by rw [fc_len, h])
  simpa using this
theorem fp_f (k : Int) (t : V 16) (es er o n : Int) (su : V 32) (d r : AV) (c : Int) (k' : Int) (t' : V 16) (es' er' o' n' : Int) (su' : V 32) (d' r' : AV) (c' : Int) :
    spl (fc k t es er o n su d r c) 0 (fc k' t' es' er' o' n' su' d' r' c') = fc k' t' es' er' o' n' su' d' r' c' := fp_0 _ (fc_len ..) ..
theorem rb_1 (k : Int) (t : V 16) (es er o n : Int) (su : V 32) (d r : AV) (c : Int) : rdb (fc k t es er o n su d r c) 1 16 = cB t.1 := fc_tok ..
theorem rb_21 (k : Int) (t : V 16) (es er o n : Int) (su : V 32) (d r : AV) (c : Int) : rdb (fc k t es er o n su d r c) 21 32 = cB su.1 := fc_sum ..
theorem rb_0 (k : Int) (t : V 16) (es er o n : Int) (su : V 32) (d r : AV) (c : Int) : rdb (fc k t es er o n su d r c) 0 56 = fc k t es er o n su d r c := rdb_all (fc_len ..)
def z16 : V 16 := ⟨List.replicate 16 0, rfl⟩
def z32 : V 32 := ⟨List.replicate 32 0, rfl⟩
theorem frzs1_pre (st : St) (ys : List AV) : ∀ xs : List AV, (∀ x ∈ xs, ∃ v, x = .sc v) → frzs1 st (xs ++ ys) = (match frzs1 st ys with | some (a, l, p) => some (xs ++ a, l, p) | none => none)
  | [], _ => by
    show frzs1 st ys = _
    cases frzs1 st ys <;> rfl
  | x :: xs, h => by
    obtain ⟨v, rfl⟩ := h x (List.mem_cons_self ..)
    have ih := frzs1_pre st ys xs (fun x hx => h x (List.mem_cons_of_mem _ hx))
    rw [List.cons_append, frzs1, ih]
    have e : frz1 st (.sc v) = some (.sc v, [], True) := rfl
    rw [e]
    cases frzs1 st ys with
    | none => rfl
    | some z =>
      obtain ⟨a, l, p⟩ := z
      simp
/-- A frame that is handed over. -/
def fcF (k : Int) (t : V 16) (es er o n : Int) (su : V 32) (c : Int) : Option (AV × List (Nat × Nat) × Prop) → Option (AV × List (Nat × Nat) × Prop) → Option (List AV × List (Nat × Nat) × Prop)
  | some (d, l, p), some (r, m, q) => some (fc k t es er o n su d r c, l ++ m, p ∧ q)
  | _, _ => none
theorem fcF1 (k : Int) (t : V 16) (es er o n : Int) (su : V 32) (c : Int) (d r : AV) (l m : List (Nat × Nat)) (p q : Prop) : fcF k t es er o n su c (some (d, l, p)) (some (r, m, q)) = some (fc k t es er o n su d r c, l ++ m, p ∧ q) := rfl
theorem cB_sc (l : List Int) : ∀ x ∈ cB l, ∃ v, x = AV.sc v := by
  intro x hx
  obtain ⟨a, _, rfl⟩ := List.mem_map.1 hx
  exact ⟨_, rfl⟩
theorem fc_split (k : Int) (t : V 16) (es er o n : Int) (su : V 32) (d r : AV) (c : Int) : fc k t es er o n su d r c = (I k :: (cB t.1 ++ (U es :: U er :: L o :: L n :: cB su.1))) ++ [d, r, I c] := by simp [fc]
theorem fc_sc (k : Int) (t : V 16) (es er o n : Int) (su : V 32) : ∀ x ∈ I k :: (cB t.1 ++ (U es :: U er :: L o :: L n :: cB su.1)), ∃ v, x = AV.sc v := by
  intro x hx
  simp only [List.mem_cons, List.mem_append] at hx
  rcases hx with rfl | hx | rfl | rfl | rfl | rfl | hx
  · exact ⟨_, rfl⟩
  · exact cB_sc _ x hx
  · exact ⟨_, rfl⟩
  · exact ⟨_, rfl⟩
  · exact ⟨_, rfl⟩
  · exact ⟨_, rfl⟩
  · exact cB_sc _ x hx
theorem fc_prI (k : Int) (t : V 16) (es er o n : Int) (su : V 32) : okI (I k :: (cB t.1 ++ (U es :: U er :: L o :: L n :: cB su.1))) := by
  intro x hx
  obtain ⟨v, rfl⟩ := fc_sc k t es er o n su x hx
  rfl
theorem fz_fc (st : St) (k : Int) (t : V 16) (es er o n : Int) (su : V 32) (d r : AV) (c : Int) : frzs1 st (fc k t es er o n su d r c) = fcF k t es er o n su c (frz1 st d) (frz1 st r) := by
  rw [fc_split, frzs1_pre _ _ _ (fc_sc k t es er o n su)]
  simp only [frzs1]
  have ec : frz1 st (I c) = some (I c, [], True) := rfl
  rw [ec]
  cases frz1 st d with
  | none => rfl
  | some z =>
    obtain ⟨d', l, p⟩ := z
    cases frz1 st r with
    | none => rfl
    | some z =>
      obtain ⟨r', m, q⟩ := z
      simp [fcF, fc_split]
theorem fc_rs {ρ : List (Nat × Nat)} {hp hp' : List (Nat × Ob)} (k : Int) (t : V 16) (es er o n : Int) (su : V 32) (d r d' r' : AV) (c : Int) : rv1s ρ hp hp' (fc k t es er o n su d r c) (fc k t es er o n su d' r' c) = (rv1 ρ hp hp' d d' ∧ rv1 ρ hp hp' r r') := by
  have pre : ∀ (xs ys ys' : List AV), okI xs → rv1s ρ hp hp' (xs ++ ys) (xs ++ ys') = rv1s ρ hp hp' ys ys' := by
    intro xs
    induction xs with
    | nil => intro ys ys' _; rfl
    | cons x xs ih =>
      intro ys ys' h
      show (rv1 ρ hp hp' x x ∧ rv1s ρ hp hp' (xs ++ ys) (xs ++ ys')) = _
      rw [ih ys ys' (fun z hz => h z (List.mem_cons_of_mem _ hz))]
      exact propext ⟨fun h => h.2, fun h2 => ⟨rv1_self (h x (List.mem_cons_self ..)), h2⟩⟩
  rw [fc_split, fc_split, pre _ _ _ (fc_prI k t es er o n su)]
  exact propext ⟨fun h => ⟨h.1, h.2.1⟩, fun h => ⟨h.1, h.2, rv1_self rfl, trivial⟩⟩
theorem fc_ok (st : St) (k : Int) (t : V 16) (es er o n : Int) (su : V 32) (d r : AV) (c : Int) : okCells st (fc k t es er o n su d r c) = okCells st [d, r] := by
  rw [fc_split]
  refine propext ⟨fun h x hx => h x (List.mem_append_right _ ?_), fun h x hx => ?_⟩
  · simp only [List.mem_cons, List.not_mem_nil, or_false] at hx ⊢
    rcases hx with rfl | rfl <;> simp
  · rcases List.mem_append.1 hx with hx | hx
    · obtain ⟨v, rfl⟩ := fc_sc k t es er o n su x hx
      have := fc_prI k t es er o n su _ hx
      simp only [List.mem_cons, List.mem_append] at hx
      rcases hx with e | hx | e | e | e | e | hx
      · rw [e]; rfl
      · exact okF_cells (cB_okF _) st _ hx
      · rw [e]; rfl
      · rw [e]; rfl
      · rw [e]; rfl
      · rw [e]; rfl
      · exact okF_cells (cB_okF _) st _ hx
    · simp only [List.mem_cons, List.not_mem_nil, or_false] at hx
      rcases hx with rfl | rfl | rfl
      · exact h _ (by simp)
      · exact h _ (by simp)
      · rfl
theorem fc_id (k : Int) (t : V 16) (es er o n : Int) (su : V 32) (d r : AV) (c : Int) : idL (fc k t es er o n su d r c) = ids1 d ++ ids1 r := by
  have pre : ∀ (xs ys : List AV), (∀ x ∈ xs, ∃ v, x = AV.sc v) → idL (xs ++ ys) = idL ys := by
    intro xs
    induction xs with
    | nil => intro ys _; rfl
    | cons x xs ih =>
      intro ys h
      obtain ⟨v, rfl⟩ := h x (List.mem_cons_self ..)
      show ids1 (.sc v) ++ idL (xs ++ ys) = _
      rw [ih ys (fun z hz => h z (List.mem_cons_of_mem _ hz))]; rfl
  rw [fc_split, pre _ _ (fc_sc k t es er o n su)]
  show ids1 d ++ (ids1 r ++ ([] ++ [])) = _
  simp
/-! ### the cells of a sender -/
def sc (st cd : Int) (src : AV) (su : V 32) (tk : V 16) (es er : Int) (os : AV) (t : Int) (s o : AV) (a : Bool) (b c : Int) (a2 : Bool) (b2 c2 : Int) : List AV :=
  I st :: I cd :: src :: (cB su.1 ++ (cB tk.1 ++ [U es, U er, os, I t, s, o, Bo a, I b, I c, Bo a2, I b2, I c2]))
section
variable (st cd : Int) (src : AV) (su : V 32) (tk : V 16) (es er : Int) (os : AV) (t : Int) (s o : AV) (a : Bool) (b c : Int) (a2 : Bool) (b2 c2 : Int)
end
theorem flL_fz (k : Int) (t : V 16) (es er o n : Int) (su : V 32) (a : Nat) (b : List AV) (r : AV) (c : Int) : flL (fc k t es er o n su (.fz a b) r c) = false := by
  rw [fc_split]
  unfold flL
  rw [List.all_append]
  have : ([AV.fz a b, r, I c].all isFl) = false := by
    rw [List.all_cons]; rfl
  rw [this, Bool.and_false]
end Go.Proofs.Ytbmdahhhgpbchaa.SnA
