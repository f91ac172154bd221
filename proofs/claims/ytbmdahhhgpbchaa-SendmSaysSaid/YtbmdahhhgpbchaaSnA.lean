import Derived.Test.YtbmdahhhgpbchaaObC
namespace Go.Proofs.Ytbmdahhhgpbchaa.SnA
open Go Go.Sim Go.Sim.E Go.RowKit Go.Proofs Go.Proofs.Ytbmdahhhgpbchaa.Cod Go.Proofs.Ytbmdahhhgpbchaa.Tab Go.Proofs.Ytbmdahhhgpbchaa.Bse Go.Proofs.Ytbmdahhhgpbchaa.SpnP Go.Proofs.Ytbmdahhhgpbchaa.SwA Go.Proofs.Ytbmdahhhgpbchaa.SwB Go.Proofs.Ytbmdahhhgpbchaa.SwC Go.Proofs.Ytbmdahhhgpbchaa.SwS Go.Proofs.Ytbmdahhhgpbchaa.SwD Go.Proofs.Ytbmdahhhgpbchaa.SwF Go.Proofs.Ytbmdahhhgpbchaa.SwG Go.Proofs.Ytbmdahhhgpbchaa.SwL Go.Proofs.Ytbmdahhhgpbchaa.ObA Go.Proofs.Ytbmdahhhgpbchaa.ObB Go.Proofs.Ytbmdahhhgpbchaa.ObC
set_option linter.unusedVariables false
set_option linter.unusedSimpArgs false
set_option maxRecDepth 100000
set_option maxHeartbeats 4000000
/-! ### the cells of a frame -/
abbrev V (n : Nat) := {l : List Int // l.length = n}
def fc (k : Int) (t : V 16) (es er o n : Int) (su : V 32) (d r : AV) (c : Int) : List AV := I k :: (cB t.1 ++ (U es :: U er :: L o :: L n :: (cB su.1 ++ [d, r, I c])))
section
variable (k : Int) (t : V 16) (es er o n : Int) (su : V 32) (d r : AV) (c : Int)
theorem v16 : (cB t.1).length = 16 := by rw [cB_length]; exact t.2
theorem v32 : (cB su.1).length = 32 := by rw [cB_length]; exact su.2
theorem fc_len : (fc k t es er o n su d r c).length = 56 := by
  have h1 := v16 t
  have h2 := v32 su
  simp [fc, h1, h2]
theorem ap_at (a b : List AV) (j : Nat) : (a ++ b).getD (a.length + j) .un = b.getD j .un := by
  rw [List.getD_eq_getElem?_getD, List.getElem?_append_right (by omega), List.getD_eq_getElem?_getD, Nat.add_sub_cancel_left]
theorem fc_at (j : Nat) : (fc k t es er o n su d r c).getD (17 + j) .un = (U es :: U er :: L o :: L n :: (cB su.1 ++ [d, r, I c])).getD j .un := by
  have h1 := v16 t
  have := ap_at (cB t.1) (U es :: U er :: L o :: L n :: (cB su.1 ++ [d, r, I c])) j
  rw [h1] at this
  rw [← this, show 17 + j = (16 + j) + 1 from by omega]
  rfl
theorem fc_at2 (j : Nat) : (fc k t es er o n su d r c).getD (53 + j) .un = [d, r, I c].getD j .un := by
  have h2 := v32 su
  have := ap_at (cB su.1) [d, r, I c] j
  rw [h2] at this
  rw [← this, show 53 + j = 17 + ((32 + j) + 4) from by omega, fc_at]
  rfl
theorem fc_0 : (fc k t es er o n su d r c).getD 0 .un = I k := rfl
theorem fc_17 : (fc k t es er o n su d r c).getD 17 .un = U es := fc_at k t es er o n su d r c 0
theorem fc_18 : (fc k t es er o n su d r c).getD 18 .un = U er := fc_at k t es er o n su d r c 1
theorem fc_19 : (fc k t es er o n su d r c).getD 19 .un = L o := fc_at k t es er o n su d r c 2
theorem fc_20 : (fc k t es er o n su d r c).getD 20 .un = L n := fc_at k t es er o n su d r c 3
theorem fc_53 : (fc k t es er o n su d r c).getD 53 .un = d := fc_at2 k t es er o n su d r c 0
theorem fc_54 : (fc k t es er o n su d r c).getD 54 .un = r := fc_at2 k t es er o n su d r c 1
theorem fc_55 : (fc k t es er o n su d r c).getD 55 .un = I c := fc_at2 k t es er o n su d r c 2
theorem fc_tok : List.take 16 (List.drop 1 (fc k t es er o n su d r c)) = cB t.1 := by
  have h1 := v16 t
  show List.take 16 (cB t.1 ++ _) = _
  rw [List.take_append_of_le_length (by omega), List.take_of_length_le (by omega)]
theorem fc_dr21 : List.drop 21 (fc k t es er o n su d r c) = cB su.1 ++ [d, r, I c] := by
  have h1 := v16 t
  show List.drop 20 (cB t.1 ++ _) = _
  rw [List.drop_append, List.drop_of_length_le (by omega), h1]
  rfl
theorem fc_sum : List.take 32 (List.drop 21 (fc k t es er o n su d r c)) = cB su.1 := by
  have h2 := v32 su
  rw [fc_dr21, List.take_append_of_le_length (by omega), List.take_of_length_le (by omega)]
theorem st_at (a b : List AV) (j : Nat) (v : AV) : (a ++ b).set (a.length + j) v = a ++ b.set j v := by
  rw [List.set_append_right _ _ (by omega), Nat.add_sub_cancel_left]
theorem fc_st (j : Nat) (v : AV) : (fc k t es er o n su d r c).set (17 + j) v = I k :: (cB t.1 ++ (U es :: U er :: L o :: L n :: (cB su.1 ++ [d, r, I c])).set j v) := by
  have h1 := v16 t
  have := st_at (cB t.1) (U es :: U er :: L o :: L n :: (cB su.1 ++ [d, r, I c])) j v
  rw [h1] at this
  rw [← this, show 17 + j = (16 + j) + 1 from by omega]
  rfl
theorem fc_st2 (j : Nat) (v : AV) : (fc k t es er o n su d r c).set (53 + j) v = I k :: (cB t.1 ++ (U es :: U er :: L o :: L n :: (cB su.1 ++ [d, r, I c].set j v))) := by
  have h2 := v32 su
  have := st_at (cB su.1) [d, r, I c] j v
  rw [h2] at this
  rw [← this, show 53 + j = 17 + ((32 + j) + 4) from by omega, fc_st]
  rfl
theorem fs_0 (v : Int) : (fc k t es er o n su d r c).set 0 (I v) = fc v t es er o n su d r c := rfl
theorem fs_17 (v : Int) : (fc k t es er o n su d r c).set 17 (U v) = fc k t v er o n su d r c := fc_st k t es er o n su d r c 0 _
theorem fs_18 (v : Int) : (fc k t es er o n su d r c).set 18 (U v) = fc k t es v o n su d r c := fc_st k t es er o n su d r c 1 _
theorem fs_19 (v : Int) : (fc k t es er o n su d r c).set 19 (L v) = fc k t es er v n su d r c := fc_st k t es er o n su d r c 2 _
theorem fs_20 (v : Int) : (fc k t es er o n su d r c).set 20 (L v) = fc k t es er o v su d r c := fc_st k t es er o n su d r c 3 _
theorem fs_53 (v : AV) : (fc k t es er o n su d r c).set 53 v = fc k t es er o n su v r c := fc_st2 k t es er o n su d r c 0 _
theorem fs_54 (v : AV) : (fc k t es er o n su d r c).set 54 v = fc k t es er o n su d v c := fc_st2 k t es er o n su d r c 1 _
theorem fs_55 (v : Int) : (fc k t es er o n su d r c).set 55 (I v) = fc k t es er o n su d r v := fc_st2 k t es er o n su d r c 2 _
theorem spl_app : ∀ (x m a b : List AV), m.length = x.length → spl (a ++ (m ++ b)) a.length x = a ++ (x ++ b)
  | [], [], a, b, _ => rfl
  | x :: r, y :: m, a, b, h => by
    show spl ((a ++ (y :: (m ++ b))).set a.length x) (a.length + 1) r = _
    have e : (a ++ (y :: (m ++ b))).set a.length x = (a ++ [x]) ++ (m ++ b) := by
      rw [List.set_append_right _ _ (Nat.le_refl _), Nat.sub_self]; simp
    rw [e]
    have := spl_app r m (a ++ [x]) b (by simpa using h)
    simpa using this
theorem fp_1 (u : V 16) : spl (fc k t es er o n su d r c) 1 (cB u.1) = fc k u es er o n su d r c :=
  spl_app (cB u.1) (cB t.1) [I k] _ (by rw [v16, v16])
theorem fp_21 (u : V 32) : spl (fc k t es er o n su d r c) 21 (cB u.1) = fc k t es er o n u d r c := by
  have h1 := v16 t
  have := spl_app (cB u.1) (cB su.1) (I k :: (cB t.1 ++ [U es, U er, L o, L n])) [d, r, I c] (by rw [v32, v32])
  have e : (I k :: (cB t.1 ++ [U es, U er, L o, L n])).length = 21 := by simp [h1]
  rw [e] at this
  have e2 : ∀ w : V 32, fc k t es er o n w d r c = (I k :: (cB t.1 ++ [U es, U er, L o, L n])) ++ (cB w.1 ++ [d, r, I c]) := by intro w; simp [fc]
  rw [e2, e2]
  exact this
end
theorem fp_0 (x : List AV) (h : x.length = 56) (k : Int) (t : V 16) (es er o n : Int) (su : V 32) (d r : AV) (c : Int) : spl (fc k t es er o n su d r c) 0 x = x := by
  have := spl_app x (fc k t es er o n su d r c) [] [] (by rw [fc_len, h])
  simpa using this
theorem fp_f (k : Int) (t : V 16) (es er o n : Int) (su : V 32) (d r : AV) (c : Int) (k' : Int) (t' : V 16) (es' er' o' n' : Int) (su' : V 32) (d' r' : AV) (c' : Int) :
    spl (fc k t es er o n su d r c) 0 (fc k' t' es' er' o' n' su' d' r' c') = fc k' t' es' er' o' n' su' d' r' c' := fp_0 _ (fc_len ..) ..
theorem rb_1 (k : Int) (t : V 16) (es er o n : Int) (su : V 32) (d r : AV) (c : Int) : rdb (fc k t es er o n su d r c) 1 16 = cB t.1 := fc_tok ..
theorem rb_21 (k : Int) (t : V 16) (es er o n : Int) (su : V 32) (d r : AV) (c : Int) : rdb (fc k t es er o n su d r c) 21 32 = cB su.1 := fc_sum ..
theorem rb_0 (k : Int) (t : V 16) (es er o n : Int) (su : V 32) (d r : AV) (c : Int) : rdb (fc k t es er o n su d r c) 0 56 = fc k t es er o n su d r c := rdb_all (fc_len ..)
def z16 : V 16 := ⟨List.replicate 16 0, rfl⟩
def z32 : V 32 := ⟨List.replicate 32 0, rfl⟩
theorem frzs1_pre (st : St) (ys : List AV) : ∀ xs : List AV, (∀ x ∈ xs, ∃ v, x = .sc v) → frzs1 st (xs ++ ys) = (match frzs1 st ys with | some (a, l, p) => some (xs ++ a, l, p) | none => none)
  | [], _ => by
    show frzs1 st ys = _
    cases frzs1 st ys <;> rfl
  | x :: xs, h => by
    obtain ⟨v, rfl⟩ := h x (List.mem_cons_self ..)
    have ih := frzs1_pre st ys xs (fun x hx => h x (List.mem_cons_of_mem _ hx))
    rw [List.cons_append, frzs1, ih]
    have e : frz1 st (.sc v) = some (.sc v, [], True) := rfl
    rw [e]
    cases frzs1 st ys with
    | none => rfl
    | some z =>
      obtain ⟨a, l, p⟩ := z
      simp
/-- A frame that is handed over. -/
def fcF (k : Int) (t : V 16) (es er o n : Int) (su : V 32) (c : Int) : Option (AV × List (Nat × Nat) × Prop) → Option (AV × List (Nat × Nat) × Prop) → Option (List AV × List (Nat × Nat) × Prop)
  | some (d, l, p), some (r, m, q) => some (fc k t es er o n su d r c, l ++ m, p ∧ q)
  | _, _ => none
theorem fcF1 (k : Int) (t : V 16) (es er o n : Int) (su : V 32) (c : Int) (d r : AV) (l m : List (Nat × Nat)) (p q : Prop) : fcF k t es er o n su c (some (d, l, p)) (some (r, m, q)) = some (fc k t es er o n su d r c, l ++ m, p ∧ q) := rfl
theorem cB_sc (l : List Int) : ∀ x ∈ cB l, ∃ v, x = AV.sc v := by
  intro x hx
  obtain ⟨a, _, rfl⟩ := List.mem_map.1 hx
  exact ⟨_, rfl⟩
theorem fc_split (k : Int) (t : V 16) (es er o n : Int) (su : V 32) (d r : AV) (c : Int) : fc k t es er o n su d r c = (I k :: (cB t.1 ++ (U es :: U er :: L o :: L n :: cB su.1))) ++ [d, r, I c] := by simp [fc]
theorem fc_sc (k : Int) (t : V 16) (es er o n : Int) (su : V 32) : ∀ x ∈ I k :: (cB t.1 ++ (U es :: U er :: L o :: L n :: cB su.1)), ∃ v, x = AV.sc v := by
  intro x hx
  simp only [List.mem_cons, List.mem_append] at hx
  rcases hx with rfl | hx | rfl | rfl | rfl | rfl | hx
  · exact ⟨_, rfl⟩
  · exact cB_sc _ x hx
  · exact ⟨_, rfl⟩
  · exact ⟨_, rfl⟩
  · exact ⟨_, rfl⟩
  · exact ⟨_, rfl⟩
  · exact cB_sc _ x hx
theorem fc_prI (k : Int) (t : V 16) (es er o n : Int) (su : V 32) : okI (I k :: (cB t.1 ++ (U es :: U er :: L o :: L n :: cB su.1))) := by
  intro x hx
  obtain ⟨v, rfl⟩ := fc_sc k t es er o n su x hx
  rfl
theorem fz_fc (st : St) (k : Int) (t : V 16) (es er o n : Int) (su : V 32) (d r : AV) (c : Int) : frzs1 st (fc k t es er o n su d r c) = fcF k t es er o n su c (frz1 st d) (frz1 st r) := by
  rw [fc_split, frzs1_pre _ _ _ (fc_sc k t es er o n su)]
  simp only [frzs1]
  have ec : frz1 st (I c) = some (I c, [], True) := rfl
  rw [ec]
  cases frz1 st d with
  | none => rfl
  | some z =>
    obtain ⟨d', l, p⟩ := z
    cases frz1 st r with
    | none => rfl
    | some z =>
      obtain ⟨r', m, q⟩ := z
      simp [fcF, fc_split]
theorem fc_okI (k : Int) (t : V 16) (es er o n : Int) (su : V 32) (d r : AV) (c : Int) (hd : isF d = true) (hr : isF r = true) : okI (fc k t es er o n su d r c) := by
  rw [fc_split]
  intro x hx
  rcases List.mem_append.1 hx with hx | hx
  · exact fc_prI k t es er o n su x hx
  · simp only [List.mem_cons, List.not_mem_nil, or_false] at hx
    rcases hx with rfl | rfl | rfl
    · exact hd
    · exact hr
    · rfl
theorem fc_rs {ρ : List (Nat × Nat)} {hp hp' : List (Nat × Ob)} (k : Int) (t : V 16) (es er o n : Int) (su : V 32) (d r d' r' : AV) (c : Int) : rv1s ρ hp hp' (fc k t es er o n su d r c) (fc k t es er o n su d' r' c) = (rv1 ρ hp hp' d d' ∧ rv1 ρ hp hp' r r') := by
  have pre : ∀ (xs ys ys' : List AV), okI xs → rv1s ρ hp hp' (xs ++ ys) (xs ++ ys') = rv1s ρ hp hp' ys ys' := by
    intro xs
    induction xs with
    | nil => intro ys ys' _; rfl
    | cons x xs ih =>
      intro ys ys' h
      show (rv1 ρ hp hp' x x ∧ rv1s ρ hp hp' (xs ++ ys) (xs ++ ys')) = _
      rw [ih ys ys' (fun z hz => h z (List.mem_cons_of_mem _ hz))]
      exact propext ⟨fun h => h.2, fun h2 => ⟨rv1_self (h x (List.mem_cons_self ..)), h2⟩⟩
  rw [fc_split, fc_split, pre _ _ _ (fc_prI k t es er o n su)]
  exact propext ⟨fun h => ⟨h.1, h.2.1⟩, fun h => ⟨h.1, h.2, rv1_self rfl, trivial⟩⟩
theorem fc_ok (st : St) (k : Int) (t : V 16) (es er o n : Int) (su : V 32) (d r : AV) (c : Int) : okCells st (fc k t es er o n su d r c) = okCells st [d, r] := by
  rw [fc_split]
  refine propext ⟨fun h x hx => h x (List.mem_append_right _ ?_), fun h x hx => ?_⟩
  · simp only [List.mem_cons, List.not_mem_nil, or_false] at hx ⊢
    rcases hx with rfl | rfl <;> simp
  · rcases List.mem_append.1 hx with hx | hx
    · obtain ⟨v, rfl⟩ := fc_sc k t es er o n su x hx
      have := fc_prI k t es er o n su _ hx
      simp only [List.mem_cons, List.mem_append] at hx
      rcases hx with e | hx | e | e | e | e | hx
      · rw [e]; rfl
      · exact okF_cells (cB_okF _) st _ hx
      · rw [e]; rfl
      · rw [e]; rfl
      · rw [e]; rfl
      · rw [e]; rfl
      · exact okF_cells (cB_okF _) st _ hx
    · simp only [List.mem_cons, List.not_mem_nil, or_false] at hx
      rcases hx with rfl | rfl | rfl
      · exact h _ (by simp)
      · exact h _ (by simp)
      · rfl
theorem fc_id (k : Int) (t : V 16) (es er o n : Int) (su : V 32) (d r : AV) (c : Int) : idL (fc k t es er o n su d r c) = ids1 d ++ ids1 r := by
  have pre : ∀ (xs ys : List AV), (∀ x ∈ xs, ∃ v, x = AV.sc v) → idL (xs ++ ys) = idL ys := by
    intro xs
    induction xs with
    | nil => intro ys _; rfl
    | cons x xs ih =>
      intro ys h
      obtain ⟨v, rfl⟩ := h x (List.mem_cons_self ..)
      show ids1 (.sc v) ++ idL (xs ++ ys) = _
      rw [ih ys (fun z hz => h z (List.mem_cons_of_mem _ hz))]; rfl
  rw [fc_split, pre _ _ (fc_sc k t es er o n su)]
  show ids1 d ++ (ids1 r ++ ([] ++ [])) = _
  simp
/-! ### the cells of a sender -/
def sc (st cd : Int) (src : AV) (su : V 32) (tk : V 16) (es er : Int) (os : AV) (t : Int) (s o : AV) (a : Bool) (b c : Int) (a2 : Bool) (b2 c2 : Int) : List AV :=
  I st :: I cd :: src :: (cB su.1 ++ (cB tk.1 ++ [U es, U er, os, I t, s, o, Bo a, I b, I c, Bo a2, I b2, I c2]))
section
variable (st cd : Int) (src : AV) (su : V 32) (tk : V 16) (es er : Int) (os : AV) (t : Int) (s o : AV) (a : Bool) (b c : Int) (a2 : Bool) (b2 c2 : Int)
theorem sc_len : (sc st cd src su tk es er os t s o a b c a2 b2 c2).length = 63 := by
  have h1 := v16 tk
  have h2 := v32 su
  simp [sc, h1, h2]
theorem sc_0 : (sc st cd src su tk es er os t s o a b c a2 b2 c2).getD 0 .un = I st := rfl
theorem sc_1 : (sc st cd src su tk es er os t s o a b c a2 b2 c2).getD 1 .un = I cd := rfl
theorem sc_2 : (sc st cd src su tk es er os t s o a b c a2 b2 c2).getD 2 .un = src := rfl
theorem sc_dr3 : List.drop 3 (sc st cd src su tk es er os t s o a b c a2 b2 c2) = cB su.1 ++ (cB tk.1 ++ [U es, U er, os, I t, s, o, Bo a, I b, I c, Bo a2, I b2, I c2]) := rfl
theorem sc_dr35 : List.drop 35 (sc st cd src su tk es er os t s o a b c a2 b2 c2) = cB tk.1 ++ [U es, U er, os, I t, s, o, Bo a, I b, I c, Bo a2, I b2, I c2] := by
  have h2 := v32 su
  show List.drop 32 (cB su.1 ++ _) = _
  rw [List.drop_append, List.drop_of_length_le (by omega), h2]
  rfl
theorem sc_dr51 : List.drop 51 (sc st cd src su tk es er os t s o a b c a2 b2 c2) = [U es, U er, os, I t, s, o, Bo a, I b, I c, Bo a2, I b2, I c2] := by
  have h1 := v16 tk
  have h := sc_dr35 st cd src su tk es er os t s o a b c a2 b2 c2
  have : List.drop 51 (sc st cd src su tk es er os t s o a b c a2 b2 c2) = List.drop 16 (List.drop 35 (sc st cd src su tk es er os t s o a b c a2 b2 c2)) := by rw [List.drop_drop]
  rw [this, h, List.drop_append, List.drop_of_length_le (by omega), h1]
  rfl
theorem sc_at (j : Nat) : (sc st cd src su tk es er os t s o a b c a2 b2 c2).getD (51 + j) .un = [U es, U er, os, I t, s, o, Bo a, I b, I c, Bo a2, I b2, I c2].getD j .un := by
  have h := sc_dr51 st cd src su tk es er os t s o a b c a2 b2 c2
  rw [← h, List.getD_eq_getElem?_getD, List.getD_eq_getElem?_getD, List.getElem?_drop]
theorem sc_51 : (sc st cd src su tk es er os t s o a b c a2 b2 c2).getD 51 .un = U es := sc_at st cd src su tk es er os t s o a b c a2 b2 c2 0
theorem sc_52 : (sc st cd src su tk es er os t s o a b c a2 b2 c2).getD 52 .un = U er := sc_at st cd src su tk es er os t s o a b c a2 b2 c2 1
theorem rd_3 : rdb (sc st cd src su tk es er os t s o a b c a2 b2 c2) 3 32 = cB su.1 := by
  have h2 := v32 su
  show List.take 32 (List.drop 3 _) = _
  rw [sc_dr3, List.take_append_of_le_length (by omega), List.take_of_length_le (by omega)]
theorem rd_35 : rdb (sc st cd src su tk es er os t s o a b c a2 b2 c2) 35 16 = cB tk.1 := by
  have h1 := v16 tk
  show List.take 16 (List.drop 35 _) = _
  rw [sc_dr35, List.take_append_of_le_length (by omega), List.take_of_length_le (by omega)]
theorem rd_0 : rdb (sc st cd src su tk es er os t s o a b c a2 b2 c2) 0 63 = sc st cd src su tk es er os t s o a b c a2 b2 c2 := rdb_all (sc_len ..)
theorem ss_0 (v : Int) : (sc st cd src su tk es er os t s o a b c a2 b2 c2).set 0 (I v) = sc v cd src su tk es er os t s o a b c a2 b2 c2 := rfl
theorem ss_1 (v : Int) : (sc st cd src su tk es er os t s o a b c a2 b2 c2).set 1 (I v) = sc st v src su tk es er os t s o a b c a2 b2 c2 := rfl
theorem ss_2 (v : AV) : (sc st cd src su tk es er os t s o a b c a2 b2 c2).set 2 v = sc st cd v su tk es er os t s o a b c a2 b2 c2 := rfl
theorem sc_cut : sc st cd src su tk es er os t s o a b c a2 b2 c2 = (I st :: I cd :: src :: (cB su.1 ++ cB tk.1)) ++ [U es, U er, os, I t, s, o, Bo a, I b, I c, Bo a2, I b2, I c2] := by simp [sc]
theorem sc_cl : (I st :: I cd :: src :: (cB su.1 ++ cB tk.1)).length = 51 := by
  have h1 := v16 tk
  have h2 := v32 su
  simp [h1, h2]
theorem ss_52 (v : Int) : (sc st cd src su tk es er os t s o a b c a2 b2 c2).set 52 (U v) = sc st cd src su tk es v os t s o a b c a2 b2 c2 := by
  have h := sc_cl st cd src su tk
  rw [sc_cut, sc_cut, List.set_append_right _ _ (by omega), h]
  rfl
theorem ss_51 (v : Int) : (sc st cd src su tk es er os t s o a b c a2 b2 c2).set 51 (U v) = sc st cd src su tk v er os t s o a b c a2 b2 c2 := by
  have h := sc_cl st cd src su tk
  rw [sc_cut, sc_cut, List.set_append_right _ _ (by omega), h]
  rfl
theorem sc_53 : (sc st cd src su tk es er os t s o a b c a2 b2 c2).getD 53 .un = os := sc_at st cd src su tk es er os t s o a b c a2 b2 c2 2
theorem ss_53 (v : AV) : (sc st cd src su tk es er os t s o a b c a2 b2 c2).set 53 v = sc st cd src su tk es er v t s o a b c a2 b2 c2 := by
  have h := sc_cl st cd src su tk
  rw [sc_cut, sc_cut, List.set_append_right _ _ (by omega), h]
  rfl
theorem sc_54 : (sc st cd src su tk es er os t s o a b c a2 b2 c2).getD 54 .un = I t := sc_at st cd src su tk es er os t s o a b c a2 b2 c2 3
theorem ss_54 (v : Int) : (sc st cd src su tk es er os t s o a b c a2 b2 c2).set 54 (I v) = sc st cd src su tk es er os v s o a b c a2 b2 c2 := by
  have h := sc_cl st cd src su tk
  rw [sc_cut, sc_cut, List.set_append_right _ _ (by omega), h]
  rfl
theorem sc_55 : (sc st cd src su tk es er os t s o a b c a2 b2 c2).getD 55 .un = s := sc_at st cd src su tk es er os t s o a b c a2 b2 c2 4
theorem ss_55 (v : AV) : (sc st cd src su tk es er os t s o a b c a2 b2 c2).set 55 v = sc st cd src su tk es er os t v o a b c a2 b2 c2 := by
  have h := sc_cl st cd src su tk
  rw [sc_cut, sc_cut, List.set_append_right _ _ (by omega), h]
  rfl
theorem sc_56 : (sc st cd src su tk es er os t s o a b c a2 b2 c2).getD 56 .un = o := sc_at st cd src su tk es er os t s o a b c a2 b2 c2 5
theorem ss_56 (v : AV) : (sc st cd src su tk es er os t s o a b c a2 b2 c2).set 56 v = sc st cd src su tk es er os t s v a b c a2 b2 c2 := by
  have h := sc_cl st cd src su tk
  rw [sc_cut, sc_cut, List.set_append_right _ _ (by omega), h]
  rfl
theorem sc_57 : (sc st cd src su tk es er os t s o a b c a2 b2 c2).getD 57 .un = Bo a := sc_at st cd src su tk es er os t s o a b c a2 b2 c2 6
theorem ss_57 (v : Bool) : (sc st cd src su tk es er os t s o a b c a2 b2 c2).set 57 (Bo v) = sc st cd src su tk es er os t s o v b c a2 b2 c2 := by
  have h := sc_cl st cd src su tk
  rw [sc_cut, sc_cut, List.set_append_right _ _ (by omega), h]
  rfl
theorem sc_58 : (sc st cd src su tk es er os t s o a b c a2 b2 c2).getD 58 .un = I b := sc_at st cd src su tk es er os t s o a b c a2 b2 c2 7
theorem ss_58 (v : Int) : (sc st cd src su tk es er os t s o a b c a2 b2 c2).set 58 (I v) = sc st cd src su tk es er os t s o a v c a2 b2 c2 := by
  have h := sc_cl st cd src su tk
  rw [sc_cut, sc_cut, List.set_append_right _ _ (by omega), h]
  rfl
theorem sc_59 : (sc st cd src su tk es er os t s o a b c a2 b2 c2).getD 59 .un = I c := sc_at st cd src su tk es er os t s o a b c a2 b2 c2 8
theorem ss_59 (v : Int) : (sc st cd src su tk es er os t s o a b c a2 b2 c2).set 59 (I v) = sc st cd src su tk es er os t s o a b v a2 b2 c2 := by
  have h := sc_cl st cd src su tk
  rw [sc_cut, sc_cut, List.set_append_right _ _ (by omega), h]
  rfl
theorem sc_60 : (sc st cd src su tk es er os t s o a b c a2 b2 c2).getD 60 .un = Bo a2 := sc_at st cd src su tk es er os t s o a b c a2 b2 c2 9
theorem ss_60 (v : Bool) : (sc st cd src su tk es er os t s o a b c a2 b2 c2).set 60 (Bo v) = sc st cd src su tk es er os t s o a b c v b2 c2 := by
  have h := sc_cl st cd src su tk
  rw [sc_cut, sc_cut, List.set_append_right _ _ (by omega), h]
  rfl
theorem sc_61 : (sc st cd src su tk es er os t s o a b c a2 b2 c2).getD 61 .un = I b2 := sc_at st cd src su tk es er os t s o a b c a2 b2 c2 10
theorem ss_61 (v : Int) : (sc st cd src su tk es er os t s o a b c a2 b2 c2).set 61 (I v) = sc st cd src su tk es er os t s o a b c a2 v c2 := by
  have h := sc_cl st cd src su tk
  rw [sc_cut, sc_cut, List.set_append_right _ _ (by omega), h]
  rfl
theorem sc_62 : (sc st cd src su tk es er os t s o a b c a2 b2 c2).getD 62 .un = I c2 := sc_at st cd src su tk es er os t s o a b c a2 b2 c2 11
theorem ss_62 (v : Int) : (sc st cd src su tk es er os t s o a b c a2 b2 c2).set 62 (I v) = sc st cd src su tk es er os t s o a b c a2 b2 v := by
  have h := sc_cl st cd src su tk
  rw [sc_cut, sc_cut, List.set_append_right _ _ (by omega), h]
  rfl
theorem sp_3 (u : V 32) : spl (sc st cd src su tk es er os t s o a b c a2 b2 c2) 3 (cB u.1) = sc st cd src u tk es er os t s o a b c a2 b2 c2 :=
  spl_app (cB u.1) (cB su.1) [I st, I cd, src] _ (by rw [v32, v32])
theorem sp_35 (u : V 16) : spl (sc st cd src su tk es er os t s o a b c a2 b2 c2) 35 (cB u.1) = sc st cd src su u es er os t s o a b c a2 b2 c2 := by
  have h2 := v32 su
  have := spl_app (cB u.1) (cB tk.1) (I st :: I cd :: src :: cB su.1) [U es, U er, os, I t, s, o, Bo a, I b, I c, Bo a2, I b2, I c2] (by rw [v16, v16])
  have e : (I st :: I cd :: src :: cB su.1).length = 35 := by simp [h2]
  rw [e] at this
  exact this
end
theorem sp_0 (st cd : Int) (src : AV) (su : V 32) (tk : V 16) (es er : Int) (os : AV) (t : Int) (s o : AV) (a : Bool) (b c : Int) (a2 : Bool) (b2 c2 : Int) (st' cd' : Int) (src' : AV) (su' : V 32) (tk' : V 16) (es' er' : Int) (os' : AV) (t' : Int) (s' o' : AV) (a' : Bool) (b' c' : Int) (a2' : Bool) (b2' c2' : Int) :
    spl (sc st cd src su tk es er os t s o a b c a2 b2 c2) 0 (sc st' cd' src' su' tk' es' er' os' t' s' o' a' b' c' a2' b2' c2') = sc st' cd' src' su' tk' es' er' os' t' s' o' a' b' c' a2' b2' c2' := by
  have := spl_app (sc st' cd' src' su' tk' es' er' os' t' s' o' a' b' c' a2' b2' c2') (sc st cd src su tk es er os t s o a b c a2 b2 c2) [] [] (by rw [sc_len, sc_len])
  simpa using this
abbrev FZ := Option (AV × List (Nat × Nat) × Prop)
def scF (st cd : Int) (su : V 32) (tk : V 16) (es er t : Int) (a : Bool) (b c : Int) (a2 : Bool) (b2 c2 : Int) : FZ → FZ → FZ → FZ → Option (List AV × List (Nat × Nat) × Prop)
  | some (x, l, p), some (y, m, q), some (z, n, r), some (w, k, u) => some (sc st cd x su tk es er y t z w a b c a2 b2 c2, l ++ (m ++ (n ++ k)), p ∧ (q ∧ (r ∧ u)))
  | _, _, _, _ => none
theorem scF1 (st cd : Int) (su : V 32) (tk : V 16) (es er t : Int) (a : Bool) (b c : Int) (a2 : Bool) (b2 c2 : Int) (x y z w : AV) (l m n k : List (Nat × Nat)) (p q r u : Prop) :
    scF st cd su tk es er t a b c a2 b2 c2 (some (x, l, p)) (some (y, m, q)) (some (z, n, r)) (some (w, k, u)) = some (sc st cd x su tk es er y t z w a b c a2 b2 c2, l ++ (m ++ (n ++ k)), p ∧ (q ∧ (r ∧ u))) := rfl
theorem mid_sc (su : V 32) (tk : V 16) (es er : Int) : ∀ x ∈ cB su.1 ++ (cB tk.1 ++ [U es, U er]), ∃ v, x = AV.sc v := by
  intro x hx
  simp only [List.mem_cons, List.mem_append, List.not_mem_nil, or_false] at hx
  rcases hx with hx | hx | rfl | rfl
  · exact cB_sc _ x hx
  · exact cB_sc _ x hx
  · exact ⟨_, rfl⟩
  · exact ⟨_, rfl⟩
theorem sc_split (st cd : Int) (src : AV) (su : V 32) (tk : V 16) (es er : Int) (os : AV) (t : Int) (s o : AV) (a : Bool) (b c : Int) (a2 : Bool) (b2 c2 : Int) :
    sc st cd src su tk es er os t s o a b c a2 b2 c2 = [I st, I cd] ++ (src :: ((cB su.1 ++ (cB tk.1 ++ [U es, U er])) ++ (os :: ([I t] ++ (s :: o :: [Bo a, I b, I c, Bo a2, I b2, I c2]))))) := by simp [sc]
theorem fz_sc (S : St) (st cd : Int) (src : AV) (su : V 32) (tk : V 16) (es er : Int) (os : AV) (t : Int) (s o : AV) (a : Bool) (b c : Int) (a2 : Bool) (b2 c2 : Int) :
    frzs1 S (sc st cd src su tk es er os t s o a b c a2 b2 c2) = scF st cd su tk es er t a b c a2 b2 c2 (frz1 S src) (frz1 S os) (frz1 S s) (frz1 S o) := by
  have ht : frzs1 S [Bo a, I b, I c, Bo a2, I b2, I c2] = some ([Bo a, I b, I c, Bo a2, I b2, I c2], [], True) := by
    simp [frzs1, frz1, isF]
  have cc : ∀ (x : AV) (l : List AV), frzs1 S (x :: l) = match frz1 S x, frzs1 S l with | some (y, l', p), some (ys, ls, q) => some (y :: ys, l' ++ ls, p ∧ q) | _, _ => none := fun _ _ => rfl
  rw [sc_split, frzs1_pre S _ [I st, I cd] (by simp), cc src, frzs1_pre S _ _ (mid_sc su tk es er), cc os, frzs1_pre S _ [I t] (by simp), cc s, cc o, ht]
  cases frz1 S src with
  | none => rfl
  | some x =>
    cases frz1 S os with
    | none => rfl
    | some y =>
      cases frz1 S s with
      | none => rfl
      | some z =>
        cases frz1 S o with
        | none => rfl
        | some w =>
          obtain ⟨x, l, p⟩ := x
          obtain ⟨y, m, q⟩ := y
          obtain ⟨z, n, r⟩ := z
          obtain ⟨w, k, u⟩ := w
          simp [scF, sc_split]
theorem sc_ok (S : St) (st cd : Int) (src : AV) (su : V 32) (tk : V 16) (es er : Int) (os : AV) (t : Int) (s o : AV) (a : Bool) (b c : Int) (a2 : Bool) (b2 c2 : Int) :
    okCells S (sc st cd src su tk es er os t s o a b c a2 b2 c2) = okCells S [src, os, s, o] := by
  have hm : ∀ x ∈ cB su.1 ++ (cB tk.1 ++ [U es, U er]), okc S x = true := by
    intro x hx
    simp only [List.mem_cons, List.mem_append, List.not_mem_nil, or_false] at hx
    rcases hx with hx | hx | rfl | rfl
    · exact okF_cells (cB_okF _) S x hx
    · exact okF_cells (cB_okF _) S x hx
    · rfl
    · rfl
  rw [sc_split]
  refine propext ⟨fun h x hx => h x ?_, fun h x hx => ?_⟩
  · simp only [List.mem_cons, List.not_mem_nil, or_false] at hx
    rcases hx with rfl | rfl | rfl | rfl <;> simp
  · rcases List.mem_append.1 hx with hx | hx
    · simp only [List.mem_cons, List.not_mem_nil, or_false] at hx
      rcases hx with rfl | rfl <;> rfl
    · rcases List.mem_cons.1 hx with rfl | hx
      · exact h _ (by simp)
      · rcases List.mem_append.1 hx with hx | hx
        · exact hm x hx
        · simp only [List.cons_append, List.nil_append, List.mem_cons, List.not_mem_nil, or_false] at hx
          rcases hx with rfl | rfl | rfl | rfl | rfl | rfl | rfl | rfl | rfl | rfl
          · exact h _ (by simp)
          · rfl
          · exact h _ (by simp)
          · exact h _ (by simp)
          all_goals rfl
theorem sc_id (st cd : Int) (src : AV) (su : V 32) (tk : V 16) (es er : Int) (os : AV) (t : Int) (s o : AV) (a : Bool) (b c : Int) (a2 : Bool) (b2 c2 : Int) :
    idL (sc st cd src su tk es er os t s o a b c a2 b2 c2) = ids1 src ++ (ids1 os ++ (ids1 s ++ ids1 o)) := by
  have pre : ∀ xs : List AV, (∀ x ∈ xs, ∃ v, x = AV.sc v) → xs.flatMap ids1 = [] := by
    intro xs h
    rw [List.flatMap_eq_nil_iff]
    intro x hx
    obtain ⟨v, rfl⟩ := h x hx
    rfl
  rw [sc_split]
  unfold idL
  have e0 : ∀ v, ids1 (.sc v) = [] := fun _ => rfl
  simp only [List.flatMap_append, List.flatMap_cons, pre _ (mid_sc su tk es er), List.flatMap_nil, List.append_nil, List.nil_append, e0]
theorem rs_pre {ρ : List (Nat × Nat)} {hp hp' : List (Nat × Ob)} : ∀ (xs ys ys' : List AV), okI xs → rv1s ρ hp hp' (xs ++ ys) (xs ++ ys') = rv1s ρ hp hp' ys ys'
  | [], ys, ys', _ => rfl
  | x :: xs, ys, ys', h => by
    show (rv1 ρ hp hp' x x ∧ rv1s ρ hp hp' (xs ++ ys) (xs ++ ys')) = _
    rw [rs_pre xs ys ys' (fun z hz => h z (List.mem_cons_of_mem _ hz))]
    exact propext ⟨fun h => h.2, fun h2 => ⟨rv1_self (h x (List.mem_cons_self ..)), h2⟩⟩
theorem sc_rs {ρ : List (Nat × Nat)} {hp hp' : List (Nat × Ob)} (st cd : Int) (src : AV) (su : V 32) (tk : V 16) (es er : Int) (os : AV) (t : Int) (s o : AV) (a : Bool) (b c : Int) (a2 : Bool) (b2 c2 : Int) (src' os' s' o' : AV) :
    rv1s ρ hp hp' (sc st cd src su tk es er os t s o a b c a2 b2 c2) (sc st cd src' su tk es er os' t s' o' a b c a2 b2 c2) = (rv1 ρ hp hp' src src' ∧ (rv1 ρ hp hp' os os' ∧ (rv1 ρ hp hp' s s' ∧ rv1 ρ hp hp' o o'))) := by
  have hI : ∀ xs : List AV, (∀ x ∈ xs, ∃ v, x = AV.sc v) → okI xs := fun xs h x hx => by obtain ⟨v, rfl⟩ := h x hx; rfl
  rw [sc_split, sc_split, rs_pre _ _ _ (hI [I st, I cd] (by simp))]
  show (rv1 ρ hp hp' src src' ∧ rv1s ρ hp hp' (_ ++ _) (_ ++ _)) = _
  rw [rs_pre _ _ _ (hI _ (mid_sc su tk es er))]
  show (rv1 ρ hp hp' src src' ∧ (rv1 ρ hp hp' os os' ∧ rv1s ρ hp hp' (_ ++ _) (_ ++ _))) = _
  rw [rs_pre _ _ _ (hI [I t] (by simp))]
  show (rv1 ρ hp hp' src src' ∧ (rv1 ρ hp hp' os os' ∧ (rv1 ρ hp hp' s s' ∧ (rv1 ρ hp hp' o o' ∧ rv1s ρ hp hp' _ _)))) = _
  refine propext ⟨fun ⟨h1, h2, h3, h4, _⟩ => ⟨h1, h2, h3, h4⟩, fun ⟨h1, h2, h3, h4⟩ => ⟨h1, h2, h3, h4, rs_self (hI _ (by simp))⟩⟩
theorem sks_cB : ∀ (l : List LK) (a b : List Int), (∀ x ∈ l, x = LK.i) → a.length = l.length → b.length = l.length → sks l (cB a) (cB b)
  | [], [], [], _, _, _ => trivial
  | x :: l, a :: xs, b :: ys, h, h1, h2 => by
    have hx := h x (List.mem_cons_self ..)
    subst hx
    exact ⟨rfl, sks_cB l xs ys (fun y hy => h y (List.mem_cons_of_mem _ hy)) (by simpa using h1) (by simpa using h2)⟩
theorem cB_inj {a b : List Int} (h : cB a = cB b) : a = b := by
  induction a generalizing b with
  | nil => cases b with | nil => rfl | cons y b => cases h
  | cons x a ih =>
    cases b with
    | nil => cases h
    | cons y b =>
      have h' : Y x :: cB a = Y y :: cB b := h
      injection h' with h1 h2
      injection h1 with h1
      injection h1 with _ h1
      rw [h1, ih h2]
theorem eqL_V (n : Nat) (a b : V n) : eqL (cB a.1) (cB b.1) = decide (a = b) := by
  unfold eqL
  by_cases h : a = b
  · subst h; simp
  · have : ¬ cB a.1 = cB b.1 := fun e => h (Subtype.ext (cB_inj e))
    simp [h, this]
theorem eqL_self (l : List AV) : eqL l l = true := by simp [eqL]
theorem sk16 (a b : V 16) : sks [.i, .i, .i, .i, .i, .i, .i, .i, .i, .i, .i, .i, .i, .i, .i, .i] (cB a.1) (cB b.1) = True := eq_true (sks_cB _ _ _ (by decide) a.2 b.2)
theorem flL_fz (k : Int) (t : V 16) (es er o n : Int) (su : V 32) (a : Nat) (b : List AV) (r : AV) (c : Int) : flL (fc k t es er o n su (.fz a b) r c) = false := by
  rw [fc_split]
  unfold flL
  rw [List.all_append]
  have : ([AV.fz a b, r, I c].all isFl) = false := by
    rw [List.all_cons]; rfl
  rw [this, Bool.and_false]
theorem flL_sc (st cd : Int) (n : Nat) (q : List AV) (su : V 32) (tk : V 16) (es er : Int) (os : AV) (t : Int) (s o : AV) (a : Bool) (b c : Int) (a2 : Bool) (b2 c2 : Int) : flL (sc st cd (.fz n q) su tk es er os t s o a b c a2 b2 c2) = false := rfl
end Go.Proofs.Ytbmdahhhgpbchaa.SnA
