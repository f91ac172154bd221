import Derived.Test.YthhccabdlajngaaFrmS
namespace Go.Proofs.Ythhccabdlajngaa.FrmT
open Go Go.Sim Go.Sim.E Go.RowKit Go.Proofs Go.Proofs.Ythhccabdlajngaa.Cod Go.Proofs.Ythhccabdlajngaa.Tab Go.Proofs.Ythhccabdlajngaa.Bse Go.Proofs.Ythhccabdlajngaa.Krc Go.Proofs.Ythhccabdlajngaa.FrmA Go.Proofs.Ythhccabdlajngaa.FrmB Go.Proofs.Ythhccabdlajngaa.FrmC Go.Proofs.Ythhccabdlajngaa.FrmD Go.Proofs.Ythhccabdlajngaa.FrmE Go.Proofs.Ythhccabdlajngaa.FrmF Go.Proofs.Ythhccabdlajngaa.FrmN Go.Proofs.Ythhccabdlajngaa.FrmO Go.Proofs.Ythhccabdlajngaa.FrmO Go.Proofs.Ythhccabdlajngaa.FrmP Go.Proofs.Ythhccabdlajngaa.FrmQ Go.Proofs.Ythhccabdlajngaa.FrmR Go.Proofs.Ythhccabdlajngaa.FrmS
set_option linter.unusedVariables false
set_option linter.unusedSimpArgs false
set_option maxRecDepth 100000
set_option maxHeartbeats 4000000
namespace FD
def st (x : Nat) : Nat := if x % 2 = 1 then (x / 2) ^^^ 3988292384 else x / 2
def stN : Nat → Nat → Nat
  | 0, x => x
  | n + 1, x => stN n (st x)
theorem st_lt {x : Nat} (h : x < 4294967296) : st x < 4294967296 := by
  unfold st
  split
  · exact Nat.xor_lt_two_pow (n := 32) (by omega) (by decide)
  · omega
def crc (r c : Nat) : Nat := stN 8 (r ^^^ c)
def Byt (l : List Int) : Prop := ∀ i : Nat, 0 ≤ l.getD i 0 ∧ l.getD i 0 < 256
def feed (r : Nat) (l : List Int) : Nat := l.foldl (fun r x => crc r x.toNat) r
def sum (l : List Int) : Nat := 4294967295 - feed 4294967295 l
theorem stN_lt : ∀ n {x : Nat}, x < 4294967296 → stN n x < 4294967296
  | 0, _, h => h
  | n + 1, _, h => stN_lt n (st_lt h)
theorem crc_lt {r c : Nat} (hr : r < 4294967296) (hc : c < 256) : crc r c < 4294967296 := stN_lt 8 (Nat.xor_lt_two_pow (n := 32) hr (by omega))
theorem Byt.take {l : List Int} (h : Byt l) (n : Nat) : Byt (l.take n) := by
  intro i
  by_cases hi : i < n
  · rw [show (l.take n).getD i 0 = l.getD i 0 by simp [List.getD_eq_getElem?_getD, hi]]; exact h i
  · rw [show (l.take n).getD i 0 = 0 by simp [List.getD_eq_getElem?_getD, List.getElem?_take, hi]]; omega
def le (n : Nat) : List Int := [(n % 256 : Nat), (n / 256 % 256 : Nat), (n / 65536 % 256 : Nat), (n / 16777216 % 256 : Nat)]
def sealed (l : List Int) : List Int := l ++ le (sum l)
def opened (l : List Int) : List Int × Nat :=
  if l.length < 4 then ([], 4) else if le (sum (l.take (l.length - 4))) = l.drop (l.length - 4) then (l.take (l.length - 4), 0) else ([], 9)
theorem opened_ok {l : List Int} (h : ¬ l.length < 4) (h2 : le (sum (l.take (l.length - 4))) = l.drop (l.length - 4)) : opened l = (l.take (l.length - 4), 0) := by unfold opened; rw [if_neg h, if_pos h2]
theorem le_length (n : Nat) : (le n).length = 4 := rfl
theorem sealed_length (l : List Int) : (sealed l).length = l.length + 4 := by simp [sealed, le_length]
theorem opened_sealed (l : List Int) : opened (sealed l) = (l, 0) := by
  have h : (sealed l).length - 4 = l.length := by rw [sealed_length]; omega
  have h1 : (sealed l).take l.length = l := by simp [sealed]
  have h2 : (sealed l).drop l.length = le (sum l) := by simp [sealed]
  have h3 := opened_ok (l := sealed l) (by rw [sealed_length]; omega) (by rw [h, h1, h2])
  rw [h, h1] at h3
  exact h3
def fl (y : Nat → Nat) : Nat → Bool
  | 0 => false
  | k + 1 => fl y k || (y k != 0)
end FD
theorem fd_st (k x : Nat) : FD.stN k (stp x) = stp (FD.stN k x) := by
  induction k generalizing x with
  | zero => rfl
  | succ k ih => exact ih (stp x)
theorem fd_stN (k x : Nat) : stpN k x = FD.stN k x := by
  induction k with
  | zero => rfl
  | succ k ih =>
    show stp (stpN k x) = FD.stN k (stp x)
    rw [ih, fd_st]
theorem fd_feed : ∀ (l : List Int) (r : Nat), byt8 l → crcs r l = FD.feed r l
  | [], r, _ => rfl
  | x :: l, r, h => by
    have hx := h x (List.mem_cons_self ..)
    show crcs (crc r (x.toNat % 256)) l = FD.feed (FD.crc r x.toNat) l
    rw [fd_feed l _ (fun y hy => h y (List.mem_cons_of_mem _ hy)), Nat.mod_eq_of_lt (by omega)]
    unfold crc FD.crc
    rw [fd_stN]
theorem fd_sum {l : List Int} (h : byt8 l) : sumN l = FD.sum l := by unfold sumN FD.sum; rw [fd_feed l _ h]
theorem fd_seal {l : List Int} (h : byt8 l) : slB l = FD.sealed l := by unfold slB FD.sealed; rw [fd_sum h]; rfl
theorem fd_open {l : List Int} (h : byt8 l) : (opF l).1 = (FD.opened l).1 ∧ (opF l).2 = ((FD.opened l).2 : Int) := by
  have e : le4 (sumN (l.take (l.length - 4))) = FD.le (FD.sum (l.take (l.length - 4))) := by rw [fd_sum (byt8_take h _)]; rfl
  unfold opF FD.opened
  rw [e]
  split
  · exact ⟨rfl, rfl⟩
  · split
    · exact ⟨rfl, rfl⟩
    · exact ⟨rfl, rfl⟩
theorem opF_seal (l : List Int) (h : byt8 l) : opF (slB l) = (l, 0) := by
  have hb : byt8 (slB l) := byt8_app h (le4_byt _)
  have := fd_open hb
  rw [fd_seal h, FD.opened_sealed] at this
  rw [fd_seal h]
  exact Prod.ext this.1 this.2
theorem ofN_app (a b : List Int) : ∀ i, i ≤ a.length → ofN (a ++ b) i = ofN a i
  | 0, _ => rfl
  | i + 1, h => by
    rw [ofN, ofN, ofN_app a b i (by omega)]
    have : (a ++ b).getD i 0 = a.getD i 0 := by
      rw [List.getD_eq_getElem?_getD, List.getElem?_append_left (by omega), List.getD_eq_getElem?_getD]
    rw [this]
theorem ofN_snoc (a : List Int) (c : Int) (w : Nat) (h : a.length = w) : ofN (a ++ [c]) (w + 1) = (256 * ofN a w + c) % 18446744073709551616 := by
  subst h
  rw [ofN, ofN_app a [c] _ (Nat.le_refl _)]
  have : (a ++ [c]).getD a.length 0 = c := by
    rw [List.getD_eq_getElem?_getD, List.getElem?_append_right (Nat.le_refl _), Nat.sub_self]; rfl
  rw [this]
theorem p256 (w : Nat) (h : w ≤ 8) : (256 : Int) ^ w ≤ 18446744073709551616 := by
  have : w = 0 ∨ w = 1 ∨ w = 2 ∨ w = 3 ∨ w = 4 ∨ w = 5 ∨ w = 6 ∨ w = 7 ∨ w = 8 := by omega
  rcases this with rfl | rfl | rfl | rfl | rfl | rfl | rfl | rfl | rfl <;> decide
theorem ofN_beN : ∀ (w : Nat) (n : Int), w ≤ 8 → 0 ≤ n → n < 256 ^ w → ofN (beN w n) w = n
  | 0, n, _, h0, h1 => by
    have : n = 0 := by simp at h1; omega
    rw [this]; rfl
  | w + 1, n, hw, h0, h1 => by
    have h2 := p256 (w + 1) hw
    rw [Int.pow_succ] at h1 h2
    have ih := ofN_beN w (n / 256) (by omega) (by omega) (by omega)
    rw [beN, ofN_snoc _ _ w (beN_length w _), ih]
    omega
theorem ap_drop (a b : List Int) (n : Nat) (h : a.length = n) : (a ++ b).drop n = b := by rw [List.drop_append, List.drop_of_length_le (by omega), h, Nat.sub_self]; rfl
theorem ap_take (a b : List Int) (n : Nat) (h : a.length = n) : (a ++ b).take n = a := by rw [List.take_append_of_le_length (by omega), List.take_of_length_le (by omega)]
/-- A frame that may be held. -/
def fok (f : Fm) : Prop := byt8 f.t.1 ∧ byt8 f.su.1 ∧ byt8 f.d ∧ (0 ≤ f.es ∧ f.es < 4294967296) ∧ (0 ≤ f.er ∧ f.er < 4294967296) ∧ u64R f.o ∧ u64R f.n ∧ ∀ p ∈ f.r, u64R p.1 ∧ u64R p.2
theorem may_k {f : Fm} (h : mayF f = 0) : 1 ≤ f.k ∧ f.k ≤ 7 := by
  by_cases h0 : 1 ≤ f.k ∧ f.k ≤ 7
  · exact h0
  · exfalso
    unfold mayF at h
    rw [if_neg (by omega), if_neg (by omega), if_neg (by omega), if_neg (by omega)] at h
    cases h
theorem s16_app (t : V 16) (B : List Int) : s16 (t.1 ++ B) false = t := by
  apply Subtype.ext
  rw [s16_eq (by rw [List.length_append, t.2]; omega), ap_take _ _ _ t.2]
theorem s32_app (t : V 32) (B : List Int) : s32 (t.1 ++ B) false = t := by
  apply Subtype.ext
  show (tkF (t.1 ++ B) false 32).1 = t.1
  rw [tk_ge _ _ _ (by rw [List.length_append, t.2]; omega)]
  exact ap_take _ _ _ t.2
/-- The head of a datagram is read as it was laid. -/
theorem head_is (f : Fm) (hf : fok f) (hk : 1 ≤ f.k ∧ f.k ≤ 7) (B : List Int) : 28 ≤ (hdB f ++ B).length ∧ (hdB f ++ B).take 2 = [84, 87] ∧ (hdB f ++ B).getD 2 0 = f.k ∧ (hdB f ++ B).getD 3 0 = mkF f.es f.er ∧
    s16 ((hdB f ++ B).drop 4) false = f.t ∧ S4 (hdB f ++ B) 20 = f.es ∧ S4 (hdB f ++ B) 24 = f.er ∧ (hdB f ++ B).drop 28 = B := by
  obtain ⟨h1, h2, h3, h4, h5, h6, h7, h8⟩ := hf
  have e : hdB f ++ B = 84 :: 87 :: (f.k % 256) :: mkF f.es f.er :: (f.t.1 ++ (beN 4 f.es ++ (beN 4 f.er ++ B))) := by simp [hdB]
  have d4 : (hdB f ++ B).drop 4 = f.t.1 ++ (beN 4 f.es ++ (beN 4 f.er ++ B)) := by rw [e]; rfl
  have d20 : (hdB f ++ B).drop 20 = beN 4 f.es ++ (beN 4 f.er ++ B) := by
    rw [show 20 = 4 + 16 from rfl, ← List.drop_drop, d4, ap_drop _ _ _ f.t.2]
  have d24 : (hdB f ++ B).drop 24 = beN 4 f.er ++ B := by
    rw [show 24 = 20 + 4 from rfl, ← List.drop_drop, d20, ap_drop _ _ _ (beN_length 4 _)]
  have d28 : (hdB f ++ B).drop 28 = B := by
    rw [show 28 = 24 + 4 from rfl, ← List.drop_drop, d24, ap_drop _ _ _ (beN_length 4 _)]
  refine ⟨?_, by rw [e]; rfl, ?_, by rw [e]; rfl, by rw [d4, s16_app], ?_, ?_, d28⟩
  · rw [e]
    simp only [List.length_cons, List.length_append, beN_length, f.t.2]
    omega
  · have : (hdB f ++ B).getD 2 0 = f.k % 256 := by rw [e]; rfl
    rw [this]; omega
  · show ofN (((hdB f ++ B).drop 20).take 4) 4 = _
    rw [d20, ap_take _ _ _ (beN_length 4 _), ofN_beN 4 _ (by decide) h4.1 (by have := h4.2; simpa using this)]
  · show ofN (((hdB f ++ B).drop 24).take 4) 4 = _
    rw [d24, ap_take _ _ _ (beN_length 4 _), ofN_beN 4 _ (by decide) h5.1 (by have := h5.2; simpa using this)]
theorem rg_is (o : Int) : ∀ (l : List Rg) (pre : List Int), (∀ p ∈ l, u64R p.1 ∧ u64R p.2) → rgN (pre ++ rgB l) pre.length l.length = l
  | [], pre, _ => rfl
  | p :: l, pre, h => by
    have hp := h p (List.mem_cons_self ..)
    have e : pre ++ rgB (p :: l) = (pre ++ (beN 8 p.1 ++ beN 8 p.2)) ++ rgB l := by
      show pre ++ (beN 8 p.1 ++ beN 8 p.2 ++ rgB l) = _
      simp
    have hl : (pre ++ (beN 8 p.1 ++ beN 8 p.2)).length = pre.length + 16 := by simp [beN_length]
    have ih := rg_is o l (pre ++ (beN 8 p.1 ++ beN 8 p.2)) (fun q hq => h q (List.mem_cons_of_mem _ hq))
    rw [hl, ← e] at ih
    have d0 : (pre ++ rgB (p :: l)).drop pre.length = beN 8 p.1 ++ (beN 8 p.2 ++ rgB l) := by
      rw [ap_drop _ _ _ rfl]
      show beN 8 p.1 ++ beN 8 p.2 ++ rgB l = _
      simp
    have d8 : (pre ++ rgB (p :: l)).drop (pre.length + 8) = beN 8 p.2 ++ rgB l := by
      rw [← List.drop_drop, d0, ap_drop _ _ _ (beN_length 8 _)]
    rw [List.length_cons, rgN, ih, rg1, d0, d8, ap_take _ _ _ (beN_length 8 _), ap_take _ _ _ (beN_length 8 _), ofN_beN 8 _ (by decide) hp.1.1 (by have := hp.1.2; simpa using this), ofN_beN 8 _ (by decide) hp.2.1 (by have := hp.2.2; simpa using this)]
/-- A bare frame's fields are read as they were laid. -/
theorem fields_is (f : Fm) (hf : fok f) (hm : mayF f = 0) : fdE f.k f.t f.es f.er (bodyF (bare f)) = (bare f, 0) := by
  have hk := may_k hm
  obtain ⟨k, t, es, er, o, n, su, d, r, c⟩ := f
  obtain ⟨h1, h2, h3, h4, h5, h6, h7, h8⟩ := hf
  simp only at hk h1 h2 h3 h4 h5 h6 h7 h8 ⊢
  have on : ofN (beN 8 n) 8 = n := ofN_beN 8 _ (by decide) h7.1 (by have := h7.2; simpa using this)
  have oo : ofN (beN 8 o) 8 = o := ofN_beN 8 _ (by decide) h6.1 (by have := h6.2; simpa using this)
  have ln := beN_length 8 n
  have lo := beN_length 8 o
  have tn : (beN 8 n).take 8 = beN 8 n := List.take_of_length_le (by omega)
  have tob : (beN 8 o).take 8 = beN 8 o := List.take_of_length_le (by omega)
  by_cases k15 : k = 1 ∨ k = 5
  · have hb : bare ⟨k, t, es, er, o, n, su, d, r, c⟩ = ⟨k, t, es, er, 0, n, su, [], [], 0⟩ := if_pos k15
    have hB : bodyF ⟨k, t, es, er, 0, n, su, [], [], 0⟩ = beN 8 n ++ su.1 := if_pos k15
    have hl : (beN 8 n ++ su.1).length = 40 := by rw [List.length_append, ln, su.2]
    rw [hb, hB, fdE15 k k15, if_neg (by omega), if_neg (by omega)]
    have hF : ff15 k t es er (beN 8 n ++ su.1) = ⟨k, t, es, er, 0, n, su, [], [], 0⟩ := by
      unfold ff15
      rw [ap_take _ _ _ ln, on, ap_drop _ _ _ ln]
      have := s32_app su []
      rw [List.append_nil] at this
      rw [this]
    rw [hF]
    have : mayF ⟨k, t, es, er, 0, n, su, [], [], 0⟩ = 0 := if_pos (by rcases k15 with h | h; exact .inl h; exact .inr (.inr (.inl h)))
    rw [this]
  by_cases k2 : k = 2
  · subst k2
    have hB : bodyF (bare ⟨2, t, es, er, o, n, su, d, r, c⟩) = beN 8 o := by show beN 8 o ++ [] ++ rgB [] = _; simp [rgB]
    rw [hB, fdE2, if_neg (by omega), if_neg (by omega)]
    have hF : ff2 t es er (beN 8 o) = bare ⟨2, t, es, er, o, n, su, d, r, c⟩ := by unfold ff2; rw [tob, oo]; rfl
    rw [hF]; rfl
  by_cases k6 : k = 6
  · subst k6
    have hB : bodyF (bare ⟨6, t, es, er, o, n, su, d, r, c⟩) = beN 8 n := rfl
    rw [hB, fdE6, if_neg (by omega), if_neg (by omega)]
    have hF : ff6 t es er (beN 8 n) = bare ⟨6, t, es, er, o, n, su, d, r, c⟩ := by unfold ff6; rw [tn, on]; rfl
    rw [hF]; rfl
  by_cases k7 : k = 7
  · subst k7
    have hc : ¬ c < 1 ∧ ¬ 99 < c := by
      have hm' : (if c < 1 then (3 : Int) else if 99 < c then 3 else 0) = 0 := hm
      refine ⟨fun h => ?_, fun h => ?_⟩
      · rw [if_pos h] at hm'; cases hm'
      · rw [if_neg (by omega), if_pos h] at hm'; cases hm'
    have hB : bodyF (bare ⟨7, t, es, er, o, n, su, d, r, c⟩) = [c % 256] := rfl
    have hb : byt8 [c % 256] := by intro x hx; simp at hx; omega
    rw [hB, fdE7 _ _ _ _ hb, if_neg (by simp), if_neg (by simp)]
    have hF : ff7 t es er [c % 256] = bare ⟨7, t, es, er, o, n, su, d, r, c⟩ := by
      show (⟨7, t, es, er, 0, 0, z32, [], [], c % 256⟩ : Fm) = ⟨7, t, es, er, 0, 0, z32, [], [], c⟩
      rw [show c % 256 = c from by omega]
    rw [hF]
    exact congrArg _ hm
  by_cases k3 : k = 3
  · subst k3
    have hd : ¬ d.length = 0 := by
      intro h
      have hm' : (if d.length = 0 then (4 : Int) else if 256 < d.length then 10 else 0) = 0 := hm
      rw [if_pos h] at hm'; cases hm'
    have hB : bodyF (bare ⟨3, t, es, er, o, n, su, d, r, c⟩) = beN 8 o ++ d := by show beN 8 o ++ d ++ rgB [] = _; simp [rgB]
    have hl : (beN 8 o ++ d).length = 8 + d.length := by rw [List.length_append, lo]
    rw [hB, fdE3, if_neg (by omega)]
    have hF : ff3 t es er (beN 8 o ++ d) = bare ⟨3, t, es, er, o, n, su, d, r, c⟩ := by
      unfold ff3
      rw [ap_take _ _ _ lo, ap_drop _ _ _ lo, oo]; rfl
    rw [hF]
    exact congrArg _ hm
  have k4 : k = 4 := by omega
  subst k4
  have hB : bodyF (bare ⟨4, t, es, er, o, n, su, d, r, c⟩) = beN 8 o ++ rgB r := by show beN 8 o ++ [] ++ rgB r = _; simp
  have hl : (beN 8 o ++ rgB r).length = 8 + 16 * r.length := by rw [List.length_append, lo, rgB_length]
  rw [hB, fdE4, if_neg (by omega), if_pos (by omega)]
  have hF : ff4 t es er (beN 8 o ++ rgB r) = bare ⟨4, t, es, er, o, n, su, d, r, c⟩ := by
    unfold ff4
    have := rg_is 0 r (beN 8 o) h8
    rw [lo] at this
    rw [ap_take _ _ _ lo, oo, hl, show (8 + 16 * r.length - 8) / 16 = r.length from by omega, this]; rfl
  rw [hF]
  exact congrArg _ hm
theorem rows_byt (f : Fm) (hf : fok f) : byt8 (hdB f ++ bodyF (bare f)) := by
  have hb := bare_byt f hf.2.1 hf.2.2.1
  exact byt8_app (hdB_byt f hf.1) (bodyF_byt _ hb.1 hb.2)
/-- What is laid is parsed, bare. -/
theorem back1 (f : Fm) (hf : fok f) (hm : mayF f = 0) : psF (layF f).1 = (bare f, 0) := by
  have hk := may_k hm
  have e : (layF f).1 = slB (hdB f ++ bodyF (bare f)) := by rw [layF, if_pos hm]
  obtain ⟨g1, g2, g3, g4, g5, g6, g7, g8⟩ := head_is f hf hk (bodyF (bare f))
  rw [e, psF, opF_seal _ (rows_byt f hf), if_pos rfl]
  simp only
  rw [ps1, if_neg (by omega), if_pos g2, g3, if_neg (by omega), if_neg (by omega), g4, g6, g7, if_pos rfl, g5, g8, fields_is f hf hm, if_pos rfl]
end Go.Proofs.Ythhccabdlajngaa.FrmT
