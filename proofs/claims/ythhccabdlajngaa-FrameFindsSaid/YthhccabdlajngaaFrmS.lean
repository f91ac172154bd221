import Derived.Test.YthhccabdlajngaaFrmR
namespace Go.Proofs.Ythhccabdlajngaa.FrmS
open Go Go.Sim Go.Sim.E Go.RowKit Go.Proofs Go.Proofs.Ythhccabdlajngaa.Cod Go.Proofs.Ythhccabdlajngaa.Tab Go.Proofs.Ythhccabdlajngaa.Bse Go.Proofs.Ythhccabdlajngaa.Krc Go.Proofs.Ythhccabdlajngaa.FrmA Go.Proofs.Ythhccabdlajngaa.FrmB Go.Proofs.Ythhccabdlajngaa.FrmC Go.Proofs.Ythhccabdlajngaa.FrmD Go.Proofs.Ythhccabdlajngaa.FrmE Go.Proofs.Ythhccabdlajngaa.FrmF Go.Proofs.Ythhccabdlajngaa.FrmN Go.Proofs.Ythhccabdlajngaa.FrmO Go.Proofs.Ythhccabdlajngaa.FrmO Go.Proofs.Ythhccabdlajngaa.FrmP Go.Proofs.Ythhccabdlajngaa.FrmQ Go.Proofs.Ythhccabdlajngaa.FrmR
set_option linter.unusedVariables false
set_option linter.unusedSimpArgs false
set_option maxRecDepth 100000
set_option maxHeartbeats 4000000
/-! ### the ranges of a row of bytes -/
def rg1 (b : List Int) (i : Nat) : Rg := (ofN ((b.drop i).take 8) 8, ofN ((b.drop (i + 8)).take 8) 8)
def rgN (b : List Int) : Nat → Nat → List Rg
  | _, 0 => []
  | i, n + 1 => rg1 b i :: rgN b (i + 16) n
theorem rgN_drop (b : List Int) (m : Nat) : ∀ (n i : Nat), rgN (b.drop m) i n = rgN b (m + i) n
  | 0, _ => rfl
  | n + 1, i => by
    rw [rgN, rgN, rgN_drop b m n (i + 16), rg1, rg1, List.drop_drop, List.drop_drop, Nat.add_assoc, Nat.add_assoc]
theorem skG_ok : ∀ (n : Nat) (b : List Int), b.length = 16 * n → ∀ (m : Bool) (acc : List Rg), skG b m acc = (acc ++ rgN b 0 n, m)
  | 0, b, h, m, acc => by
    rw [skG, dif_pos (by omega), rgN, List.append_nil]
  | n + 1, b, h, m, acc => by
    rw [skG, dif_neg (by omega), tk_ge b m 8 (by omega)]
    simp only
    rw [tk_ge (b.drop 8) m 8 (by rw [List.length_drop]; omega)]
    simp only
    rw [List.drop_drop, skG_ok n (b.drop 16) (by rw [List.length_drop]; omega), rgN_drop, rgN, List.append_assoc]
    rfl
theorem skG_nil (acc : List Rg) (m : Bool) : skG [] m acc = (acc, m) := by rw [skG]; exact dif_pos rfl
theorem tk_lt (b : List Int) (m : Bool) (n : Nat) (h : b.length < n) : tkF b m n = (List.replicate n 0, [], true) := by rw [tkF, if_pos h]
theorem skG_bad : ∀ (n : Nat) (b : List Int), b.length ≤ n → b.length % 16 ≠ 0 → ∀ (m : Bool) (acc : List Rg), (skG b m acc).2 = true
  | 0, b, h, h2, m, acc => by omega
  | n + 1, b, h, h2, m, acc => by
    rw [skG, dif_neg (by omega)]
    by_cases h8 : b.length < 8
    · rw [tk_lt b m 8 h8]
      simp only
      rw [tk_lt [] true 8 (by decide)]
      rw [skG_nil]
    rw [tk_ge b m 8 (by omega)]
    simp only
    by_cases h16 : b.length < 16
    · rw [tk_lt (b.drop 8) m 8 (by rw [List.length_drop]; omega)]
      simp only
      rw [skG_nil]
    rw [tk_ge (b.drop 8) m 8 (by rw [List.length_drop]; omega)]
    simp only
    rw [List.drop_drop]
    exact skG_bad n (b.drop 16) (by rw [List.length_drop]; omega) (by rw [List.length_drop]; omega) m _
/-! ### the fields of a row of bytes, kind by kind -/
def ff15 (k : Int) (t : V 16) (es er : Int) (b : List Int) : Fm := ⟨k, t, es, er, 0, ofN (b.take 8) 8, s32 (b.drop 8) false, [], [], 0⟩
def ff2 (t : V 16) (es er : Int) (b : List Int) : Fm := ⟨2, t, es, er, ofN (b.take 8) 8, 0, z32, [], [], 0⟩
def ff3 (t : V 16) (es er : Int) (b : List Int) : Fm := ⟨3, t, es, er, ofN (b.take 8) 8, 0, z32, b.drop 8, [], 0⟩
def ff4 (t : V 16) (es er : Int) (b : List Int) : Fm := ⟨4, t, es, er, ofN (b.take 8) 8, 0, z32, [], rgN b 8 ((b.length - 8) / 16), 0⟩
def ff6 (t : V 16) (es er : Int) (b : List Int) : Fm := ⟨6, t, es, er, 0, ofN (b.take 8) 8, z32, [], [], 0⟩
def ff7 (t : V 16) (es er : Int) (b : List Int) : Fm := ⟨7, t, es, er, 0, 0, z32, [], [], b.getD 0 0⟩
theorem fdE_val {k : Int} {t : V 16} {es er : Int} {b : List Int} {F : Fm} {c : List Int} {m : Bool} (h : fdP k t es er b = (F, c, m)) : fdE k t es er b = if m = true then (zFm, 4) else if 0 < c.length then (zFm, 3) else (F, mayF F) := by
  unfold fdE
  rw [h]
theorem fdE_pos {k : Int} {t : V 16} {es er : Int} {b : List Int} {F : Fm} {c : List Int} {m : Bool} (h : fdP k t es er b = (F, c, m)) (hm : m = true) : fdE k t es er b = (zFm, 4) := by rw [fdE_val h, if_pos hm]
theorem fdE_mid {k : Int} {t : V 16} {es er : Int} {b : List Int} {F : Fm} {c : List Int} {m : Bool} (h : fdP k t es er b = (F, c, m)) (hm : m = false) (hc : 0 < c.length) : fdE k t es er b = (zFm, 3) := by rw [fdE_val h, hm, if_neg (by decide), if_pos hc]
theorem fdE_neg {k : Int} {t : V 16} {es er : Int} {b : List Int} {F : Fm} {c : List Int} {m : Bool} (h : fdP k t es er b = (F, c, m)) (hm : m = false) (hc : c.length = 0) : fdE k t es er b = (F, mayF F) := by rw [fdE_val h, hm, if_neg (by decide), if_neg (by omega)]
theorem fdE15 (k : Int) (h : k = 1 ∨ k = 5) (t : V 16) (es er : Int) (b : List Int) : fdE k t es er b = if b.length < 40 then (zFm, 4) else if 40 < b.length then (zFm, 3) else (ff15 k t es er b, mayF (ff15 k t es er b)) := by
  have e : fdP k t es er b = (⟨k, t, es, er, 0, ofN (tkF b false 8).1 8, s32 (tkF b false 8).2.1 (tkF b false 8).2.2, [], [], 0⟩, (tkF (tkF b false 8).2.1 (tkF b false 8).2.2 32).2.1, (tkF (tkF b false 8).2.1 (tkF b false 8).2.2 32).2.2) := if_pos h
  by_cases h8 : b.length < 8
  · rw [if_pos (by omega)]
    refine fdE_pos e ?_
    rw [tk_lt b false 8 h8]
    simp only
    rw [tk_lt [] true 32 (by decide)]
  rw [tk_ge b false 8 (by omega)] at e
  simp only at e
  have hl := List.length_drop (i := 8) (l := b)
  by_cases h40 : b.length < 40
  · rw [if_pos h40]
    refine fdE_pos e ?_
    rw [tk_lt (b.drop 8) false 32 (by omega)]
  rw [tk_ge (b.drop 8) false 32 (by omega)] at e
  simp only [List.drop_drop] at e
  have hl2 := List.length_drop (i := 40) (l := b)
  rw [if_neg h40]
  by_cases h41 : 40 < b.length
  · rw [if_pos h41]
    exact fdE_mid e rfl (by rw [List.length_drop]; omega)
  · rw [if_neg h41]
    exact fdE_neg e rfl (by rw [List.length_drop]; omega)
theorem fdE6 (t : V 16) (es er : Int) (b : List Int) : fdE 6 t es er b = if b.length < 8 then (zFm, 4) else if 8 < b.length then (zFm, 3) else (ff6 t es er b, mayF (ff6 t es er b)) := by
  have e : fdP 6 t es er b = (⟨6, t, es, er, 0, ofN (tkF b false 8).1 8, z32, [], [], 0⟩, (tkF b false 8).2.1, (tkF b false 8).2.2) := by simp [fdP]
  have hl := List.length_drop (i := 8) (l := b)
  by_cases h8 : b.length < 8
  · rw [if_pos h8]
    exact fdE_pos e (by rw [tk_lt b false 8 h8])
  rw [tk_ge b false 8 (by omega)] at e
  rw [if_neg h8]
  by_cases h9 : 8 < b.length
  · rw [if_pos h9]
    exact fdE_mid e rfl (by show 0 < (b.drop 8).length; omega)
  · rw [if_neg h9]
    exact fdE_neg e rfl (by show (b.drop 8).length = 0; omega)
theorem fdE2 (t : V 16) (es er : Int) (b : List Int) : fdE 2 t es er b = if b.length < 8 then (zFm, 4) else if 8 < b.length then (zFm, 3) else (ff2 t es er b, mayF (ff2 t es er b)) := by
  have e : fdP 2 t es er b = (⟨2, t, es, er, ofN (tkF b false 8).1 8, 0, z32, [], [], 0⟩, (tkF b false 8).2.1, (tkF b false 8).2.2) := by simp [fdP]
  have hl := List.length_drop (i := 8) (l := b)
  by_cases h8 : b.length < 8
  · rw [if_pos h8]
    exact fdE_pos e (by rw [tk_lt b false 8 h8])
  rw [tk_ge b false 8 (by omega)] at e
  rw [if_neg h8]
  by_cases h9 : 8 < b.length
  · rw [if_pos h9]
    exact fdE_mid e rfl (by show 0 < (b.drop 8).length; omega)
  · rw [if_neg h9]
    exact fdE_neg e rfl (by show (b.drop 8).length = 0; omega)
theorem fdE7 (t : V 16) (es er : Int) (b : List Int) (hb : byt8 b) : fdE 7 t es er b = if b.length < 1 then (zFm, 4) else if 1 < b.length then (zFm, 3) else (ff7 t es er b, mayF (ff7 t es er b)) := by
  have e : fdP 7 t es er b = (⟨7, t, es, er, 0, 0, z32, [], [], ofN (tkF b false 1).1 1⟩, (tkF b false 1).2.1, (tkF b false 1).2.2) := by simp [fdP]
  have hl := List.length_drop (i := 1) (l := b)
  by_cases h8 : b.length < 1
  · rw [if_pos h8]
    exact fdE_pos e (by rw [tk_lt b false 1 h8])
  rw [tk_ge b false 1 (by omega), ofN1 (byt8_take hb _), getD_take _ _ _ (by decide)] at e
  rw [if_neg h8]
  by_cases h9 : 1 < b.length
  · rw [if_pos h9]
    exact fdE_mid e rfl (by show 0 < (b.drop 1).length; omega)
  · rw [if_neg h9]
    exact fdE_neg e rfl (by show (b.drop 1).length = 0; omega)
theorem fdE3 (t : V 16) (es er : Int) (b : List Int) : fdE 3 t es er b = if b.length < 9 then (zFm, 4) else (ff3 t es er b, mayF (ff3 t es er b)) := by
  have e : fdP 3 t es er b = (⟨3, t, es, er, ofN (tkF b false 8).1 8, 0, z32, (tkF b false 8).2.1, [], 0⟩, [], (tkF b false 8).2.2 || decide ((tkF b false 8).2.1.length = 0)) := by simp [fdP]
  have hl := List.length_drop (i := 8) (l := b)
  by_cases h8 : b.length < 8
  · rw [if_pos (by omega)]
    exact fdE_pos e (by rw [tk_lt b false 8 h8]; rfl)
  rw [tk_ge b false 8 (by omega)] at e
  by_cases h9 : b.length < 9
  · rw [if_pos h9]
    refine fdE_pos e ?_
    show (false || decide ((b.drop 8).length = 0)) = true
    rw [hl, show b.length - 8 = 0 from by omega]; rfl
  · rw [if_neg h9]
    refine fdE_neg e ?_ rfl
    show (false || decide ((b.drop 8).length = 0)) = false
    rw [hl]
    simp
    omega
theorem fdE4 (t : V 16) (es er : Int) (b : List Int) : fdE 4 t es er b = if b.length < 8 then (zFm, 4) else if b.length % 16 = 8 then (ff4 t es er b, mayF (ff4 t es er b)) else (zFm, 4) := by
  have e : fdP 4 t es er b = (⟨4, t, es, er, ofN (tkF b false 8).1 8, 0, z32, [], (skG (tkF b false 8).2.1 (tkF b false 8).2.2 []).1, 0⟩, [], (skG (tkF b false 8).2.1 (tkF b false 8).2.2 []).2) := by simp [fdP]
  have hl := List.length_drop (i := 8) (l := b)
  by_cases h8 : b.length < 8
  · rw [if_pos h8]
    exact fdE_pos e (by rw [tk_lt b false 8 h8]; simp only; rw [skG_nil])
  rw [tk_ge b false 8 (by omega)] at e
  simp only at e
  rw [if_neg h8]
  by_cases h9 : b.length % 16 = 8
  · rw [if_pos h9]
    rw [skG_ok ((b.length - 8) / 16) (b.drop 8) (by omega), rgN_drop] at e
    exact fdE_neg e rfl rfl
  · rw [if_neg h9]
    exact fdE_pos e (skG_bad _ (b.drop 8) (Nat.le_refl _) (by omega) _ _)
section
variable (k : Int) (t : V 16) (es er o n : Int) (su : V 32) (d r : AV) (c : Int)
end
end Go.Proofs.Ythhccabdlajngaa.FrmS
