import Derived.Test.YthhccabdlajngaaFrmR
namespace Go.Proofs.Ythhccabdlajngaa.FrmS
open Go Go.Sim Go.Sim.E Go.RowKit Go.Proofs Go.Proofs.Ythhccabdlajngaa.Cod Go.Proofs.Ythhccabdlajngaa.Tab Go.Proofs.Ythhccabdlajngaa.Bse Go.Proofs.Ythhccabdlajngaa.Krc Go.Proofs.Ythhccabdlajngaa.FrmA Go.Proofs.Ythhccabdlajngaa.FrmB Go.Proofs.Ythhccabdlajngaa.FrmC Go.Proofs.Ythhccabdlajngaa.FrmD Go.Proofs.Ythhccabdlajngaa.FrmE Go.Proofs.Ythhccabdlajngaa.FrmF Go.Proofs.Ythhccabdlajngaa.FrmN Go.Proofs.Ythhccabdlajngaa.FrmO Go.Proofs.Ythhccabdlajngaa.FrmO Go.Proofs.Ythhccabdlajngaa.FrmP Go.Proofs.Ythhccabdlajngaa.FrmQ Go.Proofs.Ythhccabdlajngaa.FrmR
set_option linter.unusedVariables false
set_option linter.unusedSimpArgs false
set_option maxRecDepth 100000
set_option maxHeartbeats 4000000
/-! ### the ranges of a row of bytes -/
def rg1 (b : List Int) (i : Nat) : Rg := (ofN ((b.drop i).take 8) 8, ofN ((b.drop (i + 8)).take 8) 8)
def rgN (b : List Int) : Nat → Nat → List Rg
  | _, 0 => []
  | i, n + 1 => rg1 b i :: rgN b (i + 16) n
theorem rgN_snoc (b : List Int) : ∀ (n i : Nat), rgN b i (n + 1) = rgN b i n ++ [rg1 b (i + 16 * n)]
  | 0, i => rfl
  | n + 1, i => by
    rw [rgN, rgN_snoc b n (i + 16), rgN]
    rw [show i + 16 + 16 * n = i + 16 * (n + 1) from by omega]
    rfl
theorem rgN_length (b : List Int) : ∀ (n i : Nat), (rgN b i n).length = n
  | 0, _ => rfl
  | n + 1, i => by rw [rgN, List.length_cons, rgN_length b n]
theorem rgN_drop (b : List Int) (m : Nat) : ∀ (n i : Nat), rgN (b.drop m) i n = rgN b (m + i) n
  | 0, _ => rfl
  | n + 1, i => by
    rw [rgN, rgN, rgN_drop b m n (i + 16), rg1, rg1, List.drop_drop, List.drop_drop, Nat.add_assoc, Nat.add_assoc]
theorem skG_ok : ∀ (n : Nat) (b : List Int), b.length = 16 * n → ∀ (m : Bool) (acc : List Rg), skG b m acc = (acc ++ rgN b 0 n, m)
  | 0, b, h, m, acc => by
    rw [skG, dif_pos (by omega), rgN, List.append_nil]
  | n + 1, b, h, m, acc => by
    rw [skG, dif_neg (by omega), tk_ge b m 8 (by omega)]
    simp only
    rw [tk_ge (b.drop 8) m 8 (by rw [List.length_drop]; omega)]
    simp only
    rw [List.drop_drop, skG_ok n (b.drop 16) (by rw [List.length_drop]; omega), rgN_drop, rgN, List.append_assoc]
    rfl
theorem skG_nil (acc : List Rg) (m : Bool) : skG [] m acc = (acc, m) := by rw [skG]; exact dif_pos rfl
theorem tk_lt (b : List Int) (m : Bool) (n : Nat) (h : b.length < n) : tkF b m n = (List.replicate n 0, [], true) := by rw [tkF, if_pos h]
theorem skG_bad : ∀ (n : Nat) (b : List Int), b.length ≤ n → b.length % 16 ≠ 0 → ∀ (m : Bool) (acc : List Rg), (skG b m acc).2 = true
  | 0, b, h, h2, m, acc => by omega
  | n + 1, b, h, h2, m, acc => by
    rw [skG, dif_neg (by omega)]
    by_cases h8 : b.length < 8
    · rw [tk_lt b m 8 h8]
      simp only
      rw [tk_lt [] true 8 (by decide)]
      rw [skG_nil]
    rw [tk_ge b m 8 (by omega)]
    simp only
    by_cases h16 : b.length < 16
    · rw [tk_lt (b.drop 8) m 8 (by rw [List.length_drop]; omega)]
      simp only
      rw [skG_nil]
    rw [tk_ge (b.drop 8) m 8 (by rw [List.length_drop]; omega)]
    simp only
    rw [List.drop_drop]
    exact skG_bad n (b.drop 16) (by rw [List.length_drop]; omega) (by rw [List.length_drop]; omega) m _
/-! ### the fields of a row of bytes, kind by kind -/
def ff15 (k : Int) (t : V 16) (es er : Int) (b : List Int) : Fm := ⟨k, t, es, er, 0, ofN (b.take 8) 8, s32 (b.drop 8) false, [], [], 0⟩
def ff2 (t : V 16) (es er : Int) (b : List Int) : Fm := ⟨2, t, es, er, ofN (b.take 8) 8, 0, z32, [], [], 0⟩
def ff3 (t : V 16) (es er : Int) (b : List Int) : Fm := ⟨3, t, es, er, ofN (b.take 8) 8, 0, z32, b.drop 8, [], 0⟩
def ff4 (t : V 16) (es er : Int) (b : List Int) : Fm := ⟨4, t, es, er, ofN (b.take 8) 8, 0, z32, [], rgN b 8 ((b.length - 8) / 16), 0⟩
def ff6 (t : V 16) (es er : Int) (b : List Int) : Fm := ⟨6, t, es, er, 0, ofN (b.take 8) 8, z32, [], [], 0⟩
def ff7 (t : V 16) (es er : Int) (b : List Int) : Fm := ⟨7, t, es, er, 0, 0, z32, [], [], b.getD 0 0⟩
theorem fdE_val {k : Int} {t : V 16} {es er : Int} {b : List Int} {F : Fm} {c : List Int} {m : Bool} (h : fdP k t es er b = (F, c, m)) : fdE k t es er b = if m = true then (zFm, 4) else if 0 < c.length then (zFm, 3) else (F, mayF F) := by
  unfold fdE
  rw [h]
theorem fdE_pos {k : Int} {t : V 16} {es er : Int} {b : List Int} {F : Fm} {c : List Int} {m : Bool} (h : fdP k t es er b = (F, c, m)) (hm : m = true) : fdE k t es er b = (zFm, 4) := by rw [fdE_val h, if_pos hm]
theorem fdE_mid {k : Int} {t : V 16} {es er : Int} {b : List Int} {F : Fm} {c : List Int} {m : Bool} (h : fdP k t es er b = (F, c, m)) (hm : m = false) (hc : 0 < c.length) : fdE k t es er b = (zFm, 3) := by rw [fdE_val h, hm, if_neg (by decide), if_pos hc]
theorem fdE_neg {k : Int} {t : V 16} {es er : Int} {b : List Int} {F : Fm} {c : List Int} {m : Bool} (h : fdP k t es er b = (F, c, m)) (hm : m = false) (hc : c.length = 0) : fdE k t es er b = (F, mayF F) := by rw [fdE_val h, hm, if_neg (by decide), if_neg (by omega)]
theorem fdE15 (k : Int) (h : k = 1 ∨ k = 5) (t : V 16) (es er : Int) (b : List Int) : fdE k t es er b = if b.length < 40 then (zFm, 4) else if 40 < b.length then (zFm, 3) else (ff15 k t es er b, mayF (ff15 k t es er b)) := by
  have e : fdP k t es er b = (⟨k, t, es, er, 0, ofN (tkF b false 8).1 8, s32 (tkF b false 8).2.1 (tkF b false 8).2.2, [], [], 0⟩, (tkF (tkF b false 8).2.1 (tkF b false 8).2.2 32).2.1, (tkF (tkF b false 8).2.1 (tkF b false 8).2.2 32).2.2) := if_pos h
  by_cases h8 : b.length < 8
  · rw [if_pos (by omega)]
    refine fdE_pos e ?_
    rw [tk_lt b false 8 h8]
    simp only
    rw [tk_lt [] true 32 (by decide)]
  rw [tk_ge b false 8 (by omega)] at e
  simp only at e
  have hl := List.length_drop (i := 8) (l := b)
  by_cases h40 : b.length < 40
  · rw [if_pos h40]
    refine fdE_pos e ?_
    rw [tk_lt (b.drop 8) false 32 (by omega)]
  rw [tk_ge (b.drop 8) false 32 (by omega)] at e
  simp only [List.drop_drop] at e
  have hl2 := List.length_drop (i := 40) (l := b)
  rw [if_neg h40]
  by_cases h41 : 40 < b.length
  · rw [if_pos h41]
    exact fdE_mid e rfl (by rw [List.length_drop]; omega)
  · rw [if_neg h41]
    exact fdE_neg e rfl (by rw [List.length_drop]; omega)
theorem fdE6 (t : V 16) (es er : Int) (b : List Int) : fdE 6 t es er b = if b.length < 8 then (zFm, 4) else if 8 < b.length then (zFm, 3) else (ff6 t es er b, mayF (ff6 t es er b)) := by
  have e : fdP 6 t es er b = (⟨6, t, es, er, 0, ofN (tkF b false 8).1 8, z32, [], [], 0⟩, (tkF b false 8).2.1, (tkF b false 8).2.2) := by simp [fdP]
  have hl := List.length_drop (i := 8) (l := b)
  by_cases h8 : b.length < 8
  · rw [if_pos h8]
    exact fdE_pos e (by rw [tk_lt b false 8 h8])
  rw [tk_ge b false 8 (by omega)] at e
  rw [if_neg h8]
  by_cases h9 : 8 < b.length
  · rw [if_pos h9]
    exact fdE_mid e rfl (by show 0 < (b.drop 8).length; omega)
  · rw [if_neg h9]
    exact fdE_neg e rfl (by show (b.drop 8).length = 0; omega)
theorem fdE2 (t : V 16) (es er : Int) (b : List Int) : fdE 2 t es er b = if b.length < 8 then (zFm, 4) else if 8 < b.length then (zFm, 3) else (ff2 t es er b, mayF (ff2 t es er b)) := by
  have e : fdP 2 t es er b = (⟨2, t, es, er, ofN (tkF b false 8).1 8, 0, z32, [], [], 0⟩, (tkF b false 8).2.1, (tkF b false 8).2.2) := by simp [fdP]
  have hl := List.length_drop (i := 8) (l := b)
  by_cases h8 : b.length < 8
  · rw [if_pos h8]
    exact fdE_pos e (by rw [tk_lt b false 8 h8])
  rw [tk_ge b false 8 (by omega)] at e
  rw [if_neg h8]
  by_cases h9 : 8 < b.length
  · rw [if_pos h9]
    exact fdE_mid e rfl (by show 0 < (b.drop 8).length; omega)
  · rw [if_neg h9]
    exact fdE_neg e rfl (by show (b.drop 8).length = 0; omega)
theorem fdE7 (t : V 16) (es er : Int) (b : List Int) (hb : byt8 b) : fdE 7 t es er b = if b.length < 1 then (zFm, 4) else if 1 < b.length then (zFm, 3) else (ff7 t es er b, mayF (ff7 t es er b)) := by
  have e : fdP 7 t es er b = (⟨7, t, es, er, 0, 0, z32, [], [], ofN (tkF b false 1).1 1⟩, (tkF b false 1).2.1, (tkF b false 1).2.2) := by simp [fdP]
  have hl := List.length_drop (i := 1) (l := b)
  by_cases h8 : b.length < 1
  · rw [if_pos h8]
    exact fdE_pos e (by rw [tk_lt b false 1 h8])
  rw [tk_ge b false 1 (by omega), ofN1 (byt8_take hb _), getD_take _ _ _ (by decide)] at e
  rw [if_neg h8]
  by_cases h9 : 1 < b.length
  · rw [if_pos h9]
    exact fdE_mid e rfl (by show 0 < (b.drop 1).length; omega)
  · rw [if_neg h9]
    exact fdE_neg e rfl (by show (b.drop 1).length = 0; omega)
theorem fdE3 (t : V 16) (es er : Int) (b : List Int) : fdE 3 t es er b = if b.length < 9 then (zFm, 4) else (ff3 t es er b, mayF (ff3 t es er b)) := by
  have e : fdP 3 t es er b = (⟨3, t, es, er, ofN (tkF b false 8).1 8, 0, z32, (tkF b false 8).2.1, [], 0⟩, [], (tkF b false 8).2.2 || decide ((tkF b false 8).2.1.length = 0)) := by simp [fdP]
  have hl := List.length_drop (i := 8) (l := b)
  by_cases h8 : b.length < 8
  · rw [if_pos (by omega)]
    exact fdE_pos e (by rw [tk_lt b false 8 h8]; rfl)
  rw [tk_ge b false 8 (by omega)] at e
  by_cases h9 : b.length < 9
  · rw [if_pos h9]
    refine fdE_pos e ?_
    show (false || decide ((b.drop 8).length = 0)) = true
    rw [hl, show b.length - 8 = 0 from by omega]; rfl
  · rw [if_neg h9]
    refine fdE_neg e ?_ rfl
    show (false || decide ((b.drop 8).length = 0)) = false
    rw [hl]
    simp
    omega
theorem fdE4 (t : V 16) (es er : Int) (b : List Int) : fdE 4 t es er b = if b.length < 8 then (zFm, 4) else if b.length % 16 = 8 then (ff4 t es er b, mayF (ff4 t es er b)) else (zFm, 4) := by
  have e : fdP 4 t es er b = (⟨4, t, es, er, ofN (tkF b false 8).1 8, 0, z32, [], (skG (tkF b false 8).2.1 (tkF b false 8).2.2 []).1, 0⟩, [], (skG (tkF b false 8).2.1 (tkF b false 8).2.2 []).2) := by simp [fdP]
  have hl := List.length_drop (i := 8) (l := b)
  by_cases h8 : b.length < 8
  · rw [if_pos h8]
    exact fdE_pos e (by rw [tk_lt b false 8 h8]; simp only; rw [skG_nil])
  rw [tk_ge b false 8 (by omega)] at e
  simp only at e
  rw [if_neg h8]
  by_cases h9 : b.length % 16 = 8
  · rw [if_pos h9]
    rw [skG_ok ((b.length - 8) / 16) (b.drop 8) (by omega), rgN_drop] at e
    exact fdE_neg e rfl rfl
  · rw [if_neg h9]
    exact fdE_pos e (skG_bad _ (b.drop 8) (Nat.le_refl _) (by omega) _ _)
theorem of8 {b : List Int} (hb : byt8 b) (n : Nat) (h : b.length = n) (hn : n ≤ 1000000) : Con Try.prog 41 [] [.fz n (cB b)] [] (L (ofN b n)) := by
  subst h
  exact of_con' b hb hn
def pre32 (s z : V 32) (i : Nat) : V 32 := ⟨s.1.take i ++ z.1.drop i, by have h1 := s.2; have h2 := z.2; rw [List.length_append, List.length_take, List.length_drop]; omega⟩
def pre16 (s z : V 16) (i : Nat) : V 16 := ⟨s.1.take i ++ z.1.drop i, by have h1 := s.2; have h2 := z.2; rw [List.length_append, List.length_take, List.length_drop]; omega⟩
theorem pre_set (s z : List Int) (n i : Nat) (hs : s.length = n) (hz : z.length = n) (h : i < n) : (s.take i ++ z.drop i).set i (s.getD i 0) = s.take (i + 1) ++ z.drop (i + 1) := by
  have hl : (s.take i).length = i := by rw [List.length_take]; omega
  rw [List.set_append_right _ _ (by omega), hl, Nat.sub_self, take_stepD s i (by omega), drop_stepD z i (by omega)]
  simp
section
variable (k : Int) (t : V 16) (es er o n : Int) (su : V 32) (d r : AV) (c : Int)
theorem fs_su (i : Nat) (hi : i < 32) (v : Int) (u : V 32) (hu : u.1 = su.1.set i v) : (fc k t es er o n su d r c).set (21 + i) (Y v) = fc k t es er o n u d r c := by
  have h2 := v32 su
  rw [show 21 + i = 17 + (4 + i) from by omega, fc_st, show 4 + i = i + 4 from by omega]
  show I k :: (cB t.1 ++ (U es :: U er :: L o :: L n :: (cB su.1 ++ [d, r, I c]).set i (Y v))) = _
  rw [List.set_append_left _ _ (by omega)]
  have : (cB su.1).set i (Y v) = cB u.1 := by rw [hu]; exact cB_set su.1 i v
  rw [this]; rfl
theorem fs_tk (i : Nat) (hi : i < 16) (v : Int) (u : V 16) (hu : u.1 = t.1.set i v) : (fc k t es er o n su d r c).set (1 + i) (Y v) = fc k u es er o n su d r c := by
  have h2 := v16 t
  rw [show 1 + i = i + 1 from by omega]
  show I k :: (cB t.1 ++ (U es :: U er :: L o :: L n :: (cB su.1 ++ [d, r, I c]))).set i (Y v) = _
  rw [List.set_append_left _ _ (by omega)]
  have : (cB t.1).set i (Y v) = cB u.1 := by rw [hu]; exact cB_set t.1 i v
  rw [this]; rfl
end
/-- The state at the loop over a sum. -/
def i42 (b : List Int) (k : Int) (t : V 16) (es er n : Int) (s : V 32) (m : Nat) (st : St) : Prop := ∃ i : Nat, i + m = 32 ∧ st = ⟨[(1, fB b), (2, .pt 0 0), (4, .pt 1 0), (7, I (IN i))], [(0, ⟨fc k t es er 0 n (pre32 s z32 i) .nl .nl 0, 1, 0⟩), (1, ⟨fc 0 z16 0 0 0 0 z32 .nl .nl 0, 1, 0⟩)], 2⟩
def j42 (b : List Int) (t : V 16) (es er o : Int) (N m : Nat) (st : St) : Prop := ∃ i : Nat, i + m = N ∧ st = ⟨[(1, fB b), (2, .pt 0 0), (4, .pt 1 0), (8, I (IN (8 + 16 * i)))], [(0, ⟨fc 4 t es er o 0 z32 .nl (.lv 2 0 i) 0, 1, 0⟩), (1, ⟨fc 0 z16 0 0 0 0 z32 .nl .nl 0, 1, 0⟩), (2, ⟨cR (rgN b 8 i), 2, 0⟩)], 3⟩
theorem rfields2 (t : V 16) (es er : Int) (b : List Int) (hb : byt8 b) (hl : b.length ≤ 5000) : Con Try.prog 42 [] [.ag (fc 2 t es er 0 0 z32 .nl .nl 0), fB b] [] (.tu [.ag (fr (fdE 2 t es er b).1), I (fdE 2 t es er b).2]) := by
  have g7 : IntKind.i64.wrap (1 : Int) = 1 := by decide
  have g8 : (1 : Int).toNat = 1 := rfl
  rw [fdE2]
  refine con_j b42 rfl ?_
  by_cases h8 : b.length < 8
  · rw [if_pos h8]
    have h8' : IN b.length < (8 : Int) := by simp only [IN]; omega
    sym =>
    simp [Zaa,Zab,Zac,Zad,Zae,Zaf,Zag,Zak,Zal,Zam,Zao,Zap,Zaz,Za0,Za1,Za2,Za3,Za4,Za5,Za6,Za7,Zrh,Za8,Za9,Zba,Zbb,Zbc,Zbd,Zbf,Zbt,Zbu,Zbv,Zb1,Zb9,Zcn,Zcv,Zcx,Zcz,Zc3,Zc4,Zc7,Zc8,Zc9,Zdc,Zdd,Zde,Zdf,Zdg,Zdh,Zdi,Zdj,Zdk,Zdo,Zdp,Zdt,Zdu,Zdv,Zdw,Zdx,Zdy,Zdz,Zd0,Zd1,Zd2,Zd6,Zek,Zen,Zeq,Zet,Zev,Zew,Zex,Zez,Ze0,Ze1,Ze2,Ze3,Ze5,Ze8,Zfc,Zfd,Zfe,Zfh,Zfi,Zfj,Zfk,Zfl,Zfn,Zfr,Zfz,Zf0,Zf1,Zf3,Zgr,Zgs,Zgt,Zgv,Zgw,Zgx,Zg4,Zg5,Zhd,Zhe,Zhf,Zhg,Zhh,Zho,Zh6,Zh7,Zin,Zio,Zip,Ziq,Zir,Ziu,Ziv,Ziw,Zi6,Zi7,Zjh,Zji,Zjn,Zjr,Zj2,Zla,Zlb,Zle,Zlf,Zlh,Zll,Zls,Zlz,Zmt,Zmv,Zmw,Zmx,Zmy,Zmz,Zm0,Zm1,Zm3,Zm5,Zm6,Zm9,Zna,Znb,Zne,Znf,Zng,Znn,Zno,Znp,Zoa,Zof,Zog,Zrd,Zos,Zot,Zo4,Zo6,Zo7,Zo8,Zo9,Zpb,Zpv,Zp7,Zp9,Zqd,Zqe,eq_self,true_and,and_true,zF_fc,fc_0,fc_17,fc_18,fc_19,fc_20,fc_53,fc_54,fc_55,fs_0,fs_17,fs_18,fs_19,fs_20,fs_53,fs_54,fs_55,fp_1,fp_21,fp_f,rb_1,rb_21,rb_0,fc_len,fc_ok,fc_id,fc_rs,v16,v32,cB_cells,h8',g7,g8]
    tactic =>
    and_intros <;> try (first | omega | rfl | assumption | simp only [IN]; omega)
    refine endA ?_
    simp only [fr, zFm]
    sym =>
    simp [Zaa,Zab,Zac,Zad,Zae,Zaf,Zag,Zak,Zal,Zam,Zao,Zap,Zaz,Za0,Za1,Za2,Za3,Za4,Za5,Za6,Za7,Zrh,Za8,Za9,Zba,Zbb,Zbc,Zbd,Zbf,Zbt,Zbu,Zbv,Zb1,Zb9,Zcn,Zcv,Zcx,Zcz,Zc3,Zc4,Zc7,Zc8,Zc9,Zdc,Zdd,Zde,Zdf,Zdg,Zdh,Zdi,Zdj,Zdk,Zdo,Zdp,Zdt,Zdu,Zdv,Zdw,Zdx,Zdy,Zdz,Zd0,Zd1,Zd2,Zd6,Zek,Zen,Zeq,Zet,Zev,Zew,Zex,Zez,Ze0,Ze1,Ze2,Ze3,Ze5,Ze8,Zfc,Zfd,Zfe,Zfh,Zfi,Zfj,Zfk,Zfl,Zfn,Zfr,Zfz,Zf0,Zf1,Zf3,Zgr,Zgs,Zgt,Zgv,Zgw,Zgx,Zg4,Zg5,Zhd,Zhe,Zhf,Zhg,Zhh,Zho,Zh6,Zh7,Zin,Zio,Zip,Ziq,Zir,Ziu,Ziv,Ziw,Zi6,Zi7,Zjh,Zji,Zjn,Zjr,Zj2,Zla,Zlb,Zle,Zlf,Zlh,Zll,Zls,Zlz,Zmt,Zmv,Zmw,Zmx,Zmy,Zmz,Zm0,Zm1,Zm3,Zm5,Zm6,Zm9,Zna,Znb,Zne,Znf,Zng,Znn,Zno,Znp,Zoa,Zof,Zog,Zrd,Zos,Zot,Zo4,Zo6,Zo7,Zo8,Zo9,Zpb,Zpv,Zp7,Zp9,Zqd,Zqe,eq_self,true_and,and_true,zF_fc,fc_0,fc_17,fc_18,fc_19,fc_20,fc_53,fc_54,fc_55,fs_0,fs_17,fs_18,fs_19,fs_20,fs_53,fs_54,fs_55,fp_1,fp_21,fp_f,rb_1,rb_21,rb_0,fc_len,fc_ok,fc_id,fc_rs,v16,v32,cB_cells]
    tactic =>
    exact ⟨rfl, rfl⟩
  rw [if_neg h8]
  have h8' : ¬ IN b.length < (8 : Int) := by simp only [IN]; omega
  by_cases h9 : 8 < b.length
  · rw [if_pos h9]
    have h9' : IN b.length > (8 : Int) := by simp only [IN]; omega
    sym =>
    simp [Zaa,Zab,Zac,Zad,Zae,Zaf,Zag,Zak,Zal,Zam,Zao,Zap,Zaz,Za0,Za1,Za2,Za3,Za4,Za5,Za6,Za7,Zrh,Za8,Za9,Zba,Zbb,Zbc,Zbd,Zbf,Zbt,Zbu,Zbv,Zb1,Zb9,Zcn,Zcv,Zcx,Zcz,Zc3,Zc4,Zc7,Zc8,Zc9,Zdc,Zdd,Zde,Zdf,Zdg,Zdh,Zdi,Zdj,Zdk,Zdo,Zdp,Zdt,Zdu,Zdv,Zdw,Zdx,Zdy,Zdz,Zd0,Zd1,Zd2,Zd6,Zek,Zen,Zeq,Zet,Zev,Zew,Zex,Zez,Ze0,Ze1,Ze2,Ze3,Ze5,Ze8,Zfc,Zfd,Zfe,Zfh,Zfi,Zfj,Zfk,Zfl,Zfn,Zfr,Zfz,Zf0,Zf1,Zf3,Zgr,Zgs,Zgt,Zgv,Zgw,Zgx,Zg4,Zg5,Zhd,Zhe,Zhf,Zhg,Zhh,Zho,Zh6,Zh7,Zin,Zio,Zip,Ziq,Zir,Ziu,Ziv,Ziw,Zi6,Zi7,Zjh,Zji,Zjn,Zjr,Zj2,Zla,Zlb,Zle,Zlf,Zlh,Zll,Zls,Zlz,Zmt,Zmv,Zmw,Zmx,Zmy,Zmz,Zm0,Zm1,Zm3,Zm5,Zm6,Zm9,Zna,Znb,Zne,Znf,Zng,Znn,Zno,Znp,Zoa,Zof,Zog,Zrd,Zos,Zot,Zo4,Zo6,Zo7,Zo8,Zo9,Zpb,Zpv,Zp7,Zp9,Zqd,Zqe,eq_self,true_and,and_true,zF_fc,fc_0,fc_17,fc_18,fc_19,fc_20,fc_53,fc_54,fc_55,fs_0,fs_17,fs_18,fs_19,fs_20,fs_53,fs_54,fs_55,fp_1,fp_21,fp_f,rb_1,rb_21,rb_0,fc_len,fc_ok,fc_id,fc_rs,v16,v32,cB_cells,h8',h9',g7,g8]
    tactic =>
    and_intros <;> try (first | omega | rfl | assumption | simp only [IN]; omega)
    refine endA ?_
    simp only [fr, zFm]
    sym =>
    simp [Zaa,Zab,Zac,Zad,Zae,Zaf,Zag,Zak,Zal,Zam,Zao,Zap,Zaz,Za0,Za1,Za2,Za3,Za4,Za5,Za6,Za7,Zrh,Za8,Za9,Zba,Zbb,Zbc,Zbd,Zbf,Zbt,Zbu,Zbv,Zb1,Zb9,Zcn,Zcv,Zcx,Zcz,Zc3,Zc4,Zc7,Zc8,Zc9,Zdc,Zdd,Zde,Zdf,Zdg,Zdh,Zdi,Zdj,Zdk,Zdo,Zdp,Zdt,Zdu,Zdv,Zdw,Zdx,Zdy,Zdz,Zd0,Zd1,Zd2,Zd6,Zek,Zen,Zeq,Zet,Zev,Zew,Zex,Zez,Ze0,Ze1,Ze2,Ze3,Ze5,Ze8,Zfc,Zfd,Zfe,Zfh,Zfi,Zfj,Zfk,Zfl,Zfn,Zfr,Zfz,Zf0,Zf1,Zf3,Zgr,Zgs,Zgt,Zgv,Zgw,Zgx,Zg4,Zg5,Zhd,Zhe,Zhf,Zhg,Zhh,Zho,Zh6,Zh7,Zin,Zio,Zip,Ziq,Zir,Ziu,Ziv,Ziw,Zi6,Zi7,Zjh,Zji,Zjn,Zjr,Zj2,Zla,Zlb,Zle,Zlf,Zlh,Zll,Zls,Zlz,Zmt,Zmv,Zmw,Zmx,Zmy,Zmz,Zm0,Zm1,Zm3,Zm5,Zm6,Zm9,Zna,Znb,Zne,Znf,Zng,Znn,Zno,Znp,Zoa,Zof,Zog,Zrd,Zos,Zot,Zo4,Zo6,Zo7,Zo8,Zo9,Zpb,Zpv,Zp7,Zp9,Zqd,Zqe,eq_self,true_and,and_true,zF_fc,fc_0,fc_17,fc_18,fc_19,fc_20,fc_53,fc_54,fc_55,fs_0,fs_17,fs_18,fs_19,fs_20,fs_53,fs_54,fs_55,fp_1,fp_21,fp_f,rb_1,rb_21,rb_0,fc_len,fc_ok,fc_id,fc_rs,v16,v32,cB_cells]
    tactic =>
    exact ⟨rfl, rfl⟩
  rw [if_neg h9]
  have h9' : ¬ IN b.length > (8 : Int) := by simp only [IN]; omega
  have hbt : b.take 8 = b := List.take_of_length_le (by omega)
  have hx := of8 hb 8 (by omega) (by decide)
  have hl8 : b.length = 8 := by omega
  obtain ⟨x, hx0⟩ : ∃ x, x = ofN b 8 := ⟨_, rfl⟩
  obtain ⟨F, hF⟩ : ∃ F, F = ff2 t es er b := ⟨_, rfl⟩
  rw [← hF]
  unfold ff2 at hF
  rw [hbt, ← hx0] at hF
  rw [← hx0] at hx
  have hf := rmay_con F (by rw [hF]; exact Nat.zero_le _)
  simp only [fr] at hf
  obtain ⟨M, hM⟩ : ∃ q, q = mayF F := ⟨_, rfl⟩
  rw [← hM] at hf ⊢
  subst hF
  simp only [fr] at hf ⊢
  sym =>
  simp [Zaa,Zab,Zac,Zad,Zae,Zaf,Zag,Zak,Zal,Zam,Zao,Zap,Zaz,Za0,Za1,Za2,Za3,Za4,Za5,Za6,Za7,Zrh,Za8,Za9,Zba,Zbb,Zbc,Zbd,Zbf,Zbt,Zbu,Zbv,Zb1,Zb9,Zcn,Zcv,Zcx,Zcz,Zc3,Zc4,Zc7,Zc8,Zc9,Zdc,Zdd,Zde,Zdf,Zdg,Zdh,Zdi,Zdj,Zdk,Zdo,Zdp,Zdt,Zdu,Zdv,Zdw,Zdx,Zdy,Zdz,Zd0,Zd1,Zd2,Zd6,Zek,Zen,Zeq,Zet,Zev,Zew,Zex,Zez,Ze0,Ze1,Ze2,Ze3,Ze5,Ze8,Zfc,Zfd,Zfe,Zfh,Zfi,Zfj,Zfk,Zfl,Zfn,Zfr,Zfz,Zf0,Zf1,Zf3,Zgr,Zgs,Zgt,Zgv,Zgw,Zgx,Zg4,Zg5,Zhd,Zhe,Zhf,Zhg,Zhh,Zho,Zh6,Zh7,Zin,Zio,Zip,Ziq,Zir,Ziu,Ziv,Ziw,Zi6,Zi7,Zjh,Zji,Zjn,Zjr,Zj2,Zla,Zlb,Zle,Zlf,Zlh,Zll,Zls,Zlz,Zmt,Zmv,Zmw,Zmx,Zmy,Zmz,Zm0,Zm1,Zm3,Zm5,Zm6,Zm9,Zna,Znb,Zne,Znf,Zng,Znn,Zno,Znp,Zoa,Zof,Zog,Zrd,Zos,Zot,Zo4,Zo6,Zo7,Zo8,Zo9,Zpb,Zpv,Zp7,Zp9,Zqd,Zqe,eq_self,true_and,and_true,zF_fc,fc_0,fc_17,fc_18,fc_19,fc_20,fc_53,fc_54,fc_55,fs_0,fs_17,fs_18,fs_19,fs_20,fs_53,fs_54,fs_55,fp_1,fp_21,fp_f,rb_1,rb_21,rb_0,fc_len,fc_ok,fc_id,fc_rs,v16,v32,cB_cells,h8',h9',g7,g8,hl8,callable_41]
  tactic =>
  and_intros <;> try (first | omega | rfl | assumption | simp only [IN]; omega)
  refine cl none (hx) trivial ?_
  sym =>
  simp [Zaa,Zab,Zac,Zad,Zae,Zaf,Zag,Zak,Zal,Zam,Zao,Zap,Zaz,Za0,Za1,Za2,Za3,Za4,Za5,Za6,Za7,Zrh,Za8,Za9,Zba,Zbb,Zbc,Zbd,Zbf,Zbt,Zbu,Zbv,Zb1,Zb9,Zcn,Zcv,Zcx,Zcz,Zc3,Zc4,Zc7,Zc8,Zc9,Zdc,Zdd,Zde,Zdf,Zdg,Zdh,Zdi,Zdj,Zdk,Zdo,Zdp,Zdt,Zdu,Zdv,Zdw,Zdx,Zdy,Zdz,Zd0,Zd1,Zd2,Zd6,Zek,Zen,Zeq,Zet,Zev,Zew,Zex,Zez,Ze0,Ze1,Ze2,Ze3,Ze5,Ze8,Zfc,Zfd,Zfe,Zfh,Zfi,Zfj,Zfk,Zfl,Zfn,Zfr,Zfz,Zf0,Zf1,Zf3,Zgr,Zgs,Zgt,Zgv,Zgw,Zgx,Zg4,Zg5,Zhd,Zhe,Zhf,Zhg,Zhh,Zho,Zh6,Zh7,Zin,Zio,Zip,Ziq,Zir,Ziu,Ziv,Ziw,Zi6,Zi7,Zjh,Zji,Zjn,Zjr,Zj2,Zla,Zlb,Zle,Zlf,Zlh,Zll,Zls,Zlz,Zmt,Zmv,Zmw,Zmx,Zmy,Zmz,Zm0,Zm1,Zm3,Zm5,Zm6,Zm9,Zna,Znb,Zne,Znf,Zng,Znn,Zno,Znp,Zoa,Zof,Zog,Zrd,Zos,Zot,Zo4,Zo6,Zo7,Zo8,Zo9,Zpb,Zpv,Zp7,Zp9,Zqd,Zqe,eq_self,true_and,and_true,zF_fc,fc_0,fc_17,fc_18,fc_19,fc_20,fc_53,fc_54,fc_55,fs_0,fs_17,fs_18,fs_19,fs_20,fs_53,fs_54,fs_55,fp_1,fp_21,fp_f,rb_1,rb_21,rb_0,fc_len,fc_ok,fc_id,fc_rs,v16,v32,cB_cells,fz_fc,fcF1,callable_27]
  tactic =>
  refine cl none (hf) trivial ?_
  sym =>
  simp [Zaa,Zab,Zac,Zad,Zae,Zaf,Zag,Zak,Zal,Zam,Zao,Zap,Zaz,Za0,Za1,Za2,Za3,Za4,Za5,Za6,Za7,Zrh,Za8,Za9,Zba,Zbb,Zbc,Zbd,Zbf,Zbt,Zbu,Zbv,Zb1,Zb9,Zcn,Zcv,Zcx,Zcz,Zc3,Zc4,Zc7,Zc8,Zc9,Zdc,Zdd,Zde,Zdf,Zdg,Zdh,Zdi,Zdj,Zdk,Zdo,Zdp,Zdt,Zdu,Zdv,Zdw,Zdx,Zdy,Zdz,Zd0,Zd1,Zd2,Zd6,Zek,Zen,Zeq,Zet,Zev,Zew,Zex,Zez,Ze0,Ze1,Ze2,Ze3,Ze5,Ze8,Zfc,Zfd,Zfe,Zfh,Zfi,Zfj,Zfk,Zfl,Zfn,Zfr,Zfz,Zf0,Zf1,Zf3,Zgr,Zgs,Zgt,Zgv,Zgw,Zgx,Zg4,Zg5,Zhd,Zhe,Zhf,Zhg,Zhh,Zho,Zh6,Zh7,Zin,Zio,Zip,Ziq,Zir,Ziu,Ziv,Ziw,Zi6,Zi7,Zjh,Zji,Zjn,Zjr,Zj2,Zla,Zlb,Zle,Zlf,Zlh,Zll,Zls,Zlz,Zmt,Zmv,Zmw,Zmx,Zmy,Zmz,Zm0,Zm1,Zm3,Zm5,Zm6,Zm9,Zna,Znb,Zne,Znf,Zng,Znn,Zno,Znp,Zoa,Zof,Zog,Zrd,Zos,Zot,Zo4,Zo6,Zo7,Zo8,Zo9,Zpb,Zpv,Zp7,Zp9,Zqd,Zqe,eq_self,true_and,and_true,zF_fc,fc_0,fc_17,fc_18,fc_19,fc_20,fc_53,fc_54,fc_55,fs_0,fs_17,fs_18,fs_19,fs_20,fs_53,fs_54,fs_55,fp_1,fp_21,fp_f,rb_1,rb_21,rb_0,fc_len,fc_ok,fc_id,fc_rs,v16,v32,cB_cells]
  tactic =>
  refine endA ?_
  sym =>
  simp [Zaa,Zab,Zac,Zad,Zae,Zaf,Zag,Zak,Zal,Zam,Zao,Zap,Zaz,Za0,Za1,Za2,Za3,Za4,Za5,Za6,Za7,Zrh,Za8,Za9,Zba,Zbb,Zbc,Zbd,Zbf,Zbt,Zbu,Zbv,Zb1,Zb9,Zcn,Zcv,Zcx,Zcz,Zc3,Zc4,Zc7,Zc8,Zc9,Zdc,Zdd,Zde,Zdf,Zdg,Zdh,Zdi,Zdj,Zdk,Zdo,Zdp,Zdt,Zdu,Zdv,Zdw,Zdx,Zdy,Zdz,Zd0,Zd1,Zd2,Zd6,Zek,Zen,Zeq,Zet,Zev,Zew,Zex,Zez,Ze0,Ze1,Ze2,Ze3,Ze5,Ze8,Zfc,Zfd,Zfe,Zfh,Zfi,Zfj,Zfk,Zfl,Zfn,Zfr,Zfz,Zf0,Zf1,Zf3,Zgr,Zgs,Zgt,Zgv,Zgw,Zgx,Zg4,Zg5,Zhd,Zhe,Zhf,Zhg,Zhh,Zho,Zh6,Zh7,Zin,Zio,Zip,Ziq,Zir,Ziu,Ziv,Ziw,Zi6,Zi7,Zjh,Zji,Zjn,Zjr,Zj2,Zla,Zlb,Zle,Zlf,Zlh,Zll,Zls,Zlz,Zmt,Zmv,Zmw,Zmx,Zmy,Zmz,Zm0,Zm1,Zm3,Zm5,Zm6,Zm9,Zna,Znb,Zne,Znf,Zng,Znn,Zno,Znp,Zoa,Zof,Zog,Zrd,Zos,Zot,Zo4,Zo6,Zo7,Zo8,Zo9,Zpb,Zpv,Zp7,Zp9,Zqd,Zqe,eq_self,true_and,and_true,zF_fc,fc_0,fc_17,fc_18,fc_19,fc_20,fc_53,fc_54,fc_55,fs_0,fs_17,fs_18,fs_19,fs_20,fs_53,fs_54,fs_55,fp_1,fp_21,fp_f,rb_1,rb_21,rb_0,fc_len,fc_ok,fc_id,fc_rs,v16,v32,cB_cells]
  tactic =>
  exact ⟨rfl, rfl⟩
theorem rfields6 (t : V 16) (es er : Int) (b : List Int) (hb : byt8 b) (hl : b.length ≤ 5000) : Con Try.prog 42 [] [.ag (fc 6 t es er 0 0 z32 .nl .nl 0), fB b] [] (.tu [.ag (fr (fdE 6 t es er b).1), I (fdE 6 t es er b).2]) := by
  have g7 : IntKind.i64.wrap (5 : Int) = 5 := by decide
  have g8 : (5 : Int).toNat = 5 := rfl
  rw [fdE6]
  refine con_j b42 rfl ?_
  by_cases h8 : b.length < 8
  · rw [if_pos h8]
    have h8' : IN b.length < (8 : Int) := by simp only [IN]; omega
    sym =>
    simp [Zaa,Zab,Zac,Zad,Zae,Zaf,Zag,Zak,Zal,Zam,Zao,Zap,Zaz,Za0,Za1,Za2,Za3,Za4,Za5,Za6,Za7,Zrh,Za8,Za9,Zba,Zbb,Zbc,Zbd,Zbf,Zbt,Zbu,Zbv,Zb1,Zb9,Zcn,Zcv,Zcx,Zcz,Zc3,Zc4,Zc7,Zc8,Zc9,Zdc,Zdd,Zde,Zdf,Zdg,Zdh,Zdi,Zdj,Zdk,Zdo,Zdp,Zdt,Zdu,Zdv,Zdw,Zdx,Zdy,Zdz,Zd0,Zd1,Zd2,Zd6,Zek,Zen,Zeq,Zet,Zev,Zew,Zex,Zez,Ze0,Ze1,Ze2,Ze3,Ze5,Ze8,Zfc,Zfd,Zfe,Zfh,Zfi,Zfj,Zfk,Zfl,Zfn,Zfr,Zfz,Zf0,Zf1,Zf3,Zgr,Zgs,Zgt,Zgv,Zgw,Zgx,Zg4,Zg5,Zhd,Zhe,Zhf,Zhg,Zhh,Zho,Zh6,Zh7,Zin,Zio,Zip,Ziq,Zir,Ziu,Ziv,Ziw,Zi6,Zi7,Zjh,Zji,Zjn,Zjr,Zj2,Zla,Zlb,Zle,Zlf,Zlh,Zll,Zls,Zlz,Zmt,Zmv,Zmw,Zmx,Zmy,Zmz,Zm0,Zm1,Zm3,Zm5,Zm6,Zm9,Zna,Znb,Zne,Znf,Zng,Znn,Zno,Znp,Zoa,Zof,Zog,Zrd,Zos,Zot,Zo4,Zo6,Zo7,Zo8,Zo9,Zpb,Zpv,Zp7,Zp9,Zqd,Zqe,eq_self,true_and,and_true,zF_fc,fc_0,fc_17,fc_18,fc_19,fc_20,fc_53,fc_54,fc_55,fs_0,fs_17,fs_18,fs_19,fs_20,fs_53,fs_54,fs_55,fp_1,fp_21,fp_f,rb_1,rb_21,rb_0,fc_len,fc_ok,fc_id,fc_rs,v16,v32,cB_cells,h8',g7,g8]
    tactic =>
    and_intros <;> try (first | omega | rfl | assumption | simp only [IN]; omega)
    refine endA ?_
    simp only [fr, zFm]
    sym =>
    simp [Zaa,Zab,Zac,Zad,Zae,Zaf,Zag,Zak,Zal,Zam,Zao,Zap,Zaz,Za0,Za1,Za2,Za3,Za4,Za5,Za6,Za7,Zrh,Za8,Za9,Zba,Zbb,Zbc,Zbd,Zbf,Zbt,Zbu,Zbv,Zb1,Zb9,Zcn,Zcv,Zcx,Zcz,Zc3,Zc4,Zc7,Zc8,Zc9,Zdc,Zdd,Zde,Zdf,Zdg,Zdh,Zdi,Zdj,Zdk,Zdo,Zdp,Zdt,Zdu,Zdv,Zdw,Zdx,Zdy,Zdz,Zd0,Zd1,Zd2,Zd6,Zek,Zen,Zeq,Zet,Zev,Zew,Zex,Zez,Ze0,Ze1,Ze2,Ze3,Ze5,Ze8,Zfc,Zfd,Zfe,Zfh,Zfi,Zfj,Zfk,Zfl,Zfn,Zfr,Zfz,Zf0,Zf1,Zf3,Zgr,Zgs,Zgt,Zgv,Zgw,Zgx,Zg4,Zg5,Zhd,Zhe,Zhf,Zhg,Zhh,Zho,Zh6,Zh7,Zin,Zio,Zip,Ziq,Zir,Ziu,Ziv,Ziw,Zi6,Zi7,Zjh,Zji,Zjn,Zjr,Zj2,Zla,Zlb,Zle,Zlf,Zlh,Zll,Zls,Zlz,Zmt,Zmv,Zmw,Zmx,Zmy,Zmz,Zm0,Zm1,Zm3,Zm5,Zm6,Zm9,Zna,Znb,Zne,Znf,Zng,Znn,Zno,Znp,Zoa,Zof,Zog,Zrd,Zos,Zot,Zo4,Zo6,Zo7,Zo8,Zo9,Zpb,Zpv,Zp7,Zp9,Zqd,Zqe,eq_self,true_and,and_true,zF_fc,fc_0,fc_17,fc_18,fc_19,fc_20,fc_53,fc_54,fc_55,fs_0,fs_17,fs_18,fs_19,fs_20,fs_53,fs_54,fs_55,fp_1,fp_21,fp_f,rb_1,rb_21,rb_0,fc_len,fc_ok,fc_id,fc_rs,v16,v32,cB_cells]
    tactic =>
    exact ⟨rfl, rfl⟩
  rw [if_neg h8]
  have h8' : ¬ IN b.length < (8 : Int) := by simp only [IN]; omega
  by_cases h9 : 8 < b.length
  · rw [if_pos h9]
    have h9' : IN b.length > (8 : Int) := by simp only [IN]; omega
    sym =>
    simp [Zaa,Zab,Zac,Zad,Zae,Zaf,Zag,Zak,Zal,Zam,Zao,Zap,Zaz,Za0,Za1,Za2,Za3,Za4,Za5,Za6,Za7,Zrh,Za8,Za9,Zba,Zbb,Zbc,Zbd,Zbf,Zbt,Zbu,Zbv,Zb1,Zb9,Zcn,Zcv,Zcx,Zcz,Zc3,Zc4,Zc7,Zc8,Zc9,Zdc,Zdd,Zde,Zdf,Zdg,Zdh,Zdi,Zdj,Zdk,Zdo,Zdp,Zdt,Zdu,Zdv,Zdw,Zdx,Zdy,Zdz,Zd0,Zd1,Zd2,Zd6,Zek,Zen,Zeq,Zet,Zev,Zew,Zex,Zez,Ze0,Ze1,Ze2,Ze3,Ze5,Ze8,Zfc,Zfd,Zfe,Zfh,Zfi,Zfj,Zfk,Zfl,Zfn,Zfr,Zfz,Zf0,Zf1,Zf3,Zgr,Zgs,Zgt,Zgv,Zgw,Zgx,Zg4,Zg5,Zhd,Zhe,Zhf,Zhg,Zhh,Zho,Zh6,Zh7,Zin,Zio,Zip,Ziq,Zir,Ziu,Ziv,Ziw,Zi6,Zi7,Zjh,Zji,Zjn,Zjr,Zj2,Zla,Zlb,Zle,Zlf,Zlh,Zll,Zls,Zlz,Zmt,Zmv,Zmw,Zmx,Zmy,Zmz,Zm0,Zm1,Zm3,Zm5,Zm6,Zm9,Zna,Znb,Zne,Znf,Zng,Znn,Zno,Znp,Zoa,Zof,Zog,Zrd,Zos,Zot,Zo4,Zo6,Zo7,Zo8,Zo9,Zpb,Zpv,Zp7,Zp9,Zqd,Zqe,eq_self,true_and,and_true,zF_fc,fc_0,fc_17,fc_18,fc_19,fc_20,fc_53,fc_54,fc_55,fs_0,fs_17,fs_18,fs_19,fs_20,fs_53,fs_54,fs_55,fp_1,fp_21,fp_f,rb_1,rb_21,rb_0,fc_len,fc_ok,fc_id,fc_rs,v16,v32,cB_cells,h8',h9',g7,g8]
    tactic =>
    and_intros <;> try (first | omega | rfl | assumption | simp only [IN]; omega)
    refine endA ?_
    simp only [fr, zFm]
    sym =>
    simp [Zaa,Zab,Zac,Zad,Zae,Zaf,Zag,Zak,Zal,Zam,Zao,Zap,Zaz,Za0,Za1,Za2,Za3,Za4,Za5,Za6,Za7,Zrh,Za8,Za9,Zba,Zbb,Zbc,Zbd,Zbf,Zbt,Zbu,Zbv,Zb1,Zb9,Zcn,Zcv,Zcx,Zcz,Zc3,Zc4,Zc7,Zc8,Zc9,Zdc,Zdd,Zde,Zdf,Zdg,Zdh,Zdi,Zdj,Zdk,Zdo,Zdp,Zdt,Zdu,Zdv,Zdw,Zdx,Zdy,Zdz,Zd0,Zd1,Zd2,Zd6,Zek,Zen,Zeq,Zet,Zev,Zew,Zex,Zez,Ze0,Ze1,Ze2,Ze3,Ze5,Ze8,Zfc,Zfd,Zfe,Zfh,Zfi,Zfj,Zfk,Zfl,Zfn,Zfr,Zfz,Zf0,Zf1,Zf3,Zgr,Zgs,Zgt,Zgv,Zgw,Zgx,Zg4,Zg5,Zhd,Zhe,Zhf,Zhg,Zhh,Zho,Zh6,Zh7,Zin,Zio,Zip,Ziq,Zir,Ziu,Ziv,Ziw,Zi6,Zi7,Zjh,Zji,Zjn,Zjr,Zj2,Zla,Zlb,Zle,Zlf,Zlh,Zll,Zls,Zlz,Zmt,Zmv,Zmw,Zmx,Zmy,Zmz,Zm0,Zm1,Zm3,Zm5,Zm6,Zm9,Zna,Znb,Zne,Znf,Zng,Znn,Zno,Znp,Zoa,Zof,Zog,Zrd,Zos,Zot,Zo4,Zo6,Zo7,Zo8,Zo9,Zpb,Zpv,Zp7,Zp9,Zqd,Zqe,eq_self,true_and,and_true,zF_fc,fc_0,fc_17,fc_18,fc_19,fc_20,fc_53,fc_54,fc_55,fs_0,fs_17,fs_18,fs_19,fs_20,fs_53,fs_54,fs_55,fp_1,fp_21,fp_f,rb_1,rb_21,rb_0,fc_len,fc_ok,fc_id,fc_rs,v16,v32,cB_cells]
    tactic =>
    exact ⟨rfl, rfl⟩
  rw [if_neg h9]
  have h9' : ¬ IN b.length > (8 : Int) := by simp only [IN]; omega
  have hbt : b.take 8 = b := List.take_of_length_le (by omega)
  have hx := of8 hb 8 (by omega) (by decide)
  have hl8 : b.length = 8 := by omega
  obtain ⟨x, hx0⟩ : ∃ x, x = ofN b 8 := ⟨_, rfl⟩
  obtain ⟨F, hF⟩ : ∃ F, F = ff6 t es er b := ⟨_, rfl⟩
  rw [← hF]
  unfold ff6 at hF
  rw [hbt, ← hx0] at hF
  rw [← hx0] at hx
  have hf := rmay_con F (by rw [hF]; exact Nat.zero_le _)
  simp only [fr] at hf
  obtain ⟨M, hM⟩ : ∃ q, q = mayF F := ⟨_, rfl⟩
  rw [← hM] at hf ⊢
  subst hF
  simp only [fr] at hf ⊢
  sym =>
  simp [Zaa,Zab,Zac,Zad,Zae,Zaf,Zag,Zak,Zal,Zam,Zao,Zap,Zaz,Za0,Za1,Za2,Za3,Za4,Za5,Za6,Za7,Zrh,Za8,Za9,Zba,Zbb,Zbc,Zbd,Zbf,Zbt,Zbu,Zbv,Zb1,Zb9,Zcn,Zcv,Zcx,Zcz,Zc3,Zc4,Zc7,Zc8,Zc9,Zdc,Zdd,Zde,Zdf,Zdg,Zdh,Zdi,Zdj,Zdk,Zdo,Zdp,Zdt,Zdu,Zdv,Zdw,Zdx,Zdy,Zdz,Zd0,Zd1,Zd2,Zd6,Zek,Zen,Zeq,Zet,Zev,Zew,Zex,Zez,Ze0,Ze1,Ze2,Ze3,Ze5,Ze8,Zfc,Zfd,Zfe,Zfh,Zfi,Zfj,Zfk,Zfl,Zfn,Zfr,Zfz,Zf0,Zf1,Zf3,Zgr,Zgs,Zgt,Zgv,Zgw,Zgx,Zg4,Zg5,Zhd,Zhe,Zhf,Zhg,Zhh,Zho,Zh6,Zh7,Zin,Zio,Zip,Ziq,Zir,Ziu,Ziv,Ziw,Zi6,Zi7,Zjh,Zji,Zjn,Zjr,Zj2,Zla,Zlb,Zle,Zlf,Zlh,Zll,Zls,Zlz,Zmt,Zmv,Zmw,Zmx,Zmy,Zmz,Zm0,Zm1,Zm3,Zm5,Zm6,Zm9,Zna,Znb,Zne,Znf,Zng,Znn,Zno,Znp,Zoa,Zof,Zog,Zrd,Zos,Zot,Zo4,Zo6,Zo7,Zo8,Zo9,Zpb,Zpv,Zp7,Zp9,Zqd,Zqe,eq_self,true_and,and_true,zF_fc,fc_0,fc_17,fc_18,fc_19,fc_20,fc_53,fc_54,fc_55,fs_0,fs_17,fs_18,fs_19,fs_20,fs_53,fs_54,fs_55,fp_1,fp_21,fp_f,rb_1,rb_21,rb_0,fc_len,fc_ok,fc_id,fc_rs,v16,v32,cB_cells,h8',h9',g7,g8,hl8,callable_41]
  tactic =>
  and_intros <;> try (first | omega | rfl | assumption | simp only [IN]; omega)
  refine cl none (hx) trivial ?_
  sym =>
  simp [Zaa,Zab,Zac,Zad,Zae,Zaf,Zag,Zak,Zal,Zam,Zao,Zap,Zaz,Za0,Za1,Za2,Za3,Za4,Za5,Za6,Za7,Zrh,Za8,Za9,Zba,Zbb,Zbc,Zbd,Zbf,Zbt,Zbu,Zbv,Zb1,Zb9,Zcn,Zcv,Zcx,Zcz,Zc3,Zc4,Zc7,Zc8,Zc9,Zdc,Zdd,Zde,Zdf,Zdg,Zdh,Zdi,Zdj,Zdk,Zdo,Zdp,Zdt,Zdu,Zdv,Zdw,Zdx,Zdy,Zdz,Zd0,Zd1,Zd2,Zd6,Zek,Zen,Zeq,Zet,Zev,Zew,Zex,Zez,Ze0,Ze1,Ze2,Ze3,Ze5,Ze8,Zfc,Zfd,Zfe,Zfh,Zfi,Zfj,Zfk,Zfl,Zfn,Zfr,Zfz,Zf0,Zf1,Zf3,Zgr,Zgs,Zgt,Zgv,Zgw,Zgx,Zg4,Zg5,Zhd,Zhe,Zhf,Zhg,Zhh,Zho,Zh6,Zh7,Zin,Zio,Zip,Ziq,Zir,Ziu,Ziv,Ziw,Zi6,Zi7,Zjh,Zji,Zjn,Zjr,Zj2,Zla,Zlb,Zle,Zlf,Zlh,Zll,Zls,Zlz,Zmt,Zmv,Zmw,Zmx,Zmy,Zmz,Zm0,Zm1,Zm3,Zm5,Zm6,Zm9,Zna,Znb,Zne,Znf,Zng,Znn,Zno,Znp,Zoa,Zof,Zog,Zrd,Zos,Zot,Zo4,Zo6,Zo7,Zo8,Zo9,Zpb,Zpv,Zp7,Zp9,Zqd,Zqe,eq_self,true_and,and_true,zF_fc,fc_0,fc_17,fc_18,fc_19,fc_20,fc_53,fc_54,fc_55,fs_0,fs_17,fs_18,fs_19,fs_20,fs_53,fs_54,fs_55,fp_1,fp_21,fp_f,rb_1,rb_21,rb_0,fc_len,fc_ok,fc_id,fc_rs,v16,v32,cB_cells,fz_fc,fcF1,callable_27]
  tactic =>
  refine cl none (hf) trivial ?_
  sym =>
  simp [Zaa,Zab,Zac,Zad,Zae,Zaf,Zag,Zak,Zal,Zam,Zao,Zap,Zaz,Za0,Za1,Za2,Za3,Za4,Za5,Za6,Za7,Zrh,Za8,Za9,Zba,Zbb,Zbc,Zbd,Zbf,Zbt,Zbu,Zbv,Zb1,Zb9,Zcn,Zcv,Zcx,Zcz,Zc3,Zc4,Zc7,Zc8,Zc9,Zdc,Zdd,Zde,Zdf,Zdg,Zdh,Zdi,Zdj,Zdk,Zdo,Zdp,Zdt,Zdu,Zdv,Zdw,Zdx,Zdy,Zdz,Zd0,Zd1,Zd2,Zd6,Zek,Zen,Zeq,Zet,Zev,Zew,Zex,Zez,Ze0,Ze1,Ze2,Ze3,Ze5,Ze8,Zfc,Zfd,Zfe,Zfh,Zfi,Zfj,Zfk,Zfl,Zfn,Zfr,Zfz,Zf0,Zf1,Zf3,Zgr,Zgs,Zgt,Zgv,Zgw,Zgx,Zg4,Zg5,Zhd,Zhe,Zhf,Zhg,Zhh,Zho,Zh6,Zh7,Zin,Zio,Zip,Ziq,Zir,Ziu,Ziv,Ziw,Zi6,Zi7,Zjh,Zji,Zjn,Zjr,Zj2,Zla,Zlb,Zle,Zlf,Zlh,Zll,Zls,Zlz,Zmt,Zmv,Zmw,Zmx,Zmy,Zmz,Zm0,Zm1,Zm3,Zm5,Zm6,Zm9,Zna,Znb,Zne,Znf,Zng,Znn,Zno,Znp,Zoa,Zof,Zog,Zrd,Zos,Zot,Zo4,Zo6,Zo7,Zo8,Zo9,Zpb,Zpv,Zp7,Zp9,Zqd,Zqe,eq_self,true_and,and_true,zF_fc,fc_0,fc_17,fc_18,fc_19,fc_20,fc_53,fc_54,fc_55,fs_0,fs_17,fs_18,fs_19,fs_20,fs_53,fs_54,fs_55,fp_1,fp_21,fp_f,rb_1,rb_21,rb_0,fc_len,fc_ok,fc_id,fc_rs,v16,v32,cB_cells]
  tactic =>
  refine endA ?_
  sym =>
  simp [Zaa,Zab,Zac,Zad,Zae,Zaf,Zag,Zak,Zal,Zam,Zao,Zap,Zaz,Za0,Za1,Za2,Za3,Za4,Za5,Za6,Za7,Zrh,Za8,Za9,Zba,Zbb,Zbc,Zbd,Zbf,Zbt,Zbu,Zbv,Zb1,Zb9,Zcn,Zcv,Zcx,Zcz,Zc3,Zc4,Zc7,Zc8,Zc9,Zdc,Zdd,Zde,Zdf,Zdg,Zdh,Zdi,Zdj,Zdk,Zdo,Zdp,Zdt,Zdu,Zdv,Zdw,Zdx,Zdy,Zdz,Zd0,Zd1,Zd2,Zd6,Zek,Zen,Zeq,Zet,Zev,Zew,Zex,Zez,Ze0,Ze1,Ze2,Ze3,Ze5,Ze8,Zfc,Zfd,Zfe,Zfh,Zfi,Zfj,Zfk,Zfl,Zfn,Zfr,Zfz,Zf0,Zf1,Zf3,Zgr,Zgs,Zgt,Zgv,Zgw,Zgx,Zg4,Zg5,Zhd,Zhe,Zhf,Zhg,Zhh,Zho,Zh6,Zh7,Zin,Zio,Zip,Ziq,Zir,Ziu,Ziv,Ziw,Zi6,Zi7,Zjh,Zji,Zjn,Zjr,Zj2,Zla,Zlb,Zle,Zlf,Zlh,Zll,Zls,Zlz,Zmt,Zmv,Zmw,Zmx,Zmy,Zmz,Zm0,Zm1,Zm3,Zm5,Zm6,Zm9,Zna,Znb,Zne,Znf,Zng,Znn,Zno,Znp,Zoa,Zof,Zog,Zrd,Zos,Zot,Zo4,Zo6,Zo7,Zo8,Zo9,Zpb,Zpv,Zp7,Zp9,Zqd,Zqe,eq_self,true_and,and_true,zF_fc,fc_0,fc_17,fc_18,fc_19,fc_20,fc_53,fc_54,fc_55,fs_0,fs_17,fs_18,fs_19,fs_20,fs_53,fs_54,fs_55,fp_1,fp_21,fp_f,rb_1,rb_21,rb_0,fc_len,fc_ok,fc_id,fc_rs,v16,v32,cB_cells]
  tactic =>
  exact ⟨rfl, rfl⟩
theorem pre_full (s z : V 32) : pre32 s z 32 = s := by
  apply Subtype.ext
  show s.1.take 32 ++ z.1.drop 32 = s.1
  rw [List.take_of_length_le (by rw [s.2]; decide), List.drop_of_length_le (by rw [z.2]; decide), List.append_nil]
theorem s32_get {b : List Int} (h : b.length = 40) (i : Nat) (hi : i < 32) : (s32 (b.drop 8) false).1.getD i 0 = b.getD (8 + i) 0 := by
  show (tkF (b.drop 8) false 32).1.getD i 0 = _
  rw [tk_ge _ _ _ (by rw [List.length_drop]; omega)]
  show ((b.drop 8).take 32).getD i 0 = _
  rw [getD_take _ _ _ hi, drop_getD]
theorem rfields1 (t : V 16) (es er : Int) (b : List Int) (hb : byt8 b) (hl : b.length ≤ 5000) : Con Try.prog 42 [] [.ag (fc 1 t es er 0 0 z32 .nl .nl 0), fB b] [] (.tu [.ag (fr (fdE 1 t es er b).1), I (fdE 1 t es er b).2]) := by
  have g7 : IntKind.i64.wrap (0 : Int) = 0 := by decide
  have g8 : (0 : Int).toNat = 0 := rfl
  rw [fdE15 1 (.inl rfl)]
  refine con_j b42 rfl ?_
  by_cases h8 : b.length < 40
  · rw [if_pos h8]
    have h8' : IN b.length < (40 : Int) := by simp only [IN]; omega
    sym =>
    simp [Zaa,Zab,Zac,Zad,Zae,Zaf,Zag,Zah,Zai,Zak,Zal,Zam,Zan,Zao,Zap,Zaq,Zav,Zaw,Zay,Zaz,Za0,Za1,Za2,Za3,Za4,Za5,Za6,Za7,Zrh,Za8,Za9,Zba,Zbb,Zbc,Zbd,Zbf,Zbt,Zbu,Zbv,Zbz,Zb1,Zb9,Zch,Zcn,Zcv,Zcx,Zcz,Zc3,Zc4,Zc7,Zc8,Zc9,Zdc,Zdd,Zde,Zdf,Zdg,Zdh,Zdi,Zdj,Zdk,Zdo,Zdp,Zdt,Zdu,Zdv,Zdw,Zdx,Zdy,Zdz,Zd0,Zd1,Zd2,Zd6,Zek,Zen,Zeq,Zet,Zev,Zew,Zex,Zez,Ze0,Ze1,Ze2,Ze3,Ze5,Ze8,Zfc,Zfd,Zfe,Zfh,Zfi,Zfj,Zfk,Zfl,Zfn,Zfq,Zfr,Zfz,Zf0,Zf1,Zf3,Zgr,Zgs,Zgt,Zgu,Zgv,Zgw,Zgx,Zg1,Zg2,Zg4,Zg5,Zg6,Zhd,Zhe,Zhf,Zhg,Zhh,Zhm,Zhn,Zho,Zhs,Zht,Zhu,Zh6,Zh7,Zin,Zio,Zip,Ziq,Zir,Ziu,Ziv,Ziw,Zi6,Zi7,Zjh,Zji,Zjn,Zjr,Zj2,Zla,Zlb,Zle,Zlf,Zlh,Zll,Zls,Zlz,Zmt,Zmv,Zmw,Zmx,Zmy,Zmz,Zm0,Zm1,Zm3,Zm5,Zm6,Zm9,Zna,Znb,Zne,Znf,Zng,Znh,Znn,Zno,Znp,Znr,Zns,Znt,Znw,Znx,Zn5,Zoc,Zof,Zog,Zrd,Zos,Zot,Zo4,Zo6,Zo7,Zo8,Zo9,Zpb,Zpc,Zpd,Zpi,Zpu,Zpv,Zp7,Zp9,Zqd,Zqe,Zqf,Zqg,Zqh,Zqi,Zqk,Zql,Zqm,Zqn,eq_self,true_and,and_true,Nat.mul_one,zF_fc,fc_0,fc_17,fc_18,fc_19,fc_20,fc_53,fc_54,fc_55,fs_0,fs_17,fs_18,fs_19,fs_20,fs_53,fs_54,fs_55,fp_1,fp_21,fp_f,rb_1,rb_21,rb_0,fc_len,fc_ok,fc_id,fc_rs,v16,v32,cB_cells,h8',g7,g8]
    tactic =>
    and_intros <;> try (first | omega | rfl | assumption | simp only [IN]; omega)
    refine endA ?_
    simp only [fr, zFm]
    sym =>
    simp [Zaa,Zab,Zac,Zad,Zae,Zaf,Zag,Zah,Zai,Zak,Zal,Zam,Zan,Zao,Zap,Zaq,Zav,Zaw,Zay,Zaz,Za0,Za1,Za2,Za3,Za4,Za5,Za6,Za7,Zrh,Za8,Za9,Zba,Zbb,Zbc,Zbd,Zbf,Zbt,Zbu,Zbv,Zbz,Zb1,Zb9,Zch,Zcn,Zcv,Zcx,Zcz,Zc3,Zc4,Zc7,Zc8,Zc9,Zdc,Zdd,Zde,Zdf,Zdg,Zdh,Zdi,Zdj,Zdk,Zdo,Zdp,Zdt,Zdu,Zdv,Zdw,Zdx,Zdy,Zdz,Zd0,Zd1,Zd2,Zd6,Zek,Zen,Zeq,Zet,Zev,Zew,Zex,Zez,Ze0,Ze1,Ze2,Ze3,Ze5,Ze8,Zfc,Zfd,Zfe,Zfh,Zfi,Zfj,Zfk,Zfl,Zfn,Zfq,Zfr,Zfz,Zf0,Zf1,Zf3,Zgr,Zgs,Zgt,Zgu,Zgv,Zgw,Zgx,Zg1,Zg2,Zg4,Zg5,Zg6,Zhd,Zhe,Zhf,Zhg,Zhh,Zhm,Zhn,Zho,Zhs,Zht,Zhu,Zh6,Zh7,Zin,Zio,Zip,Ziq,Zir,Ziu,Ziv,Ziw,Zi6,Zi7,Zjh,Zji,Zjn,Zjr,Zj2,Zla,Zlb,Zle,Zlf,Zlh,Zll,Zls,Zlz,Zmt,Zmv,Zmw,Zmx,Zmy,Zmz,Zm0,Zm1,Zm3,Zm5,Zm6,Zm9,Zna,Znb,Zne,Znf,Zng,Znh,Znn,Zno,Znp,Znr,Zns,Znt,Znw,Znx,Zn5,Zoc,Zof,Zog,Zrd,Zos,Zot,Zo4,Zo6,Zo7,Zo8,Zo9,Zpb,Zpc,Zpd,Zpi,Zpu,Zpv,Zp7,Zp9,Zqd,Zqe,Zqf,Zqg,Zqh,Zqi,Zqk,Zql,Zqm,Zqn,eq_self,true_and,and_true,Nat.mul_one,zF_fc,fc_0,fc_17,fc_18,fc_19,fc_20,fc_53,fc_54,fc_55,fs_0,fs_17,fs_18,fs_19,fs_20,fs_53,fs_54,fs_55,fp_1,fp_21,fp_f,rb_1,rb_21,rb_0,fc_len,fc_ok,fc_id,fc_rs,v16,v32,cB_cells]
    tactic =>
    exact ⟨rfl, rfl⟩
  rw [if_neg h8]
  have h8' : ¬ IN b.length < (40 : Int) := by simp only [IN]; omega
  by_cases h9 : 40 < b.length
  · rw [if_pos h9]
    have h9' : IN b.length > (40 : Int) := by simp only [IN]; omega
    sym =>
    simp [Zaa,Zab,Zac,Zad,Zae,Zaf,Zag,Zah,Zai,Zak,Zal,Zam,Zan,Zao,Zap,Zaq,Zav,Zaw,Zay,Zaz,Za0,Za1,Za2,Za3,Za4,Za5,Za6,Za7,Zrh,Za8,Za9,Zba,Zbb,Zbc,Zbd,Zbf,Zbt,Zbu,Zbv,Zbz,Zb1,Zb9,Zch,Zcn,Zcv,Zcx,Zcz,Zc3,Zc4,Zc7,Zc8,Zc9,Zdc,Zdd,Zde,Zdf,Zdg,Zdh,Zdi,Zdj,Zdk,Zdo,Zdp,Zdt,Zdu,Zdv,Zdw,Zdx,Zdy,Zdz,Zd0,Zd1,Zd2,Zd6,Zek,Zen,Zeq,Zet,Zev,Zew,Zex,Zez,Ze0,Ze1,Ze2,Ze3,Ze5,Ze8,Zfc,Zfd,Zfe,Zfh,Zfi,Zfj,Zfk,Zfl,Zfn,Zfq,Zfr,Zfz,Zf0,Zf1,Zf3,Zgr,Zgs,Zgt,Zgu,Zgv,Zgw,Zgx,Zg1,Zg2,Zg4,Zg5,Zg6,Zhd,Zhe,Zhf,Zhg,Zhh,Zhm,Zhn,Zho,Zhs,Zht,Zhu,Zh6,Zh7,Zin,Zio,Zip,Ziq,Zir,Ziu,Ziv,Ziw,Zi6,Zi7,Zjh,Zji,Zjn,Zjr,Zj2,Zla,Zlb,Zle,Zlf,Zlh,Zll,Zls,Zlz,Zmt,Zmv,Zmw,Zmx,Zmy,Zmz,Zm0,Zm1,Zm3,Zm5,Zm6,Zm9,Zna,Znb,Zne,Znf,Zng,Znh,Znn,Zno,Znp,Znr,Zns,Znt,Znw,Znx,Zn5,Zoc,Zof,Zog,Zrd,Zos,Zot,Zo4,Zo6,Zo7,Zo8,Zo9,Zpb,Zpc,Zpd,Zpi,Zpu,Zpv,Zp7,Zp9,Zqd,Zqe,Zqf,Zqg,Zqh,Zqi,Zqk,Zql,Zqm,Zqn,eq_self,true_and,and_true,Nat.mul_one,zF_fc,fc_0,fc_17,fc_18,fc_19,fc_20,fc_53,fc_54,fc_55,fs_0,fs_17,fs_18,fs_19,fs_20,fs_53,fs_54,fs_55,fp_1,fp_21,fp_f,rb_1,rb_21,rb_0,fc_len,fc_ok,fc_id,fc_rs,v16,v32,cB_cells,h8',h9',g7,g8]
    tactic =>
    and_intros <;> try (first | omega | rfl | assumption | simp only [IN]; omega)
    refine endA ?_
    simp only [fr, zFm]
    sym =>
    simp [Zaa,Zab,Zac,Zad,Zae,Zaf,Zag,Zah,Zai,Zak,Zal,Zam,Zan,Zao,Zap,Zaq,Zav,Zaw,Zay,Zaz,Za0,Za1,Za2,Za3,Za4,Za5,Za6,Za7,Zrh,Za8,Za9,Zba,Zbb,Zbc,Zbd,Zbf,Zbt,Zbu,Zbv,Zbz,Zb1,Zb9,Zch,Zcn,Zcv,Zcx,Zcz,Zc3,Zc4,Zc7,Zc8,Zc9,Zdc,Zdd,Zde,Zdf,Zdg,Zdh,Zdi,Zdj,Zdk,Zdo,Zdp,Zdt,Zdu,Zdv,Zdw,Zdx,Zdy,Zdz,Zd0,Zd1,Zd2,Zd6,Zek,Zen,Zeq,Zet,Zev,Zew,Zex,Zez,Ze0,Ze1,Ze2,Ze3,Ze5,Ze8,Zfc,Zfd,Zfe,Zfh,Zfi,Zfj,Zfk,Zfl,Zfn,Zfq,Zfr,Zfz,Zf0,Zf1,Zf3,Zgr,Zgs,Zgt,Zgu,Zgv,Zgw,Zgx,Zg1,Zg2,Zg4,Zg5,Zg6,Zhd,Zhe,Zhf,Zhg,Zhh,Zhm,Zhn,Zho,Zhs,Zht,Zhu,Zh6,Zh7,Zin,Zio,Zip,Ziq,Zir,Ziu,Ziv,Ziw,Zi6,Zi7,Zjh,Zji,Zjn,Zjr,Zj2,Zla,Zlb,Zle,Zlf,Zlh,Zll,Zls,Zlz,Zmt,Zmv,Zmw,Zmx,Zmy,Zmz,Zm0,Zm1,Zm3,Zm5,Zm6,Zm9,Zna,Znb,Zne,Znf,Zng,Znh,Znn,Zno,Znp,Znr,Zns,Znt,Znw,Znx,Zn5,Zoc,Zof,Zog,Zrd,Zos,Zot,Zo4,Zo6,Zo7,Zo8,Zo9,Zpb,Zpc,Zpd,Zpi,Zpu,Zpv,Zp7,Zp9,Zqd,Zqe,Zqf,Zqg,Zqh,Zqi,Zqk,Zql,Zqm,Zqn,eq_self,true_and,and_true,Nat.mul_one,zF_fc,fc_0,fc_17,fc_18,fc_19,fc_20,fc_53,fc_54,fc_55,fs_0,fs_17,fs_18,fs_19,fs_20,fs_53,fs_54,fs_55,fp_1,fp_21,fp_f,rb_1,rb_21,rb_0,fc_len,fc_ok,fc_id,fc_rs,v16,v32,cB_cells]
    tactic =>
    exact ⟨rfl, rfl⟩
  rw [if_neg h9]
  have h9' : ¬ IN b.length > (40 : Int) := by simp only [IN]; omega
  have hl8 : b.length = 40 := by omega
  have hx := of8 (byt8_take hb 8) 8 (by rw [List.length_take]; omega) (by decide)
  obtain ⟨x, hx0⟩ : ∃ x, x = ofN (b.take 8) 8 := ⟨_, rfl⟩
  have htc : List.take 8 (cB b) = cB (b.take 8) := (cB_take _ _).symm
  have hgs := s32_get hl8
  obtain ⟨F, hF⟩ : ∃ F, F = ff15 1 t es er b := ⟨_, rfl⟩
  obtain ⟨s, hs⟩ : ∃ s, s = s32 (b.drop 8) false := ⟨_, rfl⟩
  rw [← hs] at hgs
  rw [← hF]
  unfold ff15 at hF
  rw [← hx0, ← hs] at hF
  rw [← hx0] at hx
  have hf := rmay_con F (by rw [hF]; exact Nat.zero_le _)
  have hq := cB_length b
  simp only [fr] at hf
  obtain ⟨M, hM⟩ : ∃ q, q = mayF F := ⟨_, rfl⟩
  rw [← hM] at hf ⊢
  subst hF
  simp only [fr] at hf ⊢
  sym =>
  simp [Zaa,Zab,Zac,Zad,Zae,Zaf,Zag,Zah,Zai,Zak,Zal,Zam,Zan,Zao,Zap,Zaq,Zav,Zaw,Zay,Zaz,Za0,Za1,Za2,Za3,Za4,Za5,Za6,Za7,Zrh,Za8,Za9,Zba,Zbb,Zbc,Zbd,Zbf,Zbt,Zbu,Zbv,Zbz,Zb1,Zb9,Zch,Zcn,Zcv,Zcx,Zcz,Zc3,Zc4,Zc7,Zc8,Zc9,Zdc,Zdd,Zde,Zdf,Zdg,Zdh,Zdi,Zdj,Zdk,Zdo,Zdp,Zdt,Zdu,Zdv,Zdw,Zdx,Zdy,Zdz,Zd0,Zd1,Zd2,Zd6,Zek,Zen,Zeq,Zet,Zev,Zew,Zex,Zez,Ze0,Ze1,Ze2,Ze3,Ze5,Ze8,Zfc,Zfd,Zfe,Zfh,Zfi,Zfj,Zfk,Zfl,Zfn,Zfq,Zfr,Zfz,Zf0,Zf1,Zf3,Zgr,Zgs,Zgt,Zgu,Zgv,Zgw,Zgx,Zg1,Zg2,Zg4,Zg5,Zg6,Zhd,Zhe,Zhf,Zhg,Zhh,Zhm,Zhn,Zho,Zhs,Zht,Zhu,Zh6,Zh7,Zin,Zio,Zip,Ziq,Zir,Ziu,Ziv,Ziw,Zi6,Zi7,Zjh,Zji,Zjn,Zjr,Zj2,Zla,Zlb,Zle,Zlf,Zlh,Zll,Zls,Zlz,Zmt,Zmv,Zmw,Zmx,Zmy,Zmz,Zm0,Zm1,Zm3,Zm5,Zm6,Zm9,Zna,Znb,Zne,Znf,Zng,Znh,Znn,Zno,Znp,Znr,Zns,Znt,Znw,Znx,Zn5,Zoc,Zof,Zog,Zrd,Zos,Zot,Zo4,Zo6,Zo7,Zo8,Zo9,Zpb,Zpc,Zpd,Zpi,Zpu,Zpv,Zp7,Zp9,Zqd,Zqe,Zqf,Zqg,Zqh,Zqi,Zqk,Zql,Zqm,Zqn,eq_self,true_and,and_true,Nat.mul_one,zF_fc,fc_0,fc_17,fc_18,fc_19,fc_20,fc_53,fc_54,fc_55,fs_0,fs_17,fs_18,fs_19,fs_20,fs_53,fs_54,fs_55,fp_1,fp_21,fp_f,rb_1,rb_21,rb_0,fc_len,fc_ok,fc_id,fc_rs,v16,v32,cB_cells,h8',h9',g7,g8,htc,callable_41]
  tactic =>
  and_intros <;> try (first | omega | rfl | assumption | simp only [IN]; omega)
  refine cl none (hx) trivial ?_
  sym =>
  simp [Zaa,Zab,Zac,Zad,Zae,Zaf,Zag,Zah,Zai,Zak,Zal,Zam,Zan,Zao,Zap,Zaq,Zav,Zaw,Zay,Zaz,Za0,Za1,Za2,Za3,Za4,Za5,Za6,Za7,Zrh,Za8,Za9,Zba,Zbb,Zbc,Zbd,Zbf,Zbt,Zbu,Zbv,Zbz,Zb1,Zb9,Zch,Zcn,Zcv,Zcx,Zcz,Zc3,Zc4,Zc7,Zc8,Zc9,Zdc,Zdd,Zde,Zdf,Zdg,Zdh,Zdi,Zdj,Zdk,Zdo,Zdp,Zdt,Zdu,Zdv,Zdw,Zdx,Zdy,Zdz,Zd0,Zd1,Zd2,Zd6,Zek,Zen,Zeq,Zet,Zev,Zew,Zex,Zez,Ze0,Ze1,Ze2,Ze3,Ze5,Ze8,Zfc,Zfd,Zfe,Zfh,Zfi,Zfj,Zfk,Zfl,Zfn,Zfq,Zfr,Zfz,Zf0,Zf1,Zf3,Zgr,Zgs,Zgt,Zgu,Zgv,Zgw,Zgx,Zg1,Zg2,Zg4,Zg5,Zg6,Zhd,Zhe,Zhf,Zhg,Zhh,Zhm,Zhn,Zho,Zhs,Zht,Zhu,Zh6,Zh7,Zin,Zio,Zip,Ziq,Zir,Ziu,Ziv,Ziw,Zi6,Zi7,Zjh,Zji,Zjn,Zjr,Zj2,Zla,Zlb,Zle,Zlf,Zlh,Zll,Zls,Zlz,Zmt,Zmv,Zmw,Zmx,Zmy,Zmz,Zm0,Zm1,Zm3,Zm5,Zm6,Zm9,Zna,Znb,Zne,Znf,Zng,Znh,Znn,Zno,Znp,Znr,Zns,Znt,Znw,Znx,Zn5,Zoc,Zof,Zog,Zrd,Zos,Zot,Zo4,Zo6,Zo7,Zo8,Zo9,Zpb,Zpc,Zpd,Zpi,Zpu,Zpv,Zp7,Zp9,Zqd,Zqe,Zqf,Zqg,Zqh,Zqi,Zqk,Zql,Zqm,Zqn,eq_self,true_and,and_true,Nat.mul_one,zF_fc,fc_0,fc_17,fc_18,fc_19,fc_20,fc_53,fc_54,fc_55,fs_0,fs_17,fs_18,fs_19,fs_20,fs_53,fs_54,fs_55,fp_1,fp_21,fp_f,rb_1,rb_21,rb_0,fc_len,fc_ok,fc_id,fc_rs,v16,v32,cB_cells]
  tactic =>
  refine lpA (i42 b 1 t es er x s) 32 [(0, 0), (1, 1)] _ ⟨0, rfl, rfl⟩ (wkA ?_) ?_
  · have pz : pre32 s z32 0 = z32 := rfl
    sym =>
    simp [Zaa,Zab,Zac,Zad,Zae,Zaf,Zag,Zah,Zai,Zak,Zal,Zam,Zan,Zao,Zap,Zaq,Zav,Zaw,Zay,Zaz,Za0,Za1,Za2,Za3,Za4,Za5,Za6,Za7,Zrh,Za8,Za9,Zba,Zbb,Zbc,Zbd,Zbf,Zbt,Zbu,Zbv,Zbz,Zb1,Zb9,Zch,Zcn,Zcv,Zcx,Zcz,Zc3,Zc4,Zc7,Zc8,Zc9,Zdc,Zdd,Zde,Zdf,Zdg,Zdh,Zdi,Zdj,Zdk,Zdo,Zdp,Zdt,Zdu,Zdv,Zdw,Zdx,Zdy,Zdz,Zd0,Zd1,Zd2,Zd6,Zek,Zen,Zeq,Zet,Zev,Zew,Zex,Zez,Ze0,Ze1,Ze2,Ze3,Ze5,Ze8,Zfc,Zfd,Zfe,Zfh,Zfi,Zfj,Zfk,Zfl,Zfn,Zfq,Zfr,Zfz,Zf0,Zf1,Zf3,Zgr,Zgs,Zgt,Zgu,Zgv,Zgw,Zgx,Zg1,Zg2,Zg4,Zg5,Zg6,Zhd,Zhe,Zhf,Zhg,Zhh,Zhm,Zhn,Zho,Zhs,Zht,Zhu,Zh6,Zh7,Zin,Zio,Zip,Ziq,Zir,Ziu,Ziv,Ziw,Zi6,Zi7,Zjh,Zji,Zjn,Zjr,Zj2,Zla,Zlb,Zle,Zlf,Zlh,Zll,Zls,Zlz,Zmt,Zmv,Zmw,Zmx,Zmy,Zmz,Zm0,Zm1,Zm3,Zm5,Zm6,Zm9,Zna,Znb,Zne,Znf,Zng,Znh,Znn,Zno,Znp,Znr,Zns,Znt,Znw,Znx,Zn5,Zoc,Zof,Zog,Zrd,Zos,Zot,Zo4,Zo6,Zo7,Zo8,Zo9,Zpb,Zpc,Zpd,Zpi,Zpu,Zpv,Zp7,Zp9,Zqd,Zqe,Zqf,Zqg,Zqh,Zqi,Zqk,Zql,Zqm,Zqn,eq_self,true_and,and_true,Nat.mul_one,zF_fc,fc_0,fc_17,fc_18,fc_19,fc_20,fc_53,fc_54,fc_55,fs_0,fs_17,fs_18,fs_19,fs_20,fs_53,fs_54,fs_55,fp_1,fp_21,fp_f,rb_1,rb_21,rb_0,fc_len,fc_ok,fc_id,fc_rs,v16,v32,cB_cells,pz]
  rintro kk st ⟨i, hi, rfl⟩
  by_cases h : i < 32
  · have hw := w64s i (by omega)
    have h32 : IN i < (32 : Int) := by simp only [IN]; omega
    have hw8 : IntKind.i64.wrap ((8 : Int) + IN i) = IN (8 + i) := by rw [w64]; simp only [IN]; omega; simp only [IN]; omega
    have hg := cB_get b (8 + i) (by omega)
    have hgi := hgs i h
    have hps := pre_set s.1 z32.1 32 i s.2 z32.2 h
    obtain ⟨v, hv⟩ : ∃ v, v = b.getD (8 + i) 0 := ⟨_, rfl⟩
    rw [← hv] at hg hgi
    rw [hgi] at hps
    have hset := fs_su 1 t es er 0 x (pre32 s z32 i) .nl .nl 0 i h v (pre32 s z32 (i + 1)) hps.symm
    have hlt : 8 + i < b.length := by omega
    sym =>
    simp [Zaa,Zab,Zac,Zad,Zae,Zaf,Zag,Zah,Zai,Zak,Zal,Zam,Zan,Zao,Zap,Zaq,Zav,Zaw,Zay,Zaz,Za0,Za1,Za2,Za3,Za4,Za5,Za6,Za7,Zrh,Za8,Za9,Zba,Zbb,Zbc,Zbd,Zbf,Zbt,Zbu,Zbv,Zbz,Zb1,Zb9,Zch,Zcn,Zcv,Zcx,Zcz,Zc3,Zc4,Zc7,Zc8,Zc9,Zdc,Zdd,Zde,Zdf,Zdg,Zdh,Zdi,Zdj,Zdk,Zdo,Zdp,Zdt,Zdu,Zdv,Zdw,Zdx,Zdy,Zdz,Zd0,Zd1,Zd2,Zd6,Zek,Zen,Zeq,Zet,Zev,Zew,Zex,Zez,Ze0,Ze1,Ze2,Ze3,Ze5,Ze8,Zfc,Zfd,Zfe,Zfh,Zfi,Zfj,Zfk,Zfl,Zfn,Zfq,Zfr,Zfz,Zf0,Zf1,Zf3,Zgr,Zgs,Zgt,Zgu,Zgv,Zgw,Zgx,Zg1,Zg2,Zg4,Zg5,Zg6,Zhd,Zhe,Zhf,Zhg,Zhh,Zhm,Zhn,Zho,Zhs,Zht,Zhu,Zh6,Zh7,Zin,Zio,Zip,Ziq,Zir,Ziu,Ziv,Ziw,Zi6,Zi7,Zjh,Zji,Zjn,Zjr,Zj2,Zla,Zlb,Zle,Zlf,Zlh,Zll,Zls,Zlz,Zmt,Zmv,Zmw,Zmx,Zmy,Zmz,Zm0,Zm1,Zm3,Zm5,Zm6,Zm9,Zna,Znb,Zne,Znf,Zng,Znh,Znn,Zno,Znp,Znr,Zns,Znt,Znw,Znx,Zn5,Zoc,Zof,Zog,Zrd,Zos,Zot,Zo4,Zo6,Zo7,Zo8,Zo9,Zpb,Zpc,Zpd,Zpi,Zpu,Zpv,Zp7,Zp9,Zqd,Zqe,Zqf,Zqg,Zqh,Zqi,Zqk,Zql,Zqm,Zqn,eq_self,true_and,and_true,Nat.mul_one,zF_fc,fc_0,fc_17,fc_18,fc_19,fc_20,fc_53,fc_54,fc_55,fs_0,fs_17,fs_18,fs_19,fs_20,fs_53,fs_54,fs_55,fp_1,fp_21,fp_f,rb_1,rb_21,rb_0,fc_len,fc_ok,fc_id,fc_rs,v16,v32,cB_cells,hw,hw8,h32,hg,hset,hlt]
    tactic =>
    and_intros <;> try (first | omega | rfl | assumption | simp only [IN]; omega)
    unfold NextL; refine ⟨(kk - 1), [(0, 0), (1, 1)], _, by omega, ⟨i + 1, by omega, rfl⟩, wkA ?_⟩
    sym =>
    simp [Zaa,Zab,Zac,Zad,Zae,Zaf,Zag,Zah,Zai,Zak,Zal,Zam,Zan,Zao,Zap,Zaq,Zav,Zaw,Zay,Zaz,Za0,Za1,Za2,Za3,Za4,Za5,Za6,Za7,Zrh,Za8,Za9,Zba,Zbb,Zbc,Zbd,Zbf,Zbt,Zbu,Zbv,Zbz,Zb1,Zb9,Zch,Zcn,Zcv,Zcx,Zcz,Zc3,Zc4,Zc7,Zc8,Zc9,Zdc,Zdd,Zde,Zdf,Zdg,Zdh,Zdi,Zdj,Zdk,Zdo,Zdp,Zdt,Zdu,Zdv,Zdw,Zdx,Zdy,Zdz,Zd0,Zd1,Zd2,Zd6,Zek,Zen,Zeq,Zet,Zev,Zew,Zex,Zez,Ze0,Ze1,Ze2,Ze3,Ze5,Ze8,Zfc,Zfd,Zfe,Zfh,Zfi,Zfj,Zfk,Zfl,Zfn,Zfq,Zfr,Zfz,Zf0,Zf1,Zf3,Zgr,Zgs,Zgt,Zgu,Zgv,Zgw,Zgx,Zg1,Zg2,Zg4,Zg5,Zg6,Zhd,Zhe,Zhf,Zhg,Zhh,Zhm,Zhn,Zho,Zhs,Zht,Zhu,Zh6,Zh7,Zin,Zio,Zip,Ziq,Zir,Ziu,Ziv,Ziw,Zi6,Zi7,Zjh,Zji,Zjn,Zjr,Zj2,Zla,Zlb,Zle,Zlf,Zlh,Zll,Zls,Zlz,Zmt,Zmv,Zmw,Zmx,Zmy,Zmz,Zm0,Zm1,Zm3,Zm5,Zm6,Zm9,Zna,Znb,Zne,Znf,Zng,Znh,Znn,Zno,Znp,Znr,Zns,Znt,Znw,Znx,Zn5,Zoc,Zof,Zog,Zrd,Zos,Zot,Zo4,Zo6,Zo7,Zo8,Zo9,Zpb,Zpc,Zpd,Zpi,Zpu,Zpv,Zp7,Zp9,Zqd,Zqe,Zqf,Zqg,Zqh,Zqi,Zqk,Zql,Zqm,Zqn,eq_self,true_and,and_true,Nat.mul_one,zF_fc,fc_0,fc_17,fc_18,fc_19,fc_20,fc_53,fc_54,fc_55,fs_0,fs_17,fs_18,fs_19,fs_20,fs_53,fs_54,fs_55,fp_1,fp_21,fp_f,rb_1,rb_21,rb_0,fc_len,fc_ok,fc_id,fc_rs,v16,v32,cB_cells]
  · obtain rfl : i = 32 := by omega
    rw [pre_full]
    sym =>
    simp [Zaa,Zab,Zac,Zad,Zae,Zaf,Zag,Zah,Zai,Zak,Zal,Zam,Zan,Zao,Zap,Zaq,Zav,Zaw,Zay,Zaz,Za0,Za1,Za2,Za3,Za4,Za5,Za6,Za7,Zrh,Za8,Za9,Zba,Zbb,Zbc,Zbd,Zbf,Zbt,Zbu,Zbv,Zbz,Zb1,Zb9,Zch,Zcn,Zcv,Zcx,Zcz,Zc3,Zc4,Zc7,Zc8,Zc9,Zdc,Zdd,Zde,Zdf,Zdg,Zdh,Zdi,Zdj,Zdk,Zdo,Zdp,Zdt,Zdu,Zdv,Zdw,Zdx,Zdy,Zdz,Zd0,Zd1,Zd2,Zd6,Zek,Zen,Zeq,Zet,Zev,Zew,Zex,Zez,Ze0,Ze1,Ze2,Ze3,Ze5,Ze8,Zfc,Zfd,Zfe,Zfh,Zfi,Zfj,Zfk,Zfl,Zfn,Zfq,Zfr,Zfz,Zf0,Zf1,Zf3,Zgr,Zgs,Zgt,Zgu,Zgv,Zgw,Zgx,Zg1,Zg2,Zg4,Zg5,Zg6,Zhd,Zhe,Zhf,Zhg,Zhh,Zhm,Zhn,Zho,Zhs,Zht,Zhu,Zh6,Zh7,Zin,Zio,Zip,Ziq,Zir,Ziu,Ziv,Ziw,Zi6,Zi7,Zjh,Zji,Zjn,Zjr,Zj2,Zla,Zlb,Zle,Zlf,Zlh,Zll,Zls,Zlz,Zmt,Zmv,Zmw,Zmx,Zmy,Zmz,Zm0,Zm1,Zm3,Zm5,Zm6,Zm9,Zna,Znb,Zne,Znf,Zng,Znh,Znn,Zno,Znp,Znr,Zns,Znt,Znw,Znx,Zn5,Zoc,Zof,Zog,Zrd,Zos,Zot,Zo4,Zo6,Zo7,Zo8,Zo9,Zpb,Zpc,Zpd,Zpi,Zpu,Zpv,Zp7,Zp9,Zqd,Zqe,Zqf,Zqg,Zqh,Zqi,Zqk,Zql,Zqm,Zqn,eq_self,true_and,and_true,Nat.mul_one,zF_fc,fc_0,fc_17,fc_18,fc_19,fc_20,fc_53,fc_54,fc_55,fs_0,fs_17,fs_18,fs_19,fs_20,fs_53,fs_54,fs_55,fp_1,fp_21,fp_f,rb_1,rb_21,rb_0,fc_len,fc_ok,fc_id,fc_rs,v16,v32,cB_cells,fz_fc,fcF1,callable_27]
    tactic =>
    refine cl none (hf) trivial ?_
    sym =>
    simp [Zaa,Zab,Zac,Zad,Zae,Zaf,Zag,Zah,Zai,Zak,Zal,Zam,Zan,Zao,Zap,Zaq,Zav,Zaw,Zay,Zaz,Za0,Za1,Za2,Za3,Za4,Za5,Za6,Za7,Zrh,Za8,Za9,Zba,Zbb,Zbc,Zbd,Zbf,Zbt,Zbu,Zbv,Zbz,Zb1,Zb9,Zch,Zcn,Zcv,Zcx,Zcz,Zc3,Zc4,Zc7,Zc8,Zc9,Zdc,Zdd,Zde,Zdf,Zdg,Zdh,Zdi,Zdj,Zdk,Zdo,Zdp,Zdt,Zdu,Zdv,Zdw,Zdx,Zdy,Zdz,Zd0,Zd1,Zd2,Zd6,Zek,Zen,Zeq,Zet,Zev,Zew,Zex,Zez,Ze0,Ze1,Ze2,Ze3,Ze5,Ze8,Zfc,Zfd,Zfe,Zfh,Zfi,Zfj,Zfk,Zfl,Zfn,Zfq,Zfr,Zfz,Zf0,Zf1,Zf3,Zgr,Zgs,Zgt,Zgu,Zgv,Zgw,Zgx,Zg1,Zg2,Zg4,Zg5,Zg6,Zhd,Zhe,Zhf,Zhg,Zhh,Zhm,Zhn,Zho,Zhs,Zht,Zhu,Zh6,Zh7,Zin,Zio,Zip,Ziq,Zir,Ziu,Ziv,Ziw,Zi6,Zi7,Zjh,Zji,Zjn,Zjr,Zj2,Zla,Zlb,Zle,Zlf,Zlh,Zll,Zls,Zlz,Zmt,Zmv,Zmw,Zmx,Zmy,Zmz,Zm0,Zm1,Zm3,Zm5,Zm6,Zm9,Zna,Znb,Zne,Znf,Zng,Znh,Znn,Zno,Znp,Znr,Zns,Znt,Znw,Znx,Zn5,Zoc,Zof,Zog,Zrd,Zos,Zot,Zo4,Zo6,Zo7,Zo8,Zo9,Zpb,Zpc,Zpd,Zpi,Zpu,Zpv,Zp7,Zp9,Zqd,Zqe,Zqf,Zqg,Zqh,Zqi,Zqk,Zql,Zqm,Zqn,eq_self,true_and,and_true,Nat.mul_one,zF_fc,fc_0,fc_17,fc_18,fc_19,fc_20,fc_53,fc_54,fc_55,fs_0,fs_17,fs_18,fs_19,fs_20,fs_53,fs_54,fs_55,fp_1,fp_21,fp_f,rb_1,rb_21,rb_0,fc_len,fc_ok,fc_id,fc_rs,v16,v32,cB_cells]
    tactic =>
    refine endA ?_
    sym =>
    simp [Zaa,Zab,Zac,Zad,Zae,Zaf,Zag,Zah,Zai,Zak,Zal,Zam,Zan,Zao,Zap,Zaq,Zav,Zaw,Zay,Zaz,Za0,Za1,Za2,Za3,Za4,Za5,Za6,Za7,Zrh,Za8,Za9,Zba,Zbb,Zbc,Zbd,Zbf,Zbt,Zbu,Zbv,Zbz,Zb1,Zb9,Zch,Zcn,Zcv,Zcx,Zcz,Zc3,Zc4,Zc7,Zc8,Zc9,Zdc,Zdd,Zde,Zdf,Zdg,Zdh,Zdi,Zdj,Zdk,Zdo,Zdp,Zdt,Zdu,Zdv,Zdw,Zdx,Zdy,Zdz,Zd0,Zd1,Zd2,Zd6,Zek,Zen,Zeq,Zet,Zev,Zew,Zex,Zez,Ze0,Ze1,Ze2,Ze3,Ze5,Ze8,Zfc,Zfd,Zfe,Zfh,Zfi,Zfj,Zfk,Zfl,Zfn,Zfq,Zfr,Zfz,Zf0,Zf1,Zf3,Zgr,Zgs,Zgt,Zgu,Zgv,Zgw,Zgx,Zg1,Zg2,Zg4,Zg5,Zg6,Zhd,Zhe,Zhf,Zhg,Zhh,Zhm,Zhn,Zho,Zhs,Zht,Zhu,Zh6,Zh7,Zin,Zio,Zip,Ziq,Zir,Ziu,Ziv,Ziw,Zi6,Zi7,Zjh,Zji,Zjn,Zjr,Zj2,Zla,Zlb,Zle,Zlf,Zlh,Zll,Zls,Zlz,Zmt,Zmv,Zmw,Zmx,Zmy,Zmz,Zm0,Zm1,Zm3,Zm5,Zm6,Zm9,Zna,Znb,Zne,Znf,Zng,Znh,Znn,Zno,Znp,Znr,Zns,Znt,Znw,Znx,Zn5,Zoc,Zof,Zog,Zrd,Zos,Zot,Zo4,Zo6,Zo7,Zo8,Zo9,Zpb,Zpc,Zpd,Zpi,Zpu,Zpv,Zp7,Zp9,Zqd,Zqe,Zqf,Zqg,Zqh,Zqi,Zqk,Zql,Zqm,Zqn,eq_self,true_and,and_true,Nat.mul_one,zF_fc,fc_0,fc_17,fc_18,fc_19,fc_20,fc_53,fc_54,fc_55,fs_0,fs_17,fs_18,fs_19,fs_20,fs_53,fs_54,fs_55,fp_1,fp_21,fp_f,rb_1,rb_21,rb_0,fc_len,fc_ok,fc_id,fc_rs,v16,v32,cB_cells]
    tactic =>
    exact ⟨rfl, rfl⟩
theorem rfields5 (t : V 16) (es er : Int) (b : List Int) (hb : byt8 b) (hl : b.length ≤ 5000) : Con Try.prog 42 [] [.ag (fc 5 t es er 0 0 z32 .nl .nl 0), fB b] [] (.tu [.ag (fr (fdE 5 t es er b).1), I (fdE 5 t es er b).2]) := by
  have g7 : IntKind.i64.wrap (4 : Int) = 4 := by decide
  have g8 : (4 : Int).toNat = 4 := rfl
  rw [fdE15 5 (.inr rfl)]
  refine con_j b42 rfl ?_
  by_cases h8 : b.length < 40
  · rw [if_pos h8]
    have h8' : IN b.length < (40 : Int) := by simp only [IN]; omega
    sym =>
    simp [Zaa,Zab,Zac,Zad,Zae,Zaf,Zag,Zah,Zai,Zak,Zal,Zam,Zan,Zao,Zap,Zaq,Zav,Zaw,Zay,Zaz,Za0,Za1,Za2,Za3,Za4,Za5,Za6,Za7,Zrh,Za8,Za9,Zba,Zbb,Zbc,Zbd,Zbf,Zbt,Zbu,Zbv,Zbz,Zb1,Zb9,Zch,Zcn,Zcv,Zcx,Zcz,Zc3,Zc4,Zc7,Zc8,Zc9,Zdc,Zdd,Zde,Zdf,Zdg,Zdh,Zdi,Zdj,Zdk,Zdo,Zdp,Zdt,Zdu,Zdv,Zdw,Zdx,Zdy,Zdz,Zd0,Zd1,Zd2,Zd6,Zek,Zen,Zeq,Zet,Zev,Zew,Zex,Zez,Ze0,Ze1,Ze2,Ze3,Ze5,Ze8,Zfc,Zfd,Zfe,Zfh,Zfi,Zfj,Zfk,Zfl,Zfn,Zfq,Zfr,Zfz,Zf0,Zf1,Zf3,Zgr,Zgs,Zgt,Zgu,Zgv,Zgw,Zgx,Zg1,Zg2,Zg4,Zg5,Zg6,Zhd,Zhe,Zhf,Zhg,Zhh,Zhm,Zhn,Zho,Zhs,Zht,Zhu,Zh6,Zh7,Zin,Zio,Zip,Ziq,Zir,Ziu,Ziv,Ziw,Zi6,Zi7,Zjh,Zji,Zjn,Zjr,Zj2,Zla,Zlb,Zle,Zlf,Zlh,Zll,Zls,Zlz,Zmt,Zmv,Zmw,Zmx,Zmy,Zmz,Zm0,Zm1,Zm3,Zm5,Zm6,Zm9,Zna,Znb,Zne,Znf,Zng,Znh,Znn,Zno,Znp,Znr,Zns,Znt,Znw,Zn5,Zoc,Zof,Zog,Zrd,Zos,Zot,Zo4,Zo6,Zo7,Zo8,Zo9,Zpb,Zpc,Zpd,Zpi,Zpu,Zpv,Zp7,Zp9,Zqd,Zqe,Zqf,Zqg,Zqh,Zqi,Zqk,Zql,Zqm,Zqn,eq_self,true_and,and_true,Nat.mul_one,zF_fc,fc_0,fc_17,fc_18,fc_19,fc_20,fc_53,fc_54,fc_55,fs_0,fs_17,fs_18,fs_19,fs_20,fs_53,fs_54,fs_55,fp_1,fp_21,fp_f,rb_1,rb_21,rb_0,fc_len,fc_ok,fc_id,fc_rs,v16,v32,cB_cells,h8',g7,g8]
    tactic =>
    and_intros <;> try (first | omega | rfl | assumption | simp only [IN]; omega)
    refine endA ?_
    simp only [fr, zFm]
    sym =>
    simp [Zaa,Zab,Zac,Zad,Zae,Zaf,Zag,Zah,Zai,Zak,Zal,Zam,Zan,Zao,Zap,Zaq,Zav,Zaw,Zay,Zaz,Za0,Za1,Za2,Za3,Za4,Za5,Za6,Za7,Zrh,Za8,Za9,Zba,Zbb,Zbc,Zbd,Zbf,Zbt,Zbu,Zbv,Zbz,Zb1,Zb9,Zch,Zcn,Zcv,Zcx,Zcz,Zc3,Zc4,Zc7,Zc8,Zc9,Zdc,Zdd,Zde,Zdf,Zdg,Zdh,Zdi,Zdj,Zdk,Zdo,Zdp,Zdt,Zdu,Zdv,Zdw,Zdx,Zdy,Zdz,Zd0,Zd1,Zd2,Zd6,Zek,Zen,Zeq,Zet,Zev,Zew,Zex,Zez,Ze0,Ze1,Ze2,Ze3,Ze5,Ze8,Zfc,Zfd,Zfe,Zfh,Zfi,Zfj,Zfk,Zfl,Zfn,Zfq,Zfr,Zfz,Zf0,Zf1,Zf3,Zgr,Zgs,Zgt,Zgu,Zgv,Zgw,Zgx,Zg1,Zg2,Zg4,Zg5,Zg6,Zhd,Zhe,Zhf,Zhg,Zhh,Zhm,Zhn,Zho,Zhs,Zht,Zhu,Zh6,Zh7,Zin,Zio,Zip,Ziq,Zir,Ziu,Ziv,Ziw,Zi6,Zi7,Zjh,Zji,Zjn,Zjr,Zj2,Zla,Zlb,Zle,Zlf,Zlh,Zll,Zls,Zlz,Zmt,Zmv,Zmw,Zmx,Zmy,Zmz,Zm0,Zm1,Zm3,Zm5,Zm6,Zm9,Zna,Znb,Zne,Znf,Zng,Znh,Znn,Zno,Znp,Znr,Zns,Znt,Znw,Zn5,Zoc,Zof,Zog,Zrd,Zos,Zot,Zo4,Zo6,Zo7,Zo8,Zo9,Zpb,Zpc,Zpd,Zpi,Zpu,Zpv,Zp7,Zp9,Zqd,Zqe,Zqf,Zqg,Zqh,Zqi,Zqk,Zql,Zqm,Zqn,eq_self,true_and,and_true,Nat.mul_one,zF_fc,fc_0,fc_17,fc_18,fc_19,fc_20,fc_53,fc_54,fc_55,fs_0,fs_17,fs_18,fs_19,fs_20,fs_53,fs_54,fs_55,fp_1,fp_21,fp_f,rb_1,rb_21,rb_0,fc_len,fc_ok,fc_id,fc_rs,v16,v32,cB_cells]
    tactic =>
    exact ⟨rfl, rfl⟩
  rw [if_neg h8]
  have h8' : ¬ IN b.length < (40 : Int) := by simp only [IN]; omega
  by_cases h9 : 40 < b.length
  · rw [if_pos h9]
    have h9' : IN b.length > (40 : Int) := by simp only [IN]; omega
    sym =>
    simp [Zaa,Zab,Zac,Zad,Zae,Zaf,Zag,Zah,Zai,Zak,Zal,Zam,Zan,Zao,Zap,Zaq,Zav,Zaw,Zay,Zaz,Za0,Za1,Za2,Za3,Za4,Za5,Za6,Za7,Zrh,Za8,Za9,Zba,Zbb,Zbc,Zbd,Zbf,Zbt,Zbu,Zbv,Zbz,Zb1,Zb9,Zch,Zcn,Zcv,Zcx,Zcz,Zc3,Zc4,Zc7,Zc8,Zc9,Zdc,Zdd,Zde,Zdf,Zdg,Zdh,Zdi,Zdj,Zdk,Zdo,Zdp,Zdt,Zdu,Zdv,Zdw,Zdx,Zdy,Zdz,Zd0,Zd1,Zd2,Zd6,Zek,Zen,Zeq,Zet,Zev,Zew,Zex,Zez,Ze0,Ze1,Ze2,Ze3,Ze5,Ze8,Zfc,Zfd,Zfe,Zfh,Zfi,Zfj,Zfk,Zfl,Zfn,Zfq,Zfr,Zfz,Zf0,Zf1,Zf3,Zgr,Zgs,Zgt,Zgu,Zgv,Zgw,Zgx,Zg1,Zg2,Zg4,Zg5,Zg6,Zhd,Zhe,Zhf,Zhg,Zhh,Zhm,Zhn,Zho,Zhs,Zht,Zhu,Zh6,Zh7,Zin,Zio,Zip,Ziq,Zir,Ziu,Ziv,Ziw,Zi6,Zi7,Zjh,Zji,Zjn,Zjr,Zj2,Zla,Zlb,Zle,Zlf,Zlh,Zll,Zls,Zlz,Zmt,Zmv,Zmw,Zmx,Zmy,Zmz,Zm0,Zm1,Zm3,Zm5,Zm6,Zm9,Zna,Znb,Zne,Znf,Zng,Znh,Znn,Zno,Znp,Znr,Zns,Znt,Znw,Zn5,Zoc,Zof,Zog,Zrd,Zos,Zot,Zo4,Zo6,Zo7,Zo8,Zo9,Zpb,Zpc,Zpd,Zpi,Zpu,Zpv,Zp7,Zp9,Zqd,Zqe,Zqf,Zqg,Zqh,Zqi,Zqk,Zql,Zqm,Zqn,eq_self,true_and,and_true,Nat.mul_one,zF_fc,fc_0,fc_17,fc_18,fc_19,fc_20,fc_53,fc_54,fc_55,fs_0,fs_17,fs_18,fs_19,fs_20,fs_53,fs_54,fs_55,fp_1,fp_21,fp_f,rb_1,rb_21,rb_0,fc_len,fc_ok,fc_id,fc_rs,v16,v32,cB_cells,h8',h9',g7,g8]
    tactic =>
    and_intros <;> try (first | omega | rfl | assumption | simp only [IN]; omega)
    refine endA ?_
    simp only [fr, zFm]
    sym =>
    simp [Zaa,Zab,Zac,Zad,Zae,Zaf,Zag,Zah,Zai,Zak,Zal,Zam,Zan,Zao,Zap,Zaq,Zav,Zaw,Zay,Zaz,Za0,Za1,Za2,Za3,Za4,Za5,Za6,Za7,Zrh,Za8,Za9,Zba,Zbb,Zbc,Zbd,Zbf,Zbt,Zbu,Zbv,Zbz,Zb1,Zb9,Zch,Zcn,Zcv,Zcx,Zcz,Zc3,Zc4,Zc7,Zc8,Zc9,Zdc,Zdd,Zde,Zdf,Zdg,Zdh,Zdi,Zdj,Zdk,Zdo,Zdp,Zdt,Zdu,Zdv,Zdw,Zdx,Zdy,Zdz,Zd0,Zd1,Zd2,Zd6,Zek,Zen,Zeq,Zet,Zev,Zew,Zex,Zez,Ze0,Ze1,Ze2,Ze3,Ze5,Ze8,Zfc,Zfd,Zfe,Zfh,Zfi,Zfj,Zfk,Zfl,Zfn,Zfq,Zfr,Zfz,Zf0,Zf1,Zf3,Zgr,Zgs,Zgt,Zgu,Zgv,Zgw,Zgx,Zg1,Zg2,Zg4,Zg5,Zg6,Zhd,Zhe,Zhf,Zhg,Zhh,Zhm,Zhn,Zho,Zhs,Zht,Zhu,Zh6,Zh7,Zin,Zio,Zip,Ziq,Zir,Ziu,Ziv,Ziw,Zi6,Zi7,Zjh,Zji,Zjn,Zjr,Zj2,Zla,Zlb,Zle,Zlf,Zlh,Zll,Zls,Zlz,Zmt,Zmv,Zmw,Zmx,Zmy,Zmz,Zm0,Zm1,Zm3,Zm5,Zm6,Zm9,Zna,Znb,Zne,Znf,Zng,Znh,Znn,Zno,Znp,Znr,Zns,Znt,Znw,Zn5,Zoc,Zof,Zog,Zrd,Zos,Zot,Zo4,Zo6,Zo7,Zo8,Zo9,Zpb,Zpc,Zpd,Zpi,Zpu,Zpv,Zp7,Zp9,Zqd,Zqe,Zqf,Zqg,Zqh,Zqi,Zqk,Zql,Zqm,Zqn,eq_self,true_and,and_true,Nat.mul_one,zF_fc,fc_0,fc_17,fc_18,fc_19,fc_20,fc_53,fc_54,fc_55,fs_0,fs_17,fs_18,fs_19,fs_20,fs_53,fs_54,fs_55,fp_1,fp_21,fp_f,rb_1,rb_21,rb_0,fc_len,fc_ok,fc_id,fc_rs,v16,v32,cB_cells]
    tactic =>
    exact ⟨rfl, rfl⟩
  rw [if_neg h9]
  have h9' : ¬ IN b.length > (40 : Int) := by simp only [IN]; omega
  have hl8 : b.length = 40 := by omega
  have hx := of8 (byt8_take hb 8) 8 (by rw [List.length_take]; omega) (by decide)
  obtain ⟨x, hx0⟩ : ∃ x, x = ofN (b.take 8) 8 := ⟨_, rfl⟩
  have htc : List.take 8 (cB b) = cB (b.take 8) := (cB_take _ _).symm
  have hgs := s32_get hl8
  obtain ⟨F, hF⟩ : ∃ F, F = ff15 5 t es er b := ⟨_, rfl⟩
  obtain ⟨s, hs⟩ : ∃ s, s = s32 (b.drop 8) false := ⟨_, rfl⟩
  rw [← hs] at hgs
  rw [← hF]
  unfold ff15 at hF
  rw [← hx0, ← hs] at hF
  rw [← hx0] at hx
  have hf := rmay_con F (by rw [hF]; exact Nat.zero_le _)
  have hq := cB_length b
  simp only [fr] at hf
  obtain ⟨M, hM⟩ : ∃ q, q = mayF F := ⟨_, rfl⟩
  rw [← hM] at hf ⊢
  subst hF
  simp only [fr] at hf ⊢
  sym =>
  simp [Zaa,Zab,Zac,Zad,Zae,Zaf,Zag,Zah,Zai,Zak,Zal,Zam,Zan,Zao,Zap,Zaq,Zav,Zaw,Zay,Zaz,Za0,Za1,Za2,Za3,Za4,Za5,Za6,Za7,Zrh,Za8,Za9,Zba,Zbb,Zbc,Zbd,Zbf,Zbt,Zbu,Zbv,Zbz,Zb1,Zb9,Zch,Zcn,Zcv,Zcx,Zcz,Zc3,Zc4,Zc7,Zc8,Zc9,Zdc,Zdd,Zde,Zdf,Zdg,Zdh,Zdi,Zdj,Zdk,Zdo,Zdp,Zdt,Zdu,Zdv,Zdw,Zdx,Zdy,Zdz,Zd0,Zd1,Zd2,Zd6,Zek,Zen,Zeq,Zet,Zev,Zew,Zex,Zez,Ze0,Ze1,Ze2,Ze3,Ze5,Ze8,Zfc,Zfd,Zfe,Zfh,Zfi,Zfj,Zfk,Zfl,Zfn,Zfq,Zfr,Zfz,Zf0,Zf1,Zf3,Zgr,Zgs,Zgt,Zgu,Zgv,Zgw,Zgx,Zg1,Zg2,Zg4,Zg5,Zg6,Zhd,Zhe,Zhf,Zhg,Zhh,Zhm,Zhn,Zho,Zhs,Zht,Zhu,Zh6,Zh7,Zin,Zio,Zip,Ziq,Zir,Ziu,Ziv,Ziw,Zi6,Zi7,Zjh,Zji,Zjn,Zjr,Zj2,Zla,Zlb,Zle,Zlf,Zlh,Zll,Zls,Zlz,Zmt,Zmv,Zmw,Zmx,Zmy,Zmz,Zm0,Zm1,Zm3,Zm5,Zm6,Zm9,Zna,Znb,Zne,Znf,Zng,Znh,Znn,Zno,Znp,Znr,Zns,Znt,Znw,Zn5,Zoc,Zof,Zog,Zrd,Zos,Zot,Zo4,Zo6,Zo7,Zo8,Zo9,Zpb,Zpc,Zpd,Zpi,Zpu,Zpv,Zp7,Zp9,Zqd,Zqe,Zqf,Zqg,Zqh,Zqi,Zqk,Zql,Zqm,Zqn,eq_self,true_and,and_true,Nat.mul_one,zF_fc,fc_0,fc_17,fc_18,fc_19,fc_20,fc_53,fc_54,fc_55,fs_0,fs_17,fs_18,fs_19,fs_20,fs_53,fs_54,fs_55,fp_1,fp_21,fp_f,rb_1,rb_21,rb_0,fc_len,fc_ok,fc_id,fc_rs,v16,v32,cB_cells,h8',h9',g7,g8,htc,callable_41]
  tactic =>
  and_intros <;> try (first | omega | rfl | assumption | simp only [IN]; omega)
  refine cl none (hx) trivial ?_
  sym =>
  simp [Zaa,Zab,Zac,Zad,Zae,Zaf,Zag,Zah,Zai,Zak,Zal,Zam,Zan,Zao,Zap,Zaq,Zav,Zaw,Zay,Zaz,Za0,Za1,Za2,Za3,Za4,Za5,Za6,Za7,Zrh,Za8,Za9,Zba,Zbb,Zbc,Zbd,Zbf,Zbt,Zbu,Zbv,Zbz,Zb1,Zb9,Zch,Zcn,Zcv,Zcx,Zcz,Zc3,Zc4,Zc7,Zc8,Zc9,Zdc,Zdd,Zde,Zdf,Zdg,Zdh,Zdi,Zdj,Zdk,Zdo,Zdp,Zdt,Zdu,Zdv,Zdw,Zdx,Zdy,Zdz,Zd0,Zd1,Zd2,Zd6,Zek,Zen,Zeq,Zet,Zev,Zew,Zex,Zez,Ze0,Ze1,Ze2,Ze3,Ze5,Ze8,Zfc,Zfd,Zfe,Zfh,Zfi,Zfj,Zfk,Zfl,Zfn,Zfq,Zfr,Zfz,Zf0,Zf1,Zf3,Zgr,Zgs,Zgt,Zgu,Zgv,Zgw,Zgx,Zg1,Zg2,Zg4,Zg5,Zg6,Zhd,Zhe,Zhf,Zhg,Zhh,Zhm,Zhn,Zho,Zhs,Zht,Zhu,Zh6,Zh7,Zin,Zio,Zip,Ziq,Zir,Ziu,Ziv,Ziw,Zi6,Zi7,Zjh,Zji,Zjn,Zjr,Zj2,Zla,Zlb,Zle,Zlf,Zlh,Zll,Zls,Zlz,Zmt,Zmv,Zmw,Zmx,Zmy,Zmz,Zm0,Zm1,Zm3,Zm5,Zm6,Zm9,Zna,Znb,Zne,Znf,Zng,Znh,Znn,Zno,Znp,Znr,Zns,Znt,Znw,Zn5,Zoc,Zof,Zog,Zrd,Zos,Zot,Zo4,Zo6,Zo7,Zo8,Zo9,Zpb,Zpc,Zpd,Zpi,Zpu,Zpv,Zp7,Zp9,Zqd,Zqe,Zqf,Zqg,Zqh,Zqi,Zqk,Zql,Zqm,Zqn,eq_self,true_and,and_true,Nat.mul_one,zF_fc,fc_0,fc_17,fc_18,fc_19,fc_20,fc_53,fc_54,fc_55,fs_0,fs_17,fs_18,fs_19,fs_20,fs_53,fs_54,fs_55,fp_1,fp_21,fp_f,rb_1,rb_21,rb_0,fc_len,fc_ok,fc_id,fc_rs,v16,v32,cB_cells]
  tactic =>
  refine lpA (i42 b 5 t es er x s) 32 [(0, 0), (1, 1)] _ ⟨0, rfl, rfl⟩ (wkA ?_) ?_
  · have pz : pre32 s z32 0 = z32 := rfl
    sym =>
    simp [Zaa,Zab,Zac,Zad,Zae,Zaf,Zag,Zah,Zai,Zak,Zal,Zam,Zan,Zao,Zap,Zaq,Zav,Zaw,Zay,Zaz,Za0,Za1,Za2,Za3,Za4,Za5,Za6,Za7,Zrh,Za8,Za9,Zba,Zbb,Zbc,Zbd,Zbf,Zbt,Zbu,Zbv,Zbz,Zb1,Zb9,Zch,Zcn,Zcv,Zcx,Zcz,Zc3,Zc4,Zc7,Zc8,Zc9,Zdc,Zdd,Zde,Zdf,Zdg,Zdh,Zdi,Zdj,Zdk,Zdo,Zdp,Zdt,Zdu,Zdv,Zdw,Zdx,Zdy,Zdz,Zd0,Zd1,Zd2,Zd6,Zek,Zen,Zeq,Zet,Zev,Zew,Zex,Zez,Ze0,Ze1,Ze2,Ze3,Ze5,Ze8,Zfc,Zfd,Zfe,Zfh,Zfi,Zfj,Zfk,Zfl,Zfn,Zfq,Zfr,Zfz,Zf0,Zf1,Zf3,Zgr,Zgs,Zgt,Zgu,Zgv,Zgw,Zgx,Zg1,Zg2,Zg4,Zg5,Zg6,Zhd,Zhe,Zhf,Zhg,Zhh,Zhm,Zhn,Zho,Zhs,Zht,Zhu,Zh6,Zh7,Zin,Zio,Zip,Ziq,Zir,Ziu,Ziv,Ziw,Zi6,Zi7,Zjh,Zji,Zjn,Zjr,Zj2,Zla,Zlb,Zle,Zlf,Zlh,Zll,Zls,Zlz,Zmt,Zmv,Zmw,Zmx,Zmy,Zmz,Zm0,Zm1,Zm3,Zm5,Zm6,Zm9,Zna,Znb,Zne,Znf,Zng,Znh,Znn,Zno,Znp,Znr,Zns,Znt,Znw,Zn5,Zoc,Zof,Zog,Zrd,Zos,Zot,Zo4,Zo6,Zo7,Zo8,Zo9,Zpb,Zpc,Zpd,Zpi,Zpu,Zpv,Zp7,Zp9,Zqd,Zqe,Zqf,Zqg,Zqh,Zqi,Zqk,Zql,Zqm,Zqn,eq_self,true_and,and_true,Nat.mul_one,zF_fc,fc_0,fc_17,fc_18,fc_19,fc_20,fc_53,fc_54,fc_55,fs_0,fs_17,fs_18,fs_19,fs_20,fs_53,fs_54,fs_55,fp_1,fp_21,fp_f,rb_1,rb_21,rb_0,fc_len,fc_ok,fc_id,fc_rs,v16,v32,cB_cells,pz]
  rintro kk st ⟨i, hi, rfl⟩
  by_cases h : i < 32
  · have hw := w64s i (by omega)
    have h32 : IN i < (32 : Int) := by simp only [IN]; omega
    have hw8 : IntKind.i64.wrap ((8 : Int) + IN i) = IN (8 + i) := by rw [w64]; simp only [IN]; omega; simp only [IN]; omega
    have hg := cB_get b (8 + i) (by omega)
    have hgi := hgs i h
    have hps := pre_set s.1 z32.1 32 i s.2 z32.2 h
    obtain ⟨v, hv⟩ : ∃ v, v = b.getD (8 + i) 0 := ⟨_, rfl⟩
    rw [← hv] at hg hgi
    rw [hgi] at hps
    have hset := fs_su 5 t es er 0 x (pre32 s z32 i) .nl .nl 0 i h v (pre32 s z32 (i + 1)) hps.symm
    have hlt : 8 + i < b.length := by omega
    sym =>
    simp [Zaa,Zab,Zac,Zad,Zae,Zaf,Zag,Zah,Zai,Zak,Zal,Zam,Zan,Zao,Zap,Zaq,Zav,Zaw,Zay,Zaz,Za0,Za1,Za2,Za3,Za4,Za5,Za6,Za7,Zrh,Za8,Za9,Zba,Zbb,Zbc,Zbd,Zbf,Zbt,Zbu,Zbv,Zbz,Zb1,Zb9,Zch,Zcn,Zcv,Zcx,Zcz,Zc3,Zc4,Zc7,Zc8,Zc9,Zdc,Zdd,Zde,Zdf,Zdg,Zdh,Zdi,Zdj,Zdk,Zdo,Zdp,Zdt,Zdu,Zdv,Zdw,Zdx,Zdy,Zdz,Zd0,Zd1,Zd2,Zd6,Zek,Zen,Zeq,Zet,Zev,Zew,Zex,Zez,Ze0,Ze1,Ze2,Ze3,Ze5,Ze8,Zfc,Zfd,Zfe,Zfh,Zfi,Zfj,Zfk,Zfl,Zfn,Zfq,Zfr,Zfz,Zf0,Zf1,Zf3,Zgr,Zgs,Zgt,Zgu,Zgv,Zgw,Zgx,Zg1,Zg2,Zg4,Zg5,Zg6,Zhd,Zhe,Zhf,Zhg,Zhh,Zhm,Zhn,Zho,Zhs,Zht,Zhu,Zh6,Zh7,Zin,Zio,Zip,Ziq,Zir,Ziu,Ziv,Ziw,Zi6,Zi7,Zjh,Zji,Zjn,Zjr,Zj2,Zla,Zlb,Zle,Zlf,Zlh,Zll,Zls,Zlz,Zmt,Zmv,Zmw,Zmx,Zmy,Zmz,Zm0,Zm1,Zm3,Zm5,Zm6,Zm9,Zna,Znb,Zne,Znf,Zng,Znh,Znn,Zno,Znp,Znr,Zns,Znt,Znw,Zn5,Zoc,Zof,Zog,Zrd,Zos,Zot,Zo4,Zo6,Zo7,Zo8,Zo9,Zpb,Zpc,Zpd,Zpi,Zpu,Zpv,Zp7,Zp9,Zqd,Zqe,Zqf,Zqg,Zqh,Zqi,Zqk,Zql,Zqm,Zqn,eq_self,true_and,and_true,Nat.mul_one,zF_fc,fc_0,fc_17,fc_18,fc_19,fc_20,fc_53,fc_54,fc_55,fs_0,fs_17,fs_18,fs_19,fs_20,fs_53,fs_54,fs_55,fp_1,fp_21,fp_f,rb_1,rb_21,rb_0,fc_len,fc_ok,fc_id,fc_rs,v16,v32,cB_cells,hw,hw8,h32,hg,hset,hlt]
    tactic =>
    and_intros <;> try (first | omega | rfl | assumption | simp only [IN]; omega)
    unfold NextL; refine ⟨(kk - 1), [(0, 0), (1, 1)], _, by omega, ⟨i + 1, by omega, rfl⟩, wkA ?_⟩
    sym =>
    simp [Zaa,Zab,Zac,Zad,Zae,Zaf,Zag,Zah,Zai,Zak,Zal,Zam,Zan,Zao,Zap,Zaq,Zav,Zaw,Zay,Zaz,Za0,Za1,Za2,Za3,Za4,Za5,Za6,Za7,Zrh,Za8,Za9,Zba,Zbb,Zbc,Zbd,Zbf,Zbt,Zbu,Zbv,Zbz,Zb1,Zb9,Zch,Zcn,Zcv,Zcx,Zcz,Zc3,Zc4,Zc7,Zc8,Zc9,Zdc,Zdd,Zde,Zdf,Zdg,Zdh,Zdi,Zdj,Zdk,Zdo,Zdp,Zdt,Zdu,Zdv,Zdw,Zdx,Zdy,Zdz,Zd0,Zd1,Zd2,Zd6,Zek,Zen,Zeq,Zet,Zev,Zew,Zex,Zez,Ze0,Ze1,Ze2,Ze3,Ze5,Ze8,Zfc,Zfd,Zfe,Zfh,Zfi,Zfj,Zfk,Zfl,Zfn,Zfq,Zfr,Zfz,Zf0,Zf1,Zf3,Zgr,Zgs,Zgt,Zgu,Zgv,Zgw,Zgx,Zg1,Zg2,Zg4,Zg5,Zg6,Zhd,Zhe,Zhf,Zhg,Zhh,Zhm,Zhn,Zho,Zhs,Zht,Zhu,Zh6,Zh7,Zin,Zio,Zip,Ziq,Zir,Ziu,Ziv,Ziw,Zi6,Zi7,Zjh,Zji,Zjn,Zjr,Zj2,Zla,Zlb,Zle,Zlf,Zlh,Zll,Zls,Zlz,Zmt,Zmv,Zmw,Zmx,Zmy,Zmz,Zm0,Zm1,Zm3,Zm5,Zm6,Zm9,Zna,Znb,Zne,Znf,Zng,Znh,Znn,Zno,Znp,Znr,Zns,Znt,Znw,Zn5,Zoc,Zof,Zog,Zrd,Zos,Zot,Zo4,Zo6,Zo7,Zo8,Zo9,Zpb,Zpc,Zpd,Zpi,Zpu,Zpv,Zp7,Zp9,Zqd,Zqe,Zqf,Zqg,Zqh,Zqi,Zqk,Zql,Zqm,Zqn,eq_self,true_and,and_true,Nat.mul_one,zF_fc,fc_0,fc_17,fc_18,fc_19,fc_20,fc_53,fc_54,fc_55,fs_0,fs_17,fs_18,fs_19,fs_20,fs_53,fs_54,fs_55,fp_1,fp_21,fp_f,rb_1,rb_21,rb_0,fc_len,fc_ok,fc_id,fc_rs,v16,v32,cB_cells]
  · obtain rfl : i = 32 := by omega
    rw [pre_full]
    sym =>
    simp [Zaa,Zab,Zac,Zad,Zae,Zaf,Zag,Zah,Zai,Zak,Zal,Zam,Zan,Zao,Zap,Zaq,Zav,Zaw,Zay,Zaz,Za0,Za1,Za2,Za3,Za4,Za5,Za6,Za7,Zrh,Za8,Za9,Zba,Zbb,Zbc,Zbd,Zbf,Zbt,Zbu,Zbv,Zbz,Zb1,Zb9,Zch,Zcn,Zcv,Zcx,Zcz,Zc3,Zc4,Zc7,Zc8,Zc9,Zdc,Zdd,Zde,Zdf,Zdg,Zdh,Zdi,Zdj,Zdk,Zdo,Zdp,Zdt,Zdu,Zdv,Zdw,Zdx,Zdy,Zdz,Zd0,Zd1,Zd2,Zd6,Zek,Zen,Zeq,Zet,Zev,Zew,Zex,Zez,Ze0,Ze1,Ze2,Ze3,Ze5,Ze8,Zfc,Zfd,Zfe,Zfh,Zfi,Zfj,Zfk,Zfl,Zfn,Zfq,Zfr,Zfz,Zf0,Zf1,Zf3,Zgr,Zgs,Zgt,Zgu,Zgv,Zgw,Zgx,Zg1,Zg2,Zg4,Zg5,Zg6,Zhd,Zhe,Zhf,Zhg,Zhh,Zhm,Zhn,Zho,Zhs,Zht,Zhu,Zh6,Zh7,Zin,Zio,Zip,Ziq,Zir,Ziu,Ziv,Ziw,Zi6,Zi7,Zjh,Zji,Zjn,Zjr,Zj2,Zla,Zlb,Zle,Zlf,Zlh,Zll,Zls,Zlz,Zmt,Zmv,Zmw,Zmx,Zmy,Zmz,Zm0,Zm1,Zm3,Zm5,Zm6,Zm9,Zna,Znb,Zne,Znf,Zng,Znh,Znn,Zno,Znp,Znr,Zns,Znt,Znw,Zn5,Zoc,Zof,Zog,Zrd,Zos,Zot,Zo4,Zo6,Zo7,Zo8,Zo9,Zpb,Zpc,Zpd,Zpi,Zpu,Zpv,Zp7,Zp9,Zqd,Zqe,Zqf,Zqg,Zqh,Zqi,Zqk,Zql,Zqm,Zqn,eq_self,true_and,and_true,Nat.mul_one,zF_fc,fc_0,fc_17,fc_18,fc_19,fc_20,fc_53,fc_54,fc_55,fs_0,fs_17,fs_18,fs_19,fs_20,fs_53,fs_54,fs_55,fp_1,fp_21,fp_f,rb_1,rb_21,rb_0,fc_len,fc_ok,fc_id,fc_rs,v16,v32,cB_cells,fz_fc,fcF1,callable_27]
    tactic =>
    refine cl none (hf) trivial ?_
    sym =>
    simp [Zaa,Zab,Zac,Zad,Zae,Zaf,Zag,Zah,Zai,Zak,Zal,Zam,Zan,Zao,Zap,Zaq,Zav,Zaw,Zay,Zaz,Za0,Za1,Za2,Za3,Za4,Za5,Za6,Za7,Zrh,Za8,Za9,Zba,Zbb,Zbc,Zbd,Zbf,Zbt,Zbu,Zbv,Zbz,Zb1,Zb9,Zch,Zcn,Zcv,Zcx,Zcz,Zc3,Zc4,Zc7,Zc8,Zc9,Zdc,Zdd,Zde,Zdf,Zdg,Zdh,Zdi,Zdj,Zdk,Zdo,Zdp,Zdt,Zdu,Zdv,Zdw,Zdx,Zdy,Zdz,Zd0,Zd1,Zd2,Zd6,Zek,Zen,Zeq,Zet,Zev,Zew,Zex,Zez,Ze0,Ze1,Ze2,Ze3,Ze5,Ze8,Zfc,Zfd,Zfe,Zfh,Zfi,Zfj,Zfk,Zfl,Zfn,Zfq,Zfr,Zfz,Zf0,Zf1,Zf3,Zgr,Zgs,Zgt,Zgu,Zgv,Zgw,Zgx,Zg1,Zg2,Zg4,Zg5,Zg6,Zhd,Zhe,Zhf,Zhg,Zhh,Zhm,Zhn,Zho,Zhs,Zht,Zhu,Zh6,Zh7,Zin,Zio,Zip,Ziq,Zir,Ziu,Ziv,Ziw,Zi6,Zi7,Zjh,Zji,Zjn,Zjr,Zj2,Zla,Zlb,Zle,Zlf,Zlh,Zll,Zls,Zlz,Zmt,Zmv,Zmw,Zmx,Zmy,Zmz,Zm0,Zm1,Zm3,Zm5,Zm6,Zm9,Zna,Znb,Zne,Znf,Zng,Znh,Znn,Zno,Znp,Znr,Zns,Znt,Znw,Zn5,Zoc,Zof,Zog,Zrd,Zos,Zot,Zo4,Zo6,Zo7,Zo8,Zo9,Zpb,Zpc,Zpd,Zpi,Zpu,Zpv,Zp7,Zp9,Zqd,Zqe,Zqf,Zqg,Zqh,Zqi,Zqk,Zql,Zqm,Zqn,eq_self,true_and,and_true,Nat.mul_one,zF_fc,fc_0,fc_17,fc_18,fc_19,fc_20,fc_53,fc_54,fc_55,fs_0,fs_17,fs_18,fs_19,fs_20,fs_53,fs_54,fs_55,fp_1,fp_21,fp_f,rb_1,rb_21,rb_0,fc_len,fc_ok,fc_id,fc_rs,v16,v32,cB_cells]
    tactic =>
    refine endA ?_
    sym =>
    simp [Zaa,Zab,Zac,Zad,Zae,Zaf,Zag,Zah,Zai,Zak,Zal,Zam,Zan,Zao,Zap,Zaq,Zav,Zaw,Zay,Zaz,Za0,Za1,Za2,Za3,Za4,Za5,Za6,Za7,Zrh,Za8,Za9,Zba,Zbb,Zbc,Zbd,Zbf,Zbt,Zbu,Zbv,Zbz,Zb1,Zb9,Zch,Zcn,Zcv,Zcx,Zcz,Zc3,Zc4,Zc7,Zc8,Zc9,Zdc,Zdd,Zde,Zdf,Zdg,Zdh,Zdi,Zdj,Zdk,Zdo,Zdp,Zdt,Zdu,Zdv,Zdw,Zdx,Zdy,Zdz,Zd0,Zd1,Zd2,Zd6,Zek,Zen,Zeq,Zet,Zev,Zew,Zex,Zez,Ze0,Ze1,Ze2,Ze3,Ze5,Ze8,Zfc,Zfd,Zfe,Zfh,Zfi,Zfj,Zfk,Zfl,Zfn,Zfq,Zfr,Zfz,Zf0,Zf1,Zf3,Zgr,Zgs,Zgt,Zgu,Zgv,Zgw,Zgx,Zg1,Zg2,Zg4,Zg5,Zg6,Zhd,Zhe,Zhf,Zhg,Zhh,Zhm,Zhn,Zho,Zhs,Zht,Zhu,Zh6,Zh7,Zin,Zio,Zip,Ziq,Zir,Ziu,Ziv,Ziw,Zi6,Zi7,Zjh,Zji,Zjn,Zjr,Zj2,Zla,Zlb,Zle,Zlf,Zlh,Zll,Zls,Zlz,Zmt,Zmv,Zmw,Zmx,Zmy,Zmz,Zm0,Zm1,Zm3,Zm5,Zm6,Zm9,Zna,Znb,Zne,Znf,Zng,Znh,Znn,Zno,Znp,Znr,Zns,Znt,Znw,Zn5,Zoc,Zof,Zog,Zrd,Zos,Zot,Zo4,Zo6,Zo7,Zo8,Zo9,Zpb,Zpc,Zpd,Zpi,Zpu,Zpv,Zp7,Zp9,Zqd,Zqe,Zqf,Zqg,Zqh,Zqi,Zqk,Zql,Zqm,Zqn,eq_self,true_and,and_true,Nat.mul_one,zF_fc,fc_0,fc_17,fc_18,fc_19,fc_20,fc_53,fc_54,fc_55,fs_0,fs_17,fs_18,fs_19,fs_20,fs_53,fs_54,fs_55,fp_1,fp_21,fp_f,rb_1,rb_21,rb_0,fc_len,fc_ok,fc_id,fc_rs,v16,v32,cB_cells]
    tactic =>
    exact ⟨rfl, rfl⟩
theorem rfields7 (t : V 16) (es er : Int) (b : List Int) (hb : byt8 b) (hl : b.length ≤ 5000) : Con Try.prog 42 [] [.ag (fc 7 t es er 0 0 z32 .nl .nl 0), fB b] [] (.tu [.ag (fr (fdE 7 t es er b).1), I (fdE 7 t es er b).2]) := by
  have g7 : IntKind.i64.wrap (6 : Int) = 6 := by decide
  have g8 : (6 : Int).toNat = 6 := rfl
  rw [fdE7 _ _ _ _ hb]
  refine con_j b42 rfl ?_
  by_cases h8 : b.length < 1
  · rw [if_pos h8]
    have h8' : IN b.length < (1 : Int) := by simp only [IN]; omega
    sym =>
    simp [Zaa,Zab,Zac,Zad,Zae,Zaf,Zag,Zak,Zal,Zam,Zao,Zap,Zaz,Za0,Za1,Za2,Za3,Za4,Za5,Za6,Za7,Zrh,Za8,Za9,Zba,Zbb,Zbc,Zbd,Zbf,Zbl,Zbt,Zbu,Zbv,Zb1,Zb9,Zcn,Zcv,Zcx,Zcz,Zc3,Zc4,Zc7,Zc8,Zc9,Zdf,Zdg,Zdh,Zdj,Zdk,Zdo,Zdp,Zdt,Zdu,Zdv,Zdw,Zdx,Zdy,Zdz,Zd0,Zd1,Zd2,Zd6,Zek,Zen,Zeq,Zet,Zev,Zew,Zex,Zez,Ze0,Ze1,Ze2,Ze3,Ze5,Ze8,Zfc,Zfd,Zfe,Zfh,Zfi,Zfj,Zfk,Zfl,Zfn,Zfr,Zfz,Zf0,Zf1,Zf3,Zgh,Zgi,Zgr,Zgs,Zgt,Zgu,Zgv,Zgw,Zgx,Zg4,Zg5,Zg6,Zhd,Zhe,Zhf,Zhg,Zhh,Zho,Zh6,Zh7,Zin,Zio,Zip,Ziq,Zir,Ziu,Ziv,Ziw,Zi6,Zi7,Zjh,Zji,Zjn,Zjr,Zj2,Zla,Zlb,Zle,Zlf,Zlh,Zls,Zlz,Zmt,Zmv,Zmw,Zmx,Zmy,Zmz,Zm0,Zm1,Zm3,Zm5,Zm6,Zm9,Zna,Znb,Zne,Znf,Zng,Znn,Zno,Znp,Zn6,Zof,Zog,Zrd,Zos,Zot,Zo4,Zo6,Zo7,Zo8,Zo9,Zpb,Zpv,Zp7,Zp9,Zqd,Zqe,eq_self,true_and,and_true,zF_fc,fc_0,fc_17,fc_18,fc_19,fc_20,fc_53,fc_54,fc_55,fs_0,fs_17,fs_18,fs_19,fs_20,fs_53,fs_54,fs_55,fp_1,fp_21,fp_f,rb_1,rb_21,rb_0,fc_len,fc_ok,fc_id,fc_rs,v16,v32,cB_cells,h8',g7,g8]
    tactic =>
    and_intros <;> try (first | omega | rfl | assumption | simp only [IN]; omega)
    refine endA ?_
    simp only [fr, zFm]
    sym =>
    simp [Zaa,Zab,Zac,Zad,Zae,Zaf,Zag,Zak,Zal,Zam,Zao,Zap,Zaz,Za0,Za1,Za2,Za3,Za4,Za5,Za6,Za7,Zrh,Za8,Za9,Zba,Zbb,Zbc,Zbd,Zbf,Zbl,Zbt,Zbu,Zbv,Zb1,Zb9,Zcn,Zcv,Zcx,Zcz,Zc3,Zc4,Zc7,Zc8,Zc9,Zdf,Zdg,Zdh,Zdj,Zdk,Zdo,Zdp,Zdt,Zdu,Zdv,Zdw,Zdx,Zdy,Zdz,Zd0,Zd1,Zd2,Zd6,Zek,Zen,Zeq,Zet,Zev,Zew,Zex,Zez,Ze0,Ze1,Ze2,Ze3,Ze5,Ze8,Zfc,Zfd,Zfe,Zfh,Zfi,Zfj,Zfk,Zfl,Zfn,Zfr,Zfz,Zf0,Zf1,Zf3,Zgh,Zgi,Zgr,Zgs,Zgt,Zgu,Zgv,Zgw,Zgx,Zg4,Zg5,Zg6,Zhd,Zhe,Zhf,Zhg,Zhh,Zho,Zh6,Zh7,Zin,Zio,Zip,Ziq,Zir,Ziu,Ziv,Ziw,Zi6,Zi7,Zjh,Zji,Zjn,Zjr,Zj2,Zla,Zlb,Zle,Zlf,Zlh,Zls,Zlz,Zmt,Zmv,Zmw,Zmx,Zmy,Zmz,Zm0,Zm1,Zm3,Zm5,Zm6,Zm9,Zna,Znb,Zne,Znf,Zng,Znn,Zno,Znp,Zn6,Zof,Zog,Zrd,Zos,Zot,Zo4,Zo6,Zo7,Zo8,Zo9,Zpb,Zpv,Zp7,Zp9,Zqd,Zqe,eq_self,true_and,and_true,zF_fc,fc_0,fc_17,fc_18,fc_19,fc_20,fc_53,fc_54,fc_55,fs_0,fs_17,fs_18,fs_19,fs_20,fs_53,fs_54,fs_55,fp_1,fp_21,fp_f,rb_1,rb_21,rb_0,fc_len,fc_ok,fc_id,fc_rs,v16,v32,cB_cells]
    tactic =>
    exact ⟨rfl, rfl⟩
  rw [if_neg h8]
  have h8' : ¬ IN b.length < (1 : Int) := by simp only [IN]; omega
  by_cases h9 : 1 < b.length
  · rw [if_pos h9]
    have h9' : IN b.length > (1 : Int) := by simp only [IN]; omega
    sym =>
    simp [Zaa,Zab,Zac,Zad,Zae,Zaf,Zag,Zak,Zal,Zam,Zao,Zap,Zaz,Za0,Za1,Za2,Za3,Za4,Za5,Za6,Za7,Zrh,Za8,Za9,Zba,Zbb,Zbc,Zbd,Zbf,Zbl,Zbt,Zbu,Zbv,Zb1,Zb9,Zcn,Zcv,Zcx,Zcz,Zc3,Zc4,Zc7,Zc8,Zc9,Zdf,Zdg,Zdh,Zdj,Zdk,Zdo,Zdp,Zdt,Zdu,Zdv,Zdw,Zdx,Zdy,Zdz,Zd0,Zd1,Zd2,Zd6,Zek,Zen,Zeq,Zet,Zev,Zew,Zex,Zez,Ze0,Ze1,Ze2,Ze3,Ze5,Ze8,Zfc,Zfd,Zfe,Zfh,Zfi,Zfj,Zfk,Zfl,Zfn,Zfr,Zfz,Zf0,Zf1,Zf3,Zgh,Zgi,Zgr,Zgs,Zgt,Zgu,Zgv,Zgw,Zgx,Zg4,Zg5,Zg6,Zhd,Zhe,Zhf,Zhg,Zhh,Zho,Zh6,Zh7,Zin,Zio,Zip,Ziq,Zir,Ziu,Ziv,Ziw,Zi6,Zi7,Zjh,Zji,Zjn,Zjr,Zj2,Zla,Zlb,Zle,Zlf,Zlh,Zls,Zlz,Zmt,Zmv,Zmw,Zmx,Zmy,Zmz,Zm0,Zm1,Zm3,Zm5,Zm6,Zm9,Zna,Znb,Zne,Znf,Zng,Znn,Zno,Znp,Zn6,Zof,Zog,Zrd,Zos,Zot,Zo4,Zo6,Zo7,Zo8,Zo9,Zpb,Zpv,Zp7,Zp9,Zqd,Zqe,eq_self,true_and,and_true,zF_fc,fc_0,fc_17,fc_18,fc_19,fc_20,fc_53,fc_54,fc_55,fs_0,fs_17,fs_18,fs_19,fs_20,fs_53,fs_54,fs_55,fp_1,fp_21,fp_f,rb_1,rb_21,rb_0,fc_len,fc_ok,fc_id,fc_rs,v16,v32,cB_cells,h8',h9',g7,g8]
    tactic =>
    and_intros <;> try (first | omega | rfl | assumption | simp only [IN]; omega)
    refine endA ?_
    simp only [fr, zFm]
    sym =>
    simp [Zaa,Zab,Zac,Zad,Zae,Zaf,Zag,Zak,Zal,Zam,Zao,Zap,Zaz,Za0,Za1,Za2,Za3,Za4,Za5,Za6,Za7,Zrh,Za8,Za9,Zba,Zbb,Zbc,Zbd,Zbf,Zbl,Zbt,Zbu,Zbv,Zb1,Zb9,Zcn,Zcv,Zcx,Zcz,Zc3,Zc4,Zc7,Zc8,Zc9,Zdf,Zdg,Zdh,Zdj,Zdk,Zdo,Zdp,Zdt,Zdu,Zdv,Zdw,Zdx,Zdy,Zdz,Zd0,Zd1,Zd2,Zd6,Zek,Zen,Zeq,Zet,Zev,Zew,Zex,Zez,Ze0,Ze1,Ze2,Ze3,Ze5,Ze8,Zfc,Zfd,Zfe,Zfh,Zfi,Zfj,Zfk,Zfl,Zfn,Zfr,Zfz,Zf0,Zf1,Zf3,Zgh,Zgi,Zgr,Zgs,Zgt,Zgu,Zgv,Zgw,Zgx,Zg4,Zg5,Zg6,Zhd,Zhe,Zhf,Zhg,Zhh,Zho,Zh6,Zh7,Zin,Zio,Zip,Ziq,Zir,Ziu,Ziv,Ziw,Zi6,Zi7,Zjh,Zji,Zjn,Zjr,Zj2,Zla,Zlb,Zle,Zlf,Zlh,Zls,Zlz,Zmt,Zmv,Zmw,Zmx,Zmy,Zmz,Zm0,Zm1,Zm3,Zm5,Zm6,Zm9,Zna,Znb,Zne,Znf,Zng,Znn,Zno,Znp,Zn6,Zof,Zog,Zrd,Zos,Zot,Zo4,Zo6,Zo7,Zo8,Zo9,Zpb,Zpv,Zp7,Zp9,Zqd,Zqe,eq_self,true_and,and_true,zF_fc,fc_0,fc_17,fc_18,fc_19,fc_20,fc_53,fc_54,fc_55,fs_0,fs_17,fs_18,fs_19,fs_20,fs_53,fs_54,fs_55,fp_1,fp_21,fp_f,rb_1,rb_21,rb_0,fc_len,fc_ok,fc_id,fc_rs,v16,v32,cB_cells]
    tactic =>
    exact ⟨rfl, rfl⟩
  rw [if_neg h9]
  have h9' : ¬ IN b.length > (1 : Int) := by simp only [IN]; omega
  have hg := cB_get b 0 (by omega)
  have hg0 := byt8_get hb 0
  have hq := cB_length b
  have hl8 : b.length = 1 := by omega
  obtain ⟨x, hx0⟩ : ∃ x, x = b.getD 0 0 := ⟨_, rfl⟩
  rw [← hx0] at hg hg0
  have hwx : IntKind.i64.wrap x = x := w64 _ (by omega)
  obtain ⟨F, hF⟩ : ∃ F, F = ff7 t es er b := ⟨_, rfl⟩
  rw [← hF]
  unfold ff7 at hF
  rw [← hx0] at hF
  have hf := rmay_con F (by rw [hF]; exact Nat.zero_le _)
  have hgt : (0 : Int) < IN b.length := by simp only [IN]; omega
  simp only [fr] at hf
  obtain ⟨M, hM⟩ : ∃ q, q = mayF F := ⟨_, rfl⟩
  rw [← hM] at hf ⊢
  subst hF
  simp only [fr] at hf ⊢
  sym =>
  simp [Zaa,Zab,Zac,Zad,Zae,Zaf,Zag,Zak,Zal,Zam,Zao,Zap,Zaz,Za0,Za1,Za2,Za3,Za4,Za5,Za6,Za7,Zrh,Za8,Za9,Zba,Zbb,Zbc,Zbd,Zbf,Zbl,Zbt,Zbu,Zbv,Zb1,Zb9,Zcn,Zcv,Zcx,Zcz,Zc3,Zc4,Zc7,Zc8,Zc9,Zdf,Zdg,Zdh,Zdj,Zdk,Zdo,Zdp,Zdt,Zdu,Zdv,Zdw,Zdx,Zdy,Zdz,Zd0,Zd1,Zd2,Zd6,Zek,Zen,Zeq,Zet,Zev,Zew,Zex,Zez,Ze0,Ze1,Ze2,Ze3,Ze5,Ze8,Zfc,Zfd,Zfe,Zfh,Zfi,Zfj,Zfk,Zfl,Zfn,Zfr,Zfz,Zf0,Zf1,Zf3,Zgh,Zgi,Zgr,Zgs,Zgt,Zgu,Zgv,Zgw,Zgx,Zg4,Zg5,Zg6,Zhd,Zhe,Zhf,Zhg,Zhh,Zho,Zh6,Zh7,Zin,Zio,Zip,Ziq,Zir,Ziu,Ziv,Ziw,Zi6,Zi7,Zjh,Zji,Zjn,Zjr,Zj2,Zla,Zlb,Zle,Zlf,Zlh,Zls,Zlz,Zmt,Zmv,Zmw,Zmx,Zmy,Zmz,Zm0,Zm1,Zm3,Zm5,Zm6,Zm9,Zna,Znb,Zne,Znf,Zng,Znn,Zno,Znp,Zn6,Zof,Zog,Zrd,Zos,Zot,Zo4,Zo6,Zo7,Zo8,Zo9,Zpb,Zpv,Zp7,Zp9,Zqd,Zqe,eq_self,true_and,and_true,zF_fc,fc_0,fc_17,fc_18,fc_19,fc_20,fc_53,fc_54,fc_55,fs_0,fs_17,fs_18,fs_19,fs_20,fs_53,fs_54,fs_55,fp_1,fp_21,fp_f,rb_1,rb_21,rb_0,fc_len,fc_ok,fc_id,fc_rs,v16,v32,cB_cells,h8',h9',g7,g8,hl8,hg,hwx,hgt,fz_fc,fcF1,callable_27]
  tactic =>
  and_intros <;> try (first | omega | rfl | assumption | simp only [IN]; omega)
  refine cl none (hf) trivial ?_
  sym =>
  simp [Zaa,Zab,Zac,Zad,Zae,Zaf,Zag,Zak,Zal,Zam,Zao,Zap,Zaz,Za0,Za1,Za2,Za3,Za4,Za5,Za6,Za7,Zrh,Za8,Za9,Zba,Zbb,Zbc,Zbd,Zbf,Zbl,Zbt,Zbu,Zbv,Zb1,Zb9,Zcn,Zcv,Zcx,Zcz,Zc3,Zc4,Zc7,Zc8,Zc9,Zdf,Zdg,Zdh,Zdj,Zdk,Zdo,Zdp,Zdt,Zdu,Zdv,Zdw,Zdx,Zdy,Zdz,Zd0,Zd1,Zd2,Zd6,Zek,Zen,Zeq,Zet,Zev,Zew,Zex,Zez,Ze0,Ze1,Ze2,Ze3,Ze5,Ze8,Zfc,Zfd,Zfe,Zfh,Zfi,Zfj,Zfk,Zfl,Zfn,Zfr,Zfz,Zf0,Zf1,Zf3,Zgh,Zgi,Zgr,Zgs,Zgt,Zgu,Zgv,Zgw,Zgx,Zg4,Zg5,Zg6,Zhd,Zhe,Zhf,Zhg,Zhh,Zho,Zh6,Zh7,Zin,Zio,Zip,Ziq,Zir,Ziu,Ziv,Ziw,Zi6,Zi7,Zjh,Zji,Zjn,Zjr,Zj2,Zla,Zlb,Zle,Zlf,Zlh,Zls,Zlz,Zmt,Zmv,Zmw,Zmx,Zmy,Zmz,Zm0,Zm1,Zm3,Zm5,Zm6,Zm9,Zna,Znb,Zne,Znf,Zng,Znn,Zno,Znp,Zn6,Zof,Zog,Zrd,Zos,Zot,Zo4,Zo6,Zo7,Zo8,Zo9,Zpb,Zpv,Zp7,Zp9,Zqd,Zqe,eq_self,true_and,and_true,zF_fc,fc_0,fc_17,fc_18,fc_19,fc_20,fc_53,fc_54,fc_55,fs_0,fs_17,fs_18,fs_19,fs_20,fs_53,fs_54,fs_55,fp_1,fp_21,fp_f,rb_1,rb_21,rb_0,fc_len,fc_ok,fc_id,fc_rs,v16,v32,cB_cells]
  tactic =>
  refine endA ?_
  sym =>
  simp [Zaa,Zab,Zac,Zad,Zae,Zaf,Zag,Zak,Zal,Zam,Zao,Zap,Zaz,Za0,Za1,Za2,Za3,Za4,Za5,Za6,Za7,Zrh,Za8,Za9,Zba,Zbb,Zbc,Zbd,Zbf,Zbl,Zbt,Zbu,Zbv,Zb1,Zb9,Zcn,Zcv,Zcx,Zcz,Zc3,Zc4,Zc7,Zc8,Zc9,Zdf,Zdg,Zdh,Zdj,Zdk,Zdo,Zdp,Zdt,Zdu,Zdv,Zdw,Zdx,Zdy,Zdz,Zd0,Zd1,Zd2,Zd6,Zek,Zen,Zeq,Zet,Zev,Zew,Zex,Zez,Ze0,Ze1,Ze2,Ze3,Ze5,Ze8,Zfc,Zfd,Zfe,Zfh,Zfi,Zfj,Zfk,Zfl,Zfn,Zfr,Zfz,Zf0,Zf1,Zf3,Zgh,Zgi,Zgr,Zgs,Zgt,Zgu,Zgv,Zgw,Zgx,Zg4,Zg5,Zg6,Zhd,Zhe,Zhf,Zhg,Zhh,Zho,Zh6,Zh7,Zin,Zio,Zip,Ziq,Zir,Ziu,Ziv,Ziw,Zi6,Zi7,Zjh,Zji,Zjn,Zjr,Zj2,Zla,Zlb,Zle,Zlf,Zlh,Zls,Zlz,Zmt,Zmv,Zmw,Zmx,Zmy,Zmz,Zm0,Zm1,Zm3,Zm5,Zm6,Zm9,Zna,Znb,Zne,Znf,Zng,Znn,Zno,Znp,Zn6,Zof,Zog,Zrd,Zos,Zot,Zo4,Zo6,Zo7,Zo8,Zo9,Zpb,Zpv,Zp7,Zp9,Zqd,Zqe,eq_self,true_and,and_true,zF_fc,fc_0,fc_17,fc_18,fc_19,fc_20,fc_53,fc_54,fc_55,fs_0,fs_17,fs_18,fs_19,fs_20,fs_53,fs_54,fs_55,fp_1,fp_21,fp_f,rb_1,rb_21,rb_0,fc_len,fc_ok,fc_id,fc_rs,v16,v32,cB_cells]
  tactic =>
  exact ⟨rfl, rfl⟩
theorem rfields3 (t : V 16) (es er : Int) (b : List Int) (hb : byt8 b) (hl : b.length ≤ 5000) : Con Try.prog 42 [] [.ag (fc 3 t es er 0 0 z32 .nl .nl 0), fB b] [] (.tu [.ag (fr (fdE 3 t es er b).1), I (fdE 3 t es er b).2]) := by
  have g7 : IntKind.i64.wrap (2 : Int) = 2 := by decide
  have g8 : (2 : Int).toNat = 2 := rfl
  rw [fdE3]
  refine con_j b42 rfl ?_
  by_cases h8 : b.length < 9
  · rw [if_pos h8]
    have h8' : IN b.length < (9 : Int) := by simp only [IN]; omega
    sym =>
    simp [Zaa,Zab,Zac,Zad,Zae,Zaf,Zag,Zak,Zal,Zam,Zao,Zap,Zaz,Za0,Za1,Za2,Za3,Za4,Za5,Za6,Za7,Zrh,Za8,Za9,Zba,Zbb,Zbc,Zbd,Zbf,Zbt,Zbu,Zbv,Zbw,Zb1,Zb9,Zci,Zcn,Zcv,Zcx,Zcz,Zc3,Zc4,Zc7,Zc8,Zc9,Zdf,Zdg,Zdh,Zdj,Zdk,Zdo,Zdp,Zdt,Zdu,Zdv,Zdw,Zdx,Zdy,Zdz,Zd0,Zd1,Zd2,Zd6,Zeb,Zec,Zek,Zen,Zeq,Zet,Zev,Zew,Zex,Zez,Ze0,Ze1,Ze2,Ze3,Ze5,Ze8,Zfc,Zfd,Zfe,Zfh,Zfi,Zfj,Zfk,Zfl,Zfn,Zfr,Zfz,Zf0,Zf1,Zf3,Zgr,Zgs,Zgt,Zgv,Zgw,Zgx,Zg4,Zg5,Zhd,Zhe,Zhf,Zhg,Zhh,Zhm,Zhn,Zho,Zhs,Zht,Zhu,Zh6,Zh7,Zin,Zio,Zip,Ziq,Zir,Ziu,Ziv,Ziw,Zi6,Zi7,Zjb,Zjh,Zji,Zjn,Zjr,Zj2,Zj7,Zla,Zlb,Zle,Zlf,Zlh,Zll,Zlm,Zls,Zlz,Zmt,Zmv,Zmw,Zmx,Zmy,Zmz,Zm0,Zm1,Zm3,Zm5,Zm6,Zm9,Zna,Znb,Zne,Znf,Zng,Znh,Znn,Zno,Znp,Zns,Znu,Zn5,Zof,Zog,Zrd,Zos,Zot,Zo3,Zo6,Zo7,Zo8,Zo9,Zpb,Zpg,Zpv,Zp7,Zp9,Zqd,Zqe,List.length_drop,eq_self,true_and,and_true,Nat.mul_one,zF_fc,fc_0,fc_17,fc_18,fc_19,fc_20,fc_53,fc_54,fc_55,fs_0,fs_17,fs_18,fs_19,fs_20,fs_53,fs_54,fs_55,fp_1,fp_21,fp_f,rb_1,rb_21,rb_0,fc_len,fc_ok,fc_id,fc_rs,v16,v32,cB_cells,h8',g7,g8]
    tactic =>
    and_intros <;> try (first | omega | rfl | assumption | simp only [IN]; omega)
    refine endA ?_
    simp only [fr, zFm]
    sym =>
    simp [Zaa,Zab,Zac,Zad,Zae,Zaf,Zag,Zak,Zal,Zam,Zao,Zap,Zaz,Za0,Za1,Za2,Za3,Za4,Za5,Za6,Za7,Zrh,Za8,Za9,Zba,Zbb,Zbc,Zbd,Zbf,Zbt,Zbu,Zbv,Zbw,Zb1,Zb9,Zci,Zcn,Zcv,Zcx,Zcz,Zc3,Zc4,Zc7,Zc8,Zc9,Zdf,Zdg,Zdh,Zdj,Zdk,Zdo,Zdp,Zdt,Zdu,Zdv,Zdw,Zdx,Zdy,Zdz,Zd0,Zd1,Zd2,Zd6,Zeb,Zec,Zek,Zen,Zeq,Zet,Zev,Zew,Zex,Zez,Ze0,Ze1,Ze2,Ze3,Ze5,Ze8,Zfc,Zfd,Zfe,Zfh,Zfi,Zfj,Zfk,Zfl,Zfn,Zfr,Zfz,Zf0,Zf1,Zf3,Zgr,Zgs,Zgt,Zgv,Zgw,Zgx,Zg4,Zg5,Zhd,Zhe,Zhf,Zhg,Zhh,Zhm,Zhn,Zho,Zhs,Zht,Zhu,Zh6,Zh7,Zin,Zio,Zip,Ziq,Zir,Ziu,Ziv,Ziw,Zi6,Zi7,Zjb,Zjh,Zji,Zjn,Zjr,Zj2,Zj7,Zla,Zlb,Zle,Zlf,Zlh,Zll,Zlm,Zls,Zlz,Zmt,Zmv,Zmw,Zmx,Zmy,Zmz,Zm0,Zm1,Zm3,Zm5,Zm6,Zm9,Zna,Znb,Zne,Znf,Zng,Znh,Znn,Zno,Znp,Zns,Znu,Zn5,Zof,Zog,Zrd,Zos,Zot,Zo3,Zo6,Zo7,Zo8,Zo9,Zpb,Zpg,Zpv,Zp7,Zp9,Zqd,Zqe,List.length_drop,eq_self,true_and,and_true,Nat.mul_one,zF_fc,fc_0,fc_17,fc_18,fc_19,fc_20,fc_53,fc_54,fc_55,fs_0,fs_17,fs_18,fs_19,fs_20,fs_53,fs_54,fs_55,fp_1,fp_21,fp_f,rb_1,rb_21,rb_0,fc_len,fc_ok,fc_id,fc_rs,v16,v32,cB_cells]
    tactic =>
    exact ⟨rfl, rfl⟩
  rw [if_neg h8]
  have h8' : ¬ IN b.length < (9 : Int) := by simp only [IN]; omega
  have hx := of8 (byt8_take hb 8) 8 (by rw [List.length_take]; omega) (by decide)
  obtain ⟨x, hx0⟩ : ∃ x, x = ofN (b.take 8) 8 := ⟨_, rfl⟩
  obtain ⟨d, hd⟩ : ∃ d, d = b.drop 8 := ⟨_, rfl⟩
  have hdl : b.length - 8 = d.length := by rw [hd, List.length_drop]
  have hdc : List.drop 8 (cB b) = cB d := by rw [hd, cB_drop]
  have hda := cB_all d
  have htc : List.take 8 (cB b) = cB (b.take 8) := (cB_take _ _).symm
  have h8l : 8 ≤ b.length := by omega
  obtain ⟨F, hF⟩ : ∃ F, F = ff3 t es er b := ⟨_, rfl⟩
  rw [← hF]
  unfold ff3 at hF
  rw [← hd, ← hx0] at hF
  rw [← hx0] at hx
  have hf := rmay_con F (by rw [hF]; exact Nat.zero_le _)
  simp only [fr] at hf
  obtain ⟨M, hM⟩ : ∃ q, q = mayF F := ⟨_, rfl⟩
  rw [← hM] at hf ⊢
  subst hF
  simp only [fr] at hf ⊢
  have h8l8 : List.length (cB (b.take 8)) = 8 := by rw [cB_length, List.length_take]; omega
  by_cases h9 : 9 < b.length
  · have h9' : IN b.length > (9 : Int) := by simp only [IN]; omega
    sym =>
    simp [Zaa,Zab,Zac,Zad,Zae,Zaf,Zag,Zak,Zal,Zam,Zao,Zap,Zaz,Za0,Za1,Za2,Za3,Za4,Za5,Za6,Za7,Zrh,Za8,Za9,Zba,Zbb,Zbc,Zbd,Zbf,Zbt,Zbu,Zbv,Zbw,Zb1,Zb9,Zci,Zcn,Zcv,Zcx,Zcz,Zc3,Zc4,Zc7,Zc8,Zc9,Zdf,Zdg,Zdh,Zdj,Zdk,Zdo,Zdp,Zdt,Zdu,Zdv,Zdw,Zdx,Zdy,Zdz,Zd0,Zd1,Zd2,Zd6,Zeb,Zec,Zek,Zen,Zeq,Zet,Zev,Zew,Zex,Zez,Ze0,Ze1,Ze2,Ze3,Ze5,Ze8,Zfc,Zfd,Zfe,Zfh,Zfi,Zfj,Zfk,Zfl,Zfn,Zfr,Zfz,Zf0,Zf1,Zf3,Zgr,Zgs,Zgt,Zgv,Zgw,Zgx,Zg4,Zg5,Zhd,Zhe,Zhf,Zhg,Zhh,Zhm,Zhn,Zho,Zhs,Zht,Zhu,Zh6,Zh7,Zin,Zio,Zip,Ziq,Zir,Ziu,Ziv,Ziw,Zi6,Zi7,Zjb,Zjh,Zji,Zjn,Zjr,Zj2,Zj7,Zla,Zlb,Zle,Zlf,Zlh,Zll,Zlm,Zls,Zlz,Zmt,Zmv,Zmw,Zmx,Zmy,Zmz,Zm0,Zm1,Zm3,Zm5,Zm6,Zm9,Zna,Znb,Zne,Znf,Zng,Znh,Znn,Zno,Znp,Zns,Znu,Zn5,Zof,Zog,Zrd,Zos,Zot,Zo3,Zo6,Zo7,Zo8,Zo9,Zpb,Zpg,Zpv,Zp7,Zp9,Zqd,Zqe,List.length_drop,eq_self,true_and,and_true,Nat.mul_one,zF_fc,fc_0,fc_17,fc_18,fc_19,fc_20,fc_53,fc_54,fc_55,fs_0,fs_17,fs_18,fs_19,fs_20,fs_53,fs_54,fs_55,fp_1,fp_21,fp_f,rb_1,rb_21,rb_0,fc_len,fc_ok,fc_id,fc_rs,v16,v32,cB_cells,h8',h9',g7,g8,hdl,hdc,hda,htc,h8l,callable_41]
    tactic =>
    and_intros <;> try (first | omega | rfl | assumption | simp only [IN]; omega)
    refine cl none (hx) trivial ?_
    sym =>
    simp [Zaa,Zab,Zac,Zad,Zae,Zaf,Zag,Zak,Zal,Zam,Zao,Zap,Zaz,Za0,Za1,Za2,Za3,Za4,Za5,Za6,Za7,Zrh,Za8,Za9,Zba,Zbb,Zbc,Zbd,Zbf,Zbt,Zbu,Zbv,Zbw,Zb1,Zb9,Zci,Zcn,Zcv,Zcx,Zcz,Zc3,Zc4,Zc7,Zc8,Zc9,Zdf,Zdg,Zdh,Zdj,Zdk,Zdo,Zdp,Zdt,Zdu,Zdv,Zdw,Zdx,Zdy,Zdz,Zd0,Zd1,Zd2,Zd6,Zeb,Zec,Zek,Zen,Zeq,Zet,Zev,Zew,Zex,Zez,Ze0,Ze1,Ze2,Ze3,Ze5,Ze8,Zfc,Zfd,Zfe,Zfh,Zfi,Zfj,Zfk,Zfl,Zfn,Zfr,Zfz,Zf0,Zf1,Zf3,Zgr,Zgs,Zgt,Zgv,Zgw,Zgx,Zg4,Zg5,Zhd,Zhe,Zhf,Zhg,Zhh,Zhm,Zhn,Zho,Zhs,Zht,Zhu,Zh6,Zh7,Zin,Zio,Zip,Ziq,Zir,Ziu,Ziv,Ziw,Zi6,Zi7,Zjb,Zjh,Zji,Zjn,Zjr,Zj2,Zj7,Zla,Zlb,Zle,Zlf,Zlh,Zll,Zlm,Zls,Zlz,Zmt,Zmv,Zmw,Zmx,Zmy,Zmz,Zm0,Zm1,Zm3,Zm5,Zm6,Zm9,Zna,Znb,Zne,Znf,Zng,Znh,Znn,Zno,Znp,Zns,Znu,Zn5,Zof,Zog,Zrd,Zos,Zot,Zo3,Zo6,Zo7,Zo8,Zo9,Zpb,Zpg,Zpv,Zp7,Zp9,Zqd,Zqe,List.length_drop,eq_self,true_and,and_true,Nat.mul_one,zF_fc,fc_0,fc_17,fc_18,fc_19,fc_20,fc_53,fc_54,fc_55,fs_0,fs_17,fs_18,fs_19,fs_20,fs_53,fs_54,fs_55,fp_1,fp_21,fp_f,rb_1,rb_21,rb_0,fc_len,fc_ok,fc_id,fc_rs,v16,v32,cB_cells,h8l,hdl,hdc,hda,fz_fc,fcF1,callable_27]
    tactic =>
    and_intros <;> try (first | omega | rfl | assumption | simp only [IN]; omega)
    refine cl none (hf) trivial ?_
    sym =>
    simp [Zaa,Zab,Zac,Zad,Zae,Zaf,Zag,Zak,Zal,Zam,Zao,Zap,Zaz,Za0,Za1,Za2,Za3,Za4,Za5,Za6,Za7,Zrh,Za8,Za9,Zba,Zbb,Zbc,Zbd,Zbf,Zbt,Zbu,Zbv,Zbw,Zb1,Zb9,Zci,Zcn,Zcv,Zcx,Zcz,Zc3,Zc4,Zc7,Zc8,Zc9,Zdf,Zdg,Zdh,Zdj,Zdk,Zdo,Zdp,Zdt,Zdu,Zdv,Zdw,Zdx,Zdy,Zdz,Zd0,Zd1,Zd2,Zd6,Zeb,Zec,Zek,Zen,Zeq,Zet,Zev,Zew,Zex,Zez,Ze0,Ze1,Ze2,Ze3,Ze5,Ze8,Zfc,Zfd,Zfe,Zfh,Zfi,Zfj,Zfk,Zfl,Zfn,Zfr,Zfz,Zf0,Zf1,Zf3,Zgr,Zgs,Zgt,Zgv,Zgw,Zgx,Zg4,Zg5,Zhd,Zhe,Zhf,Zhg,Zhh,Zhm,Zhn,Zho,Zhs,Zht,Zhu,Zh6,Zh7,Zin,Zio,Zip,Ziq,Zir,Ziu,Ziv,Ziw,Zi6,Zi7,Zjb,Zjh,Zji,Zjn,Zjr,Zj2,Zj7,Zla,Zlb,Zle,Zlf,Zlh,Zll,Zlm,Zls,Zlz,Zmt,Zmv,Zmw,Zmx,Zmy,Zmz,Zm0,Zm1,Zm3,Zm5,Zm6,Zm9,Zna,Znb,Zne,Znf,Zng,Znh,Znn,Zno,Znp,Zns,Znu,Zn5,Zof,Zog,Zrd,Zos,Zot,Zo3,Zo6,Zo7,Zo8,Zo9,Zpb,Zpg,Zpv,Zp7,Zp9,Zqd,Zqe,List.length_drop,eq_self,true_and,and_true,Nat.mul_one,zF_fc,fc_0,fc_17,fc_18,fc_19,fc_20,fc_53,fc_54,fc_55,fs_0,fs_17,fs_18,fs_19,fs_20,fs_53,fs_54,fs_55,fp_1,fp_21,fp_f,rb_1,rb_21,rb_0,fc_len,fc_ok,fc_id,fc_rs,v16,v32,cB_cells]
    tactic =>
    refine endA ?_
    sym =>
    simp [Zaa,Zab,Zac,Zad,Zae,Zaf,Zag,Zak,Zal,Zam,Zao,Zap,Zaz,Za0,Za1,Za2,Za3,Za4,Za5,Za6,Za7,Zrh,Za8,Za9,Zba,Zbb,Zbc,Zbd,Zbf,Zbt,Zbu,Zbv,Zbw,Zb1,Zb9,Zci,Zcn,Zcv,Zcx,Zcz,Zc3,Zc4,Zc7,Zc8,Zc9,Zdf,Zdg,Zdh,Zdj,Zdk,Zdo,Zdp,Zdt,Zdu,Zdv,Zdw,Zdx,Zdy,Zdz,Zd0,Zd1,Zd2,Zd6,Zeb,Zec,Zek,Zen,Zeq,Zet,Zev,Zew,Zex,Zez,Ze0,Ze1,Ze2,Ze3,Ze5,Ze8,Zfc,Zfd,Zfe,Zfh,Zfi,Zfj,Zfk,Zfl,Zfn,Zfr,Zfz,Zf0,Zf1,Zf3,Zgr,Zgs,Zgt,Zgv,Zgw,Zgx,Zg4,Zg5,Zhd,Zhe,Zhf,Zhg,Zhh,Zhm,Zhn,Zho,Zhs,Zht,Zhu,Zh6,Zh7,Zin,Zio,Zip,Ziq,Zir,Ziu,Ziv,Ziw,Zi6,Zi7,Zjb,Zjh,Zji,Zjn,Zjr,Zj2,Zj7,Zla,Zlb,Zle,Zlf,Zlh,Zll,Zlm,Zls,Zlz,Zmt,Zmv,Zmw,Zmx,Zmy,Zmz,Zm0,Zm1,Zm3,Zm5,Zm6,Zm9,Zna,Znb,Zne,Znf,Zng,Znh,Znn,Zno,Znp,Zns,Znu,Zn5,Zof,Zog,Zrd,Zos,Zot,Zo3,Zo6,Zo7,Zo8,Zo9,Zpb,Zpg,Zpv,Zp7,Zp9,Zqd,Zqe,List.length_drop,eq_self,true_and,and_true,Nat.mul_one,zF_fc,fc_0,fc_17,fc_18,fc_19,fc_20,fc_53,fc_54,fc_55,fs_0,fs_17,fs_18,fs_19,fs_20,fs_53,fs_54,fs_55,fp_1,fp_21,fp_f,rb_1,rb_21,rb_0,fc_len,fc_ok,fc_id,fc_rs,v16,v32,cB_cells]
    tactic =>
    rfl
  · have h9' : ¬ IN b.length > (9 : Int) := by simp only [IN]; omega
    sym =>
    simp [Zaa,Zab,Zac,Zad,Zae,Zaf,Zag,Zak,Zal,Zam,Zao,Zap,Zaz,Za0,Za1,Za2,Za3,Za4,Za5,Za6,Za7,Zrh,Za8,Za9,Zba,Zbb,Zbc,Zbd,Zbf,Zbt,Zbu,Zbv,Zbw,Zb1,Zb9,Zci,Zcn,Zcv,Zcx,Zcz,Zc3,Zc4,Zc7,Zc8,Zc9,Zdf,Zdg,Zdh,Zdj,Zdk,Zdo,Zdp,Zdt,Zdu,Zdv,Zdw,Zdx,Zdy,Zdz,Zd0,Zd1,Zd2,Zd6,Zeb,Zec,Zek,Zen,Zeq,Zet,Zev,Zew,Zex,Zez,Ze0,Ze1,Ze2,Ze3,Ze5,Ze8,Zfc,Zfd,Zfe,Zfh,Zfi,Zfj,Zfk,Zfl,Zfn,Zfr,Zfz,Zf0,Zf1,Zf3,Zgr,Zgs,Zgt,Zgv,Zgw,Zgx,Zg4,Zg5,Zhd,Zhe,Zhf,Zhg,Zhh,Zhm,Zhn,Zho,Zhs,Zht,Zhu,Zh6,Zh7,Zin,Zio,Zip,Ziq,Zir,Ziu,Ziv,Ziw,Zi6,Zi7,Zjb,Zjh,Zji,Zjn,Zjr,Zj2,Zj7,Zla,Zlb,Zle,Zlf,Zlh,Zll,Zlm,Zls,Zlz,Zmt,Zmv,Zmw,Zmx,Zmy,Zmz,Zm0,Zm1,Zm3,Zm5,Zm6,Zm9,Zna,Znb,Zne,Znf,Zng,Znh,Znn,Zno,Znp,Zns,Znu,Zn5,Zof,Zog,Zrd,Zos,Zot,Zo3,Zo6,Zo7,Zo8,Zo9,Zpb,Zpg,Zpv,Zp7,Zp9,Zqd,Zqe,List.length_drop,eq_self,true_and,and_true,Nat.mul_one,zF_fc,fc_0,fc_17,fc_18,fc_19,fc_20,fc_53,fc_54,fc_55,fs_0,fs_17,fs_18,fs_19,fs_20,fs_53,fs_54,fs_55,fp_1,fp_21,fp_f,rb_1,rb_21,rb_0,fc_len,fc_ok,fc_id,fc_rs,v16,v32,cB_cells,h8',h9',g7,g8,hdl,hdc,hda,htc,h8l,callable_41]
    tactic =>
    and_intros <;> try (first | omega | rfl | assumption | simp only [IN]; omega)
    refine cl none (hx) trivial ?_
    sym =>
    simp [Zaa,Zab,Zac,Zad,Zae,Zaf,Zag,Zak,Zal,Zam,Zao,Zap,Zaz,Za0,Za1,Za2,Za3,Za4,Za5,Za6,Za7,Zrh,Za8,Za9,Zba,Zbb,Zbc,Zbd,Zbf,Zbt,Zbu,Zbv,Zbw,Zb1,Zb9,Zci,Zcn,Zcv,Zcx,Zcz,Zc3,Zc4,Zc7,Zc8,Zc9,Zdf,Zdg,Zdh,Zdj,Zdk,Zdo,Zdp,Zdt,Zdu,Zdv,Zdw,Zdx,Zdy,Zdz,Zd0,Zd1,Zd2,Zd6,Zeb,Zec,Zek,Zen,Zeq,Zet,Zev,Zew,Zex,Zez,Ze0,Ze1,Ze2,Ze3,Ze5,Ze8,Zfc,Zfd,Zfe,Zfh,Zfi,Zfj,Zfk,Zfl,Zfn,Zfr,Zfz,Zf0,Zf1,Zf3,Zgr,Zgs,Zgt,Zgv,Zgw,Zgx,Zg4,Zg5,Zhd,Zhe,Zhf,Zhg,Zhh,Zhm,Zhn,Zho,Zhs,Zht,Zhu,Zh6,Zh7,Zin,Zio,Zip,Ziq,Zir,Ziu,Ziv,Ziw,Zi6,Zi7,Zjb,Zjh,Zji,Zjn,Zjr,Zj2,Zj7,Zla,Zlb,Zle,Zlf,Zlh,Zll,Zlm,Zls,Zlz,Zmt,Zmv,Zmw,Zmx,Zmy,Zmz,Zm0,Zm1,Zm3,Zm5,Zm6,Zm9,Zna,Znb,Zne,Znf,Zng,Znh,Znn,Zno,Znp,Zns,Znu,Zn5,Zof,Zog,Zrd,Zos,Zot,Zo3,Zo6,Zo7,Zo8,Zo9,Zpb,Zpg,Zpv,Zp7,Zp9,Zqd,Zqe,List.length_drop,eq_self,true_and,and_true,Nat.mul_one,zF_fc,fc_0,fc_17,fc_18,fc_19,fc_20,fc_53,fc_54,fc_55,fs_0,fs_17,fs_18,fs_19,fs_20,fs_53,fs_54,fs_55,fp_1,fp_21,fp_f,rb_1,rb_21,rb_0,fc_len,fc_ok,fc_id,fc_rs,v16,v32,cB_cells,h8l,hdl,hdc,hda,fz_fc,fcF1,callable_27]
    tactic =>
    and_intros <;> try (first | omega | rfl | assumption | simp only [IN]; omega)
    refine cl none (hf) trivial ?_
    sym =>
    simp [Zaa,Zab,Zac,Zad,Zae,Zaf,Zag,Zak,Zal,Zam,Zao,Zap,Zaz,Za0,Za1,Za2,Za3,Za4,Za5,Za6,Za7,Zrh,Za8,Za9,Zba,Zbb,Zbc,Zbd,Zbf,Zbt,Zbu,Zbv,Zbw,Zb1,Zb9,Zci,Zcn,Zcv,Zcx,Zcz,Zc3,Zc4,Zc7,Zc8,Zc9,Zdf,Zdg,Zdh,Zdj,Zdk,Zdo,Zdp,Zdt,Zdu,Zdv,Zdw,Zdx,Zdy,Zdz,Zd0,Zd1,Zd2,Zd6,Zeb,Zec,Zek,Zen,Zeq,Zet,Zev,Zew,Zex,Zez,Ze0,Ze1,Ze2,Ze3,Ze5,Ze8,Zfc,Zfd,Zfe,Zfh,Zfi,Zfj,Zfk,Zfl,Zfn,Zfr,Zfz,Zf0,Zf1,Zf3,Zgr,Zgs,Zgt,Zgv,Zgw,Zgx,Zg4,Zg5,Zhd,Zhe,Zhf,Zhg,Zhh,Zhm,Zhn,Zho,Zhs,Zht,Zhu,Zh6,Zh7,Zin,Zio,Zip,Ziq,Zir,Ziu,Ziv,Ziw,Zi6,Zi7,Zjb,Zjh,Zji,Zjn,Zjr,Zj2,Zj7,Zla,Zlb,Zle,Zlf,Zlh,Zll,Zlm,Zls,Zlz,Zmt,Zmv,Zmw,Zmx,Zmy,Zmz,Zm0,Zm1,Zm3,Zm5,Zm6,Zm9,Zna,Znb,Zne,Znf,Zng,Znh,Znn,Zno,Znp,Zns,Znu,Zn5,Zof,Zog,Zrd,Zos,Zot,Zo3,Zo6,Zo7,Zo8,Zo9,Zpb,Zpg,Zpv,Zp7,Zp9,Zqd,Zqe,List.length_drop,eq_self,true_and,and_true,Nat.mul_one,zF_fc,fc_0,fc_17,fc_18,fc_19,fc_20,fc_53,fc_54,fc_55,fs_0,fs_17,fs_18,fs_19,fs_20,fs_53,fs_54,fs_55,fp_1,fp_21,fp_f,rb_1,rb_21,rb_0,fc_len,fc_ok,fc_id,fc_rs,v16,v32,cB_cells]
    tactic =>
    refine endA ?_
    sym =>
    simp [Zaa,Zab,Zac,Zad,Zae,Zaf,Zag,Zak,Zal,Zam,Zao,Zap,Zaz,Za0,Za1,Za2,Za3,Za4,Za5,Za6,Za7,Zrh,Za8,Za9,Zba,Zbb,Zbc,Zbd,Zbf,Zbt,Zbu,Zbv,Zbw,Zb1,Zb9,Zci,Zcn,Zcv,Zcx,Zcz,Zc3,Zc4,Zc7,Zc8,Zc9,Zdf,Zdg,Zdh,Zdj,Zdk,Zdo,Zdp,Zdt,Zdu,Zdv,Zdw,Zdx,Zdy,Zdz,Zd0,Zd1,Zd2,Zd6,Zeb,Zec,Zek,Zen,Zeq,Zet,Zev,Zew,Zex,Zez,Ze0,Ze1,Ze2,Ze3,Ze5,Ze8,Zfc,Zfd,Zfe,Zfh,Zfi,Zfj,Zfk,Zfl,Zfn,Zfr,Zfz,Zf0,Zf1,Zf3,Zgr,Zgs,Zgt,Zgv,Zgw,Zgx,Zg4,Zg5,Zhd,Zhe,Zhf,Zhg,Zhh,Zhm,Zhn,Zho,Zhs,Zht,Zhu,Zh6,Zh7,Zin,Zio,Zip,Ziq,Zir,Ziu,Ziv,Ziw,Zi6,Zi7,Zjb,Zjh,Zji,Zjn,Zjr,Zj2,Zj7,Zla,Zlb,Zle,Zlf,Zlh,Zll,Zlm,Zls,Zlz,Zmt,Zmv,Zmw,Zmx,Zmy,Zmz,Zm0,Zm1,Zm3,Zm5,Zm6,Zm9,Zna,Znb,Zne,Znf,Zng,Znh,Znn,Zno,Znp,Zns,Znu,Zn5,Zof,Zog,Zrd,Zos,Zot,Zo3,Zo6,Zo7,Zo8,Zo9,Zpb,Zpg,Zpv,Zp7,Zp9,Zqd,Zqe,List.length_drop,eq_self,true_and,and_true,Nat.mul_one,zF_fc,fc_0,fc_17,fc_18,fc_19,fc_20,fc_53,fc_54,fc_55,fs_0,fs_17,fs_18,fs_19,fs_20,fs_53,fs_54,fs_55,fp_1,fp_21,fp_f,rb_1,rb_21,rb_0,fc_len,fc_ok,fc_id,fc_rs,v16,v32,cB_cells]
    tactic =>
    rfl
theorem rfields4 (t : V 16) (es er : Int) (b : List Int) (hb : byt8 b) (hl : b.length ≤ 5000) : Con Try.prog 42 [] [.ag (fc 4 t es er 0 0 z32 .nl .nl 0), fB b] [] (.tu [.ag (fr (fdE 4 t es er b).1), I (fdE 4 t es er b).2]) := by
  have g7 : IntKind.i64.wrap (3 : Int) = 3 := by decide
  have g8 : (3 : Int).toNat = 3 := rfl
  rw [fdE4]
  refine con_j b42 rfl ?_
  by_cases h8 : b.length < 8
  · rw [if_pos h8]
    have h8' : IN b.length < (8 : Int) := by simp only [IN]; omega
    sym =>
    simp [Zaa,Zab,Zac,Zad,Zae,Zaf,Zag,Zah,Zai,Zak,Zal,Zam,Zan,Zao,Zap,Zaq,Zav,Zaw,Zay,Zaz,Za0,Za1,Za2,Za3,Za4,Za5,Za6,Za7,Zrh,Za8,Za9,Zba,Zbb,Zbc,Zbd,Zbf,Zbg,Zbt,Zbu,Zbv,Zbw,Zb1,Zb9,Zca,Zch,Zci,Zcn,Zcv,Zcx,Zcz,Zc0,Zc3,Zc4,Zc6,Zc7,Zc8,Zc9,Zdc,Zdd,Zde,Zdf,Zdg,Zdh,Zdi,Zdj,Zdk,Zdo,Zdp,Zdt,Zdu,Zdv,Zdw,Zdx,Zdy,Zdz,Zd0,Zd1,Zd2,Zd3,Zd6,Zeb,Zeh,Zei,Zek,Zen,Zeq,Zer,Zes,Zet,Zev,Zew,Zex,Zez,Ze0,Ze1,Ze2,Ze3,Ze4,Ze5,Ze8,Zfb,Zfc,Zfd,Zfe,Zff,Zfg,Zfh,Zfi,Zfj,Zfk,Zfl,Zfn,Zfq,Zfr,Zfu,Zfz,Zf0,Zf1,Zf3,Zgr,Zgs,Zgt,Zgv,Zgw,Zgx,Zg4,Zg5,Zhd,Zhe,Zhf,Zhg,Zhh,Zhm,Zhn,Zho,Zhs,Zht,Zhu,Zh6,Zh7,Zin,Zio,Zip,Ziq,Zir,Ziu,Ziv,Ziw,Zix,Ziz,Zi0,Zi2,Zi3,Zi6,Zi7,Zje,Zjg,Zjh,Zji,Zjj,Zjk,Zjn,Zjo,Zjr,Zj2,Zkl,Zla,Zlb,Zle,Zlf,Zlh,Zll,Zls,Zlv,Zlx,Zlz,Zmt,Zmv,Zmw,Zmx,Zmy,Zmz,Zm0,Zm1,Zm3,Zm5,Zm6,Zm9,Zna,Znb,Znc,Znd,Zne,Znf,Zng,Znh,Znl,Znm,Znn,Zno,Znp,Znr,Zns,Znt,Znu,Znw,Zn5,Zoa,Zof,Zog,Zrd,Zos,Zot,Zo3,Zo4,Zo6,Zo7,Zo8,Zo9,Zpb,Zpc,Zpd,Zpi,Zpm,Zpp,Zpu,Zpv,Zpy,Zp1,Zp2,Zp7,Zp9,Zqd,Zqe,Zqf,Zqg,Zqh,Zqi,Zqj,Zqk,Zql,Zqm,Zqn,List.length_drop,eq_self,true_and,and_true,Nat.zero_add,Nat.mul_one,zF_fc,fc_0,fc_17,fc_18,fc_19,fc_20,fc_53,fc_54,fc_55,fs_0,fs_17,fs_18,fs_19,fs_20,fs_53,fs_54,fs_55,fp_1,fp_21,fp_f,rb_1,rb_21,rb_0,fc_len,fc_ok,fc_id,fc_rs,v16,v32,cB_cells,h8',g7,g8]
    tactic =>
    and_intros <;> try (first | omega | rfl | assumption | simp only [IN]; omega)
    refine endA ?_
    simp only [fr, zFm]
    sym =>
    simp [Zaa,Zab,Zac,Zad,Zae,Zaf,Zag,Zah,Zai,Zak,Zal,Zam,Zan,Zao,Zap,Zaq,Zav,Zaw,Zay,Zaz,Za0,Za1,Za2,Za3,Za4,Za5,Za6,Za7,Zrh,Za8,Za9,Zba,Zbb,Zbc,Zbd,Zbf,Zbg,Zbt,Zbu,Zbv,Zbw,Zb1,Zb9,Zca,Zch,Zci,Zcn,Zcv,Zcx,Zcz,Zc0,Zc3,Zc4,Zc6,Zc7,Zc8,Zc9,Zdc,Zdd,Zde,Zdf,Zdg,Zdh,Zdi,Zdj,Zdk,Zdo,Zdp,Zdt,Zdu,Zdv,Zdw,Zdx,Zdy,Zdz,Zd0,Zd1,Zd2,Zd3,Zd6,Zeb,Zeh,Zei,Zek,Zen,Zeq,Zer,Zes,Zet,Zev,Zew,Zex,Zez,Ze0,Ze1,Ze2,Ze3,Ze4,Ze5,Ze8,Zfb,Zfc,Zfd,Zfe,Zff,Zfg,Zfh,Zfi,Zfj,Zfk,Zfl,Zfn,Zfq,Zfr,Zfu,Zfz,Zf0,Zf1,Zf3,Zgr,Zgs,Zgt,Zgv,Zgw,Zgx,Zg4,Zg5,Zhd,Zhe,Zhf,Zhg,Zhh,Zhm,Zhn,Zho,Zhs,Zht,Zhu,Zh6,Zh7,Zin,Zio,Zip,Ziq,Zir,Ziu,Ziv,Ziw,Zix,Ziz,Zi0,Zi2,Zi3,Zi6,Zi7,Zje,Zjg,Zjh,Zji,Zjj,Zjk,Zjn,Zjo,Zjr,Zj2,Zkl,Zla,Zlb,Zle,Zlf,Zlh,Zll,Zls,Zlv,Zlx,Zlz,Zmt,Zmv,Zmw,Zmx,Zmy,Zmz,Zm0,Zm1,Zm3,Zm5,Zm6,Zm9,Zna,Znb,Znc,Znd,Zne,Znf,Zng,Znh,Znl,Znm,Znn,Zno,Znp,Znr,Zns,Znt,Znu,Znw,Zn5,Zoa,Zof,Zog,Zrd,Zos,Zot,Zo3,Zo4,Zo6,Zo7,Zo8,Zo9,Zpb,Zpc,Zpd,Zpi,Zpm,Zpp,Zpu,Zpv,Zpy,Zp1,Zp2,Zp7,Zp9,Zqd,Zqe,Zqf,Zqg,Zqh,Zqi,Zqj,Zqk,Zql,Zqm,Zqn,List.length_drop,eq_self,true_and,and_true,Nat.zero_add,Nat.mul_one,zF_fc,fc_0,fc_17,fc_18,fc_19,fc_20,fc_53,fc_54,fc_55,fs_0,fs_17,fs_18,fs_19,fs_20,fs_53,fs_54,fs_55,fp_1,fp_21,fp_f,rb_1,rb_21,rb_0,fc_len,fc_ok,fc_id,fc_rs,v16,v32,cB_cells]
    tactic =>
    exact ⟨rfl, rfl⟩
  rw [if_neg h8]
  have h8' : ¬ IN b.length < (8 : Int) := by simp only [IN]; omega
  by_cases h16 : b.length % 16 = 8
  rotate_left
  · rw [if_neg h16]
    have h16' : ¬ (IN b.length).tmod (16 : Int) = 8 := by simp only [IN]; rw [Int.tmod_eq_emod_of_nonneg (by omega)]; omega
    sym =>
    simp [Zaa,Zab,Zac,Zad,Zae,Zaf,Zag,Zah,Zai,Zak,Zal,Zam,Zan,Zao,Zap,Zaq,Zav,Zaw,Zay,Zaz,Za0,Za1,Za2,Za3,Za4,Za5,Za6,Za7,Zrh,Za8,Za9,Zba,Zbb,Zbc,Zbd,Zbf,Zbg,Zbt,Zbu,Zbv,Zbw,Zb1,Zb9,Zca,Zch,Zci,Zcn,Zcv,Zcx,Zcz,Zc0,Zc3,Zc4,Zc6,Zc7,Zc8,Zc9,Zdc,Zdd,Zde,Zdf,Zdg,Zdh,Zdi,Zdj,Zdk,Zdo,Zdp,Zdt,Zdu,Zdv,Zdw,Zdx,Zdy,Zdz,Zd0,Zd1,Zd2,Zd3,Zd6,Zeb,Zeh,Zei,Zek,Zen,Zeq,Zer,Zes,Zet,Zev,Zew,Zex,Zez,Ze0,Ze1,Ze2,Ze3,Ze4,Ze5,Ze8,Zfb,Zfc,Zfd,Zfe,Zff,Zfg,Zfh,Zfi,Zfj,Zfk,Zfl,Zfn,Zfq,Zfr,Zfu,Zfz,Zf0,Zf1,Zf3,Zgr,Zgs,Zgt,Zgv,Zgw,Zgx,Zg4,Zg5,Zhd,Zhe,Zhf,Zhg,Zhh,Zhm,Zhn,Zho,Zhs,Zht,Zhu,Zh6,Zh7,Zin,Zio,Zip,Ziq,Zir,Ziu,Ziv,Ziw,Zix,Ziz,Zi0,Zi2,Zi3,Zi6,Zi7,Zje,Zjg,Zjh,Zji,Zjj,Zjk,Zjn,Zjo,Zjr,Zj2,Zkl,Zla,Zlb,Zle,Zlf,Zlh,Zll,Zls,Zlv,Zlx,Zlz,Zmt,Zmv,Zmw,Zmx,Zmy,Zmz,Zm0,Zm1,Zm3,Zm5,Zm6,Zm9,Zna,Znb,Znc,Znd,Zne,Znf,Zng,Znh,Znl,Znm,Znn,Zno,Znp,Znr,Zns,Znt,Znu,Znw,Zn5,Zoa,Zof,Zog,Zrd,Zos,Zot,Zo3,Zo4,Zo6,Zo7,Zo8,Zo9,Zpb,Zpc,Zpd,Zpi,Zpm,Zpp,Zpu,Zpv,Zpy,Zp1,Zp2,Zp7,Zp9,Zqd,Zqe,Zqf,Zqg,Zqh,Zqi,Zqj,Zqk,Zql,Zqm,Zqn,List.length_drop,eq_self,true_and,and_true,Nat.zero_add,Nat.mul_one,zF_fc,fc_0,fc_17,fc_18,fc_19,fc_20,fc_53,fc_54,fc_55,fs_0,fs_17,fs_18,fs_19,fs_20,fs_53,fs_54,fs_55,fp_1,fp_21,fp_f,rb_1,rb_21,rb_0,fc_len,fc_ok,fc_id,fc_rs,v16,v32,cB_cells,h8',h16',g7,g8]
    tactic =>
    and_intros <;> try (first | omega | rfl | assumption | simp only [IN]; omega)
    refine endA ?_
    simp only [fr, zFm]
    sym =>
    simp [Zaa,Zab,Zac,Zad,Zae,Zaf,Zag,Zah,Zai,Zak,Zal,Zam,Zan,Zao,Zap,Zaq,Zav,Zaw,Zay,Zaz,Za0,Za1,Za2,Za3,Za4,Za5,Za6,Za7,Zrh,Za8,Za9,Zba,Zbb,Zbc,Zbd,Zbf,Zbg,Zbt,Zbu,Zbv,Zbw,Zb1,Zb9,Zca,Zch,Zci,Zcn,Zcv,Zcx,Zcz,Zc0,Zc3,Zc4,Zc6,Zc7,Zc8,Zc9,Zdc,Zdd,Zde,Zdf,Zdg,Zdh,Zdi,Zdj,Zdk,Zdo,Zdp,Zdt,Zdu,Zdv,Zdw,Zdx,Zdy,Zdz,Zd0,Zd1,Zd2,Zd3,Zd6,Zeb,Zeh,Zei,Zek,Zen,Zeq,Zer,Zes,Zet,Zev,Zew,Zex,Zez,Ze0,Ze1,Ze2,Ze3,Ze4,Ze5,Ze8,Zfb,Zfc,Zfd,Zfe,Zff,Zfg,Zfh,Zfi,Zfj,Zfk,Zfl,Zfn,Zfq,Zfr,Zfu,Zfz,Zf0,Zf1,Zf3,Zgr,Zgs,Zgt,Zgv,Zgw,Zgx,Zg4,Zg5,Zhd,Zhe,Zhf,Zhg,Zhh,Zhm,Zhn,Zho,Zhs,Zht,Zhu,Zh6,Zh7,Zin,Zio,Zip,Ziq,Zir,Ziu,Ziv,Ziw,Zix,Ziz,Zi0,Zi2,Zi3,Zi6,Zi7,Zje,Zjg,Zjh,Zji,Zjj,Zjk,Zjn,Zjo,Zjr,Zj2,Zkl,Zla,Zlb,Zle,Zlf,Zlh,Zll,Zls,Zlv,Zlx,Zlz,Zmt,Zmv,Zmw,Zmx,Zmy,Zmz,Zm0,Zm1,Zm3,Zm5,Zm6,Zm9,Zna,Znb,Znc,Znd,Zne,Znf,Zng,Znh,Znl,Znm,Znn,Zno,Znp,Znr,Zns,Znt,Znu,Znw,Zn5,Zoa,Zof,Zog,Zrd,Zos,Zot,Zo3,Zo4,Zo6,Zo7,Zo8,Zo9,Zpb,Zpc,Zpd,Zpi,Zpm,Zpp,Zpu,Zpv,Zpy,Zp1,Zp2,Zp7,Zp9,Zqd,Zqe,Zqf,Zqg,Zqh,Zqi,Zqj,Zqk,Zql,Zqm,Zqn,List.length_drop,eq_self,true_and,and_true,Nat.zero_add,Nat.mul_one,zF_fc,fc_0,fc_17,fc_18,fc_19,fc_20,fc_53,fc_54,fc_55,fs_0,fs_17,fs_18,fs_19,fs_20,fs_53,fs_54,fs_55,fp_1,fp_21,fp_f,rb_1,rb_21,rb_0,fc_len,fc_ok,fc_id,fc_rs,v16,v32,cB_cells]
    tactic =>
    exact ⟨rfl, rfl⟩
  rw [if_pos h16]
  have h16' : (IN b.length).tmod (16 : Int) = 8 := by simp only [IN]; rw [Int.tmod_eq_emod_of_nonneg (by omega)]; omega
  have hx := of8 (byt8_take hb 8) 8 (by rw [List.length_take]; omega) (by decide)
  obtain ⟨x, hx0⟩ : ∃ x, x = ofN (b.take 8) 8 := ⟨_, rfl⟩
  have htc : List.take 8 (cB b) = cB (b.take 8) := (cB_take _ _).symm
  have h8l : 8 ≤ b.length := by omega
  obtain ⟨N, hN⟩ : ∃ N, N = (b.length - 8) / 16 := ⟨_, rfl⟩
  have hNl : b.length = 8 + 16 * N := by omega
  obtain ⟨F, hF⟩ : ∃ F, F = ff4 t es er b := ⟨_, rfl⟩
  rw [← hF]
  unfold ff4 at hF
  rw [← hx0, ← hN] at hF
  rw [← hx0] at hx
  have hf := rmay_con F (by rw [hF]; show (rgN b 8 N).length ≤ _; rw [rgN_length]; omega)
  have hq := cB_length b
  simp only [fr] at hf
  obtain ⟨M, hM⟩ : ∃ q, q = mayF F := ⟨_, rfl⟩
  rw [← hM] at hf ⊢
  subst hF
  simp only [fr] at hf ⊢
  by_cases h9 : 8 < b.length
  · have h9' : IN b.length > (8 : Int) := by simp only [IN]; omega
    sym =>
    simp [Zaa,Zab,Zac,Zad,Zae,Zaf,Zag,Zah,Zai,Zak,Zal,Zam,Zan,Zao,Zap,Zaq,Zav,Zaw,Zay,Zaz,Za0,Za1,Za2,Za3,Za4,Za5,Za6,Za7,Zrh,Za8,Za9,Zba,Zbb,Zbc,Zbd,Zbf,Zbg,Zbt,Zbu,Zbv,Zbw,Zb1,Zb9,Zca,Zch,Zci,Zcn,Zcv,Zcx,Zcz,Zc0,Zc3,Zc4,Zc6,Zc7,Zc8,Zc9,Zdc,Zdd,Zde,Zdf,Zdg,Zdh,Zdi,Zdj,Zdk,Zdo,Zdp,Zdt,Zdu,Zdv,Zdw,Zdx,Zdy,Zdz,Zd0,Zd1,Zd2,Zd3,Zd6,Zeb,Zeh,Zei,Zek,Zen,Zeq,Zer,Zes,Zet,Zev,Zew,Zex,Zez,Ze0,Ze1,Ze2,Ze3,Ze4,Ze5,Ze8,Zfb,Zfc,Zfd,Zfe,Zff,Zfg,Zfh,Zfi,Zfj,Zfk,Zfl,Zfn,Zfq,Zfr,Zfu,Zfz,Zf0,Zf1,Zf3,Zgr,Zgs,Zgt,Zgv,Zgw,Zgx,Zg4,Zg5,Zhd,Zhe,Zhf,Zhg,Zhh,Zhm,Zhn,Zho,Zhs,Zht,Zhu,Zh6,Zh7,Zin,Zio,Zip,Ziq,Zir,Ziu,Ziv,Ziw,Zix,Ziz,Zi0,Zi2,Zi3,Zi6,Zi7,Zje,Zjg,Zjh,Zji,Zjj,Zjk,Zjn,Zjo,Zjr,Zj2,Zkl,Zla,Zlb,Zle,Zlf,Zlh,Zll,Zls,Zlv,Zlx,Zlz,Zmt,Zmv,Zmw,Zmx,Zmy,Zmz,Zm0,Zm1,Zm3,Zm5,Zm6,Zm9,Zna,Znb,Znc,Znd,Zne,Znf,Zng,Znh,Znl,Znm,Znn,Zno,Znp,Znr,Zns,Znt,Znu,Znw,Zn5,Zoa,Zof,Zog,Zrd,Zos,Zot,Zo3,Zo4,Zo6,Zo7,Zo8,Zo9,Zpb,Zpc,Zpd,Zpi,Zpm,Zpp,Zpu,Zpv,Zpy,Zp1,Zp2,Zp7,Zp9,Zqd,Zqe,Zqf,Zqg,Zqh,Zqi,Zqj,Zqk,Zql,Zqm,Zqn,List.length_drop,eq_self,true_and,and_true,Nat.zero_add,Nat.mul_one,zF_fc,fc_0,fc_17,fc_18,fc_19,fc_20,fc_53,fc_54,fc_55,fs_0,fs_17,fs_18,fs_19,fs_20,fs_53,fs_54,fs_55,fp_1,fp_21,fp_f,rb_1,rb_21,rb_0,fc_len,fc_ok,fc_id,fc_rs,v16,v32,cB_cells,h8',h9',h16',g7,g8,htc,h8l,callable_41]
    tactic =>
    and_intros <;> try (first | omega | rfl | assumption | simp only [IN]; omega)
    refine cl none (hx) trivial ?_
    sym =>
    simp [Zaa,Zab,Zac,Zad,Zae,Zaf,Zag,Zah,Zai,Zak,Zal,Zam,Zan,Zao,Zap,Zaq,Zav,Zaw,Zay,Zaz,Za0,Za1,Za2,Za3,Za4,Za5,Za6,Za7,Zrh,Za8,Za9,Zba,Zbb,Zbc,Zbd,Zbf,Zbg,Zbt,Zbu,Zbv,Zbw,Zb1,Zb9,Zca,Zch,Zci,Zcn,Zcv,Zcx,Zcz,Zc0,Zc3,Zc4,Zc6,Zc7,Zc8,Zc9,Zdc,Zdd,Zde,Zdf,Zdg,Zdh,Zdi,Zdj,Zdk,Zdo,Zdp,Zdt,Zdu,Zdv,Zdw,Zdx,Zdy,Zdz,Zd0,Zd1,Zd2,Zd3,Zd6,Zeb,Zeh,Zei,Zek,Zen,Zeq,Zer,Zes,Zet,Zev,Zew,Zex,Zez,Ze0,Ze1,Ze2,Ze3,Ze4,Ze5,Ze8,Zfb,Zfc,Zfd,Zfe,Zff,Zfg,Zfh,Zfi,Zfj,Zfk,Zfl,Zfn,Zfq,Zfr,Zfu,Zfz,Zf0,Zf1,Zf3,Zgr,Zgs,Zgt,Zgv,Zgw,Zgx,Zg4,Zg5,Zhd,Zhe,Zhf,Zhg,Zhh,Zhm,Zhn,Zho,Zhs,Zht,Zhu,Zh6,Zh7,Zin,Zio,Zip,Ziq,Zir,Ziu,Ziv,Ziw,Zix,Ziz,Zi0,Zi2,Zi3,Zi6,Zi7,Zje,Zjg,Zjh,Zji,Zjj,Zjk,Zjn,Zjo,Zjr,Zj2,Zkl,Zla,Zlb,Zle,Zlf,Zlh,Zll,Zls,Zlv,Zlx,Zlz,Zmt,Zmv,Zmw,Zmx,Zmy,Zmz,Zm0,Zm1,Zm3,Zm5,Zm6,Zm9,Zna,Znb,Znc,Znd,Zne,Znf,Zng,Znh,Znl,Znm,Znn,Zno,Znp,Znr,Zns,Znt,Znu,Znw,Zn5,Zoa,Zof,Zog,Zrd,Zos,Zot,Zo3,Zo4,Zo6,Zo7,Zo8,Zo9,Zpb,Zpc,Zpd,Zpi,Zpm,Zpp,Zpu,Zpv,Zpy,Zp1,Zp2,Zp7,Zp9,Zqd,Zqe,Zqf,Zqg,Zqh,Zqi,Zqj,Zqk,Zql,Zqm,Zqn,List.length_drop,eq_self,true_and,and_true,Nat.zero_add,Nat.mul_one,zF_fc,fc_0,fc_17,fc_18,fc_19,fc_20,fc_53,fc_54,fc_55,fs_0,fs_17,fs_18,fs_19,fs_20,fs_53,fs_54,fs_55,fp_1,fp_21,fp_f,rb_1,rb_21,rb_0,fc_len,fc_ok,fc_id,fc_rs,v16,v32,cB_cells]
    tactic =>
    refine lpA (j42 b t es er x N) N [(0, 0), (1, 1)] _ ⟨0, by omega, rfl⟩ (wkA ?_) ?_
    · sym =>
      simp [Zaa,Zab,Zac,Zad,Zae,Zaf,Zag,Zah,Zai,Zak,Zal,Zam,Zan,Zao,Zap,Zaq,Zav,Zaw,Zay,Zaz,Za0,Za1,Za2,Za3,Za4,Za5,Za6,Za7,Zrh,Za8,Za9,Zba,Zbb,Zbc,Zbd,Zbf,Zbg,Zbt,Zbu,Zbv,Zbw,Zb1,Zb9,Zca,Zch,Zci,Zcn,Zcv,Zcx,Zcz,Zc0,Zc3,Zc4,Zc6,Zc7,Zc8,Zc9,Zdc,Zdd,Zde,Zdf,Zdg,Zdh,Zdi,Zdj,Zdk,Zdo,Zdp,Zdt,Zdu,Zdv,Zdw,Zdx,Zdy,Zdz,Zd0,Zd1,Zd2,Zd3,Zd6,Zeb,Zeh,Zei,Zek,Zen,Zeq,Zer,Zes,Zet,Zev,Zew,Zex,Zez,Ze0,Ze1,Ze2,Ze3,Ze4,Ze5,Ze8,Zfb,Zfc,Zfd,Zfe,Zff,Zfg,Zfh,Zfi,Zfj,Zfk,Zfl,Zfn,Zfq,Zfr,Zfu,Zfz,Zf0,Zf1,Zf3,Zgr,Zgs,Zgt,Zgv,Zgw,Zgx,Zg4,Zg5,Zhd,Zhe,Zhf,Zhg,Zhh,Zhm,Zhn,Zho,Zhs,Zht,Zhu,Zh6,Zh7,Zin,Zio,Zip,Ziq,Zir,Ziu,Ziv,Ziw,Zix,Ziz,Zi0,Zi2,Zi3,Zi6,Zi7,Zje,Zjg,Zjh,Zji,Zjj,Zjk,Zjn,Zjo,Zjr,Zj2,Zkl,Zla,Zlb,Zle,Zlf,Zlh,Zll,Zls,Zlv,Zlx,Zlz,Zmt,Zmv,Zmw,Zmx,Zmy,Zmz,Zm0,Zm1,Zm3,Zm5,Zm6,Zm9,Zna,Znb,Znc,Znd,Zne,Znf,Zng,Znh,Znl,Znm,Znn,Zno,Znp,Znr,Zns,Znt,Znu,Znw,Zn5,Zoa,Zof,Zog,Zrd,Zos,Zot,Zo3,Zo4,Zo6,Zo7,Zo8,Zo9,Zpb,Zpc,Zpd,Zpi,Zpm,Zpp,Zpu,Zpv,Zpy,Zp1,Zp2,Zp7,Zp9,Zqd,Zqe,Zqf,Zqg,Zqh,Zqi,Zqj,Zqk,Zql,Zqm,Zqn,List.length_drop,eq_self,true_and,and_true,Nat.zero_add,Nat.mul_one,zF_fc,fc_0,fc_17,fc_18,fc_19,fc_20,fc_53,fc_54,fc_55,fs_0,fs_17,fs_18,fs_19,fs_20,fs_53,fs_54,fs_55,fp_1,fp_21,fp_f,rb_1,rb_21,rb_0,fc_len,fc_ok,fc_id,fc_rs,v16,v32,cB_cells]
      tactic =>
      rfl
    rintro kk st ⟨i, hi, rfl⟩
    by_cases h : i < N
    · have hn := rgN_snoc b i 8
      obtain ⟨j, hj⟩ : ∃ j, j = 8 + 16 * i := ⟨_, rfl⟩
      have hj2 : 8 + 16 * (i + 1) = j + 16 := by omega
      rw [← hj] at hn ⊢
      have hlt : j < b.length := by omega
      have hw8 : IntKind.i64.wrap (IN j + (8 : Int)) = IN (j + 8) := w64a _ 8 (by omega)
      have hw16 : IntKind.i64.wrap (IN j + (16 : Int)) = IN (j + 16) := w64a _ 16 (by omega)
      have hs1 : List.take 8 (List.drop j (cB b)) = cB ((b.drop j).take 8) := by rw [cB_take, cB_drop]
      have hs2 : List.take 8 (List.drop (j + 8) (cB b)) = cB ((b.drop (j + 8)).take 8) := by rw [cB_take, cB_drop]
      have hx1 := of8 (byt8_take (byt8_drop hb j) 8) 8 (by rw [List.length_take, List.length_drop]; omega) (by decide)
      have hx2 := of8 (byt8_take (byt8_drop hb (j + 8)) 8) 8 (by rw [List.length_take, List.length_drop]; omega) (by decide)
      have e1 : j + 8 - j = 8 := by omega
      have e2 : j + 16 - (j + 8) = 8 := by omega
      have hg1 : rg1 b j = (ofN ((b.drop j).take 8) 8, ofN ((b.drop (j + 8)).take 8) 8) := rfl
      obtain ⟨x1, hx10⟩ : ∃ x, x = ofN ((b.drop j).take 8) 8 := ⟨_, rfl⟩
      obtain ⟨x2, hx20⟩ : ∃ x, x = ofN ((b.drop (j + 8)).take 8) 8 := ⟨_, rfl⟩
      rw [← hx10, ← hx20] at hg1
      rw [← hx10] at hx1
      rw [← hx20] at hx2
      rw [hg1] at hn
      sym =>
      simp [Zaa,Zab,Zac,Zad,Zae,Zaf,Zag,Zah,Zai,Zak,Zal,Zam,Zan,Zao,Zap,Zaq,Zav,Zaw,Zay,Zaz,Za0,Za1,Za2,Za3,Za4,Za5,Za6,Za7,Zrh,Za8,Za9,Zba,Zbb,Zbc,Zbd,Zbf,Zbg,Zbt,Zbu,Zbv,Zbw,Zb1,Zb9,Zca,Zch,Zci,Zcn,Zcv,Zcx,Zcz,Zc0,Zc3,Zc4,Zc6,Zc7,Zc8,Zc9,Zdc,Zdd,Zde,Zdf,Zdg,Zdh,Zdi,Zdj,Zdk,Zdo,Zdp,Zdt,Zdu,Zdv,Zdw,Zdx,Zdy,Zdz,Zd0,Zd1,Zd2,Zd3,Zd6,Zeb,Zeh,Zei,Zek,Zen,Zeq,Zer,Zes,Zet,Zev,Zew,Zex,Zez,Ze0,Ze1,Ze2,Ze3,Ze4,Ze5,Ze8,Zfb,Zfc,Zfd,Zfe,Zff,Zfg,Zfh,Zfi,Zfj,Zfk,Zfl,Zfn,Zfq,Zfr,Zfu,Zfz,Zf0,Zf1,Zf3,Zgr,Zgs,Zgt,Zgv,Zgw,Zgx,Zg4,Zg5,Zhd,Zhe,Zhf,Zhg,Zhh,Zhm,Zhn,Zho,Zhs,Zht,Zhu,Zh6,Zh7,Zin,Zio,Zip,Ziq,Zir,Ziu,Ziv,Ziw,Zix,Ziz,Zi0,Zi2,Zi3,Zi6,Zi7,Zje,Zjg,Zjh,Zji,Zjj,Zjk,Zjn,Zjo,Zjr,Zj2,Zkl,Zla,Zlb,Zle,Zlf,Zlh,Zll,Zls,Zlv,Zlx,Zlz,Zmt,Zmv,Zmw,Zmx,Zmy,Zmz,Zm0,Zm1,Zm3,Zm5,Zm6,Zm9,Zna,Znb,Znc,Znd,Zne,Znf,Zng,Znh,Znl,Znm,Znn,Zno,Znp,Znr,Zns,Znt,Znu,Znw,Zn5,Zoa,Zof,Zog,Zrd,Zos,Zot,Zo3,Zo4,Zo6,Zo7,Zo8,Zo9,Zpb,Zpc,Zpd,Zpi,Zpm,Zpp,Zpu,Zpv,Zpy,Zp1,Zp2,Zp7,Zp9,Zqd,Zqe,Zqf,Zqg,Zqh,Zqi,Zqj,Zqk,Zql,Zqm,Zqn,List.length_drop,eq_self,true_and,and_true,Nat.zero_add,Nat.mul_one,zF_fc,fc_0,fc_17,fc_18,fc_19,fc_20,fc_53,fc_54,fc_55,fs_0,fs_17,fs_18,fs_19,fs_20,fs_53,fs_54,fs_55,fp_1,fp_21,fp_f,rb_1,rb_21,rb_0,fc_len,fc_ok,fc_id,fc_rs,v16,v32,cB_cells,hw8,hw16,hs1,hs2,hlt,e1,e2,cR_cells,cR_length,rgN_length,callable_41]
      tactic =>
      and_intros <;> try (first | omega | rfl | assumption | simp only [IN]; omega)
      refine cl none (hx1) trivial ?_
      sym =>
      simp [Zaa,Zab,Zac,Zad,Zae,Zaf,Zag,Zah,Zai,Zak,Zal,Zam,Zan,Zao,Zap,Zaq,Zav,Zaw,Zay,Zaz,Za0,Za1,Za2,Za3,Za4,Za5,Za6,Za7,Zrh,Za8,Za9,Zba,Zbb,Zbc,Zbd,Zbf,Zbg,Zbt,Zbu,Zbv,Zbw,Zb1,Zb9,Zca,Zch,Zci,Zcn,Zcv,Zcx,Zcz,Zc0,Zc3,Zc4,Zc6,Zc7,Zc8,Zc9,Zdc,Zdd,Zde,Zdf,Zdg,Zdh,Zdi,Zdj,Zdk,Zdo,Zdp,Zdt,Zdu,Zdv,Zdw,Zdx,Zdy,Zdz,Zd0,Zd1,Zd2,Zd3,Zd6,Zeb,Zeh,Zei,Zek,Zen,Zeq,Zer,Zes,Zet,Zev,Zew,Zex,Zez,Ze0,Ze1,Ze2,Ze3,Ze4,Ze5,Ze8,Zfb,Zfc,Zfd,Zfe,Zff,Zfg,Zfh,Zfi,Zfj,Zfk,Zfl,Zfn,Zfq,Zfr,Zfu,Zfz,Zf0,Zf1,Zf3,Zgr,Zgs,Zgt,Zgv,Zgw,Zgx,Zg4,Zg5,Zhd,Zhe,Zhf,Zhg,Zhh,Zhm,Zhn,Zho,Zhs,Zht,Zhu,Zh6,Zh7,Zin,Zio,Zip,Ziq,Zir,Ziu,Ziv,Ziw,Zix,Ziz,Zi0,Zi2,Zi3,Zi6,Zi7,Zje,Zjg,Zjh,Zji,Zjj,Zjk,Zjn,Zjo,Zjr,Zj2,Zkl,Zla,Zlb,Zle,Zlf,Zlh,Zll,Zls,Zlv,Zlx,Zlz,Zmt,Zmv,Zmw,Zmx,Zmy,Zmz,Zm0,Zm1,Zm3,Zm5,Zm6,Zm9,Zna,Znb,Znc,Znd,Zne,Znf,Zng,Znh,Znl,Znm,Znn,Zno,Znp,Znr,Zns,Znt,Znu,Znw,Zn5,Zoa,Zof,Zog,Zrd,Zos,Zot,Zo3,Zo4,Zo6,Zo7,Zo8,Zo9,Zpb,Zpc,Zpd,Zpi,Zpm,Zpp,Zpu,Zpv,Zpy,Zp1,Zp2,Zp7,Zp9,Zqd,Zqe,Zqf,Zqg,Zqh,Zqi,Zqj,Zqk,Zql,Zqm,Zqn,List.length_drop,eq_self,true_and,and_true,Nat.zero_add,Nat.mul_one,zF_fc,fc_0,fc_17,fc_18,fc_19,fc_20,fc_53,fc_54,fc_55,fs_0,fs_17,fs_18,fs_19,fs_20,fs_53,fs_54,fs_55,fp_1,fp_21,fp_f,rb_1,rb_21,rb_0,fc_len,fc_ok,fc_id,fc_rs,v16,v32,cB_cells,hw8,hw16,hs1,hs2,hlt,e1,e2,cR_cells,cR_length,rgN_length,callable_41]
      tactic =>
      and_intros <;> try (first | omega | rfl | assumption | simp only [IN]; omega)
      refine cl none (hx2) trivial ?_
      sym =>
      simp [Zaa,Zab,Zac,Zad,Zae,Zaf,Zag,Zah,Zai,Zak,Zal,Zam,Zan,Zao,Zap,Zaq,Zav,Zaw,Zay,Zaz,Za0,Za1,Za2,Za3,Za4,Za5,Za6,Za7,Zrh,Za8,Za9,Zba,Zbb,Zbc,Zbd,Zbf,Zbg,Zbt,Zbu,Zbv,Zbw,Zb1,Zb9,Zca,Zch,Zci,Zcn,Zcv,Zcx,Zcz,Zc0,Zc3,Zc4,Zc6,Zc7,Zc8,Zc9,Zdc,Zdd,Zde,Zdf,Zdg,Zdh,Zdi,Zdj,Zdk,Zdo,Zdp,Zdt,Zdu,Zdv,Zdw,Zdx,Zdy,Zdz,Zd0,Zd1,Zd2,Zd3,Zd6,Zeb,Zeh,Zei,Zek,Zen,Zeq,Zer,Zes,Zet,Zev,Zew,Zex,Zez,Ze0,Ze1,Ze2,Ze3,Ze4,Ze5,Ze8,Zfb,Zfc,Zfd,Zfe,Zff,Zfg,Zfh,Zfi,Zfj,Zfk,Zfl,Zfn,Zfq,Zfr,Zfu,Zfz,Zf0,Zf1,Zf3,Zgr,Zgs,Zgt,Zgv,Zgw,Zgx,Zg4,Zg5,Zhd,Zhe,Zhf,Zhg,Zhh,Zhm,Zhn,Zho,Zhs,Zht,Zhu,Zh6,Zh7,Zin,Zio,Zip,Ziq,Zir,Ziu,Ziv,Ziw,Zix,Ziz,Zi0,Zi2,Zi3,Zi6,Zi7,Zje,Zjg,Zjh,Zji,Zjj,Zjk,Zjn,Zjo,Zjr,Zj2,Zkl,Zla,Zlb,Zle,Zlf,Zlh,Zll,Zls,Zlv,Zlx,Zlz,Zmt,Zmv,Zmw,Zmx,Zmy,Zmz,Zm0,Zm1,Zm3,Zm5,Zm6,Zm9,Zna,Znb,Znc,Znd,Zne,Znf,Zng,Znh,Znl,Znm,Znn,Zno,Znp,Znr,Zns,Znt,Znu,Znw,Zn5,Zoa,Zof,Zog,Zrd,Zos,Zot,Zo3,Zo4,Zo6,Zo7,Zo8,Zo9,Zpb,Zpc,Zpd,Zpi,Zpm,Zpp,Zpu,Zpv,Zpy,Zp1,Zp2,Zp7,Zp9,Zqd,Zqe,Zqf,Zqg,Zqh,Zqi,Zqj,Zqk,Zql,Zqm,Zqn,List.length_drop,eq_self,true_and,and_true,Nat.zero_add,Nat.mul_one,zF_fc,fc_0,fc_17,fc_18,fc_19,fc_20,fc_53,fc_54,fc_55,fs_0,fs_17,fs_18,fs_19,fs_20,fs_53,fs_54,fs_55,fp_1,fp_21,fp_f,rb_1,rb_21,rb_0,fc_len,fc_ok,fc_id,fc_rs,v16,v32,cB_cells,hw8,hw16,hlt,cR_cells,cR_length,rgN_length]
      tactic =>
      refine ⟨⟨by omega, by omega, by omega⟩, ?_⟩
      have hcr := cR_okI (rgN b 8 (i + 1))
      unfold NextL; refine ⟨(kk - 1), [(0, 0), (1, 1), (2, 24)], _, by omega, ⟨i + 1, by omega, rfl⟩, wkA ?_⟩
      rw [hj2]
      rw [hn, cR_snoc] at hcr ⊢
      sym =>
      simp [Zaa,Zab,Zac,Zad,Zae,Zaf,Zag,Zah,Zai,Zak,Zal,Zam,Zan,Zao,Zap,Zaq,Zav,Zaw,Zay,Zaz,Za0,Za1,Za2,Za3,Za4,Za5,Za6,Za7,Zrh,Za8,Za9,Zba,Zbb,Zbc,Zbd,Zbf,Zbg,Zbt,Zbu,Zbv,Zbw,Zb1,Zb9,Zca,Zch,Zci,Zcn,Zcv,Zcx,Zcz,Zc0,Zc3,Zc4,Zc6,Zc7,Zc8,Zc9,Zdc,Zdd,Zde,Zdf,Zdg,Zdh,Zdi,Zdj,Zdk,Zdo,Zdp,Zdt,Zdu,Zdv,Zdw,Zdx,Zdy,Zdz,Zd0,Zd1,Zd2,Zd3,Zd6,Zeb,Zeh,Zei,Zek,Zen,Zeq,Zer,Zes,Zet,Zev,Zew,Zex,Zez,Ze0,Ze1,Ze2,Ze3,Ze4,Ze5,Ze8,Zfb,Zfc,Zfd,Zfe,Zff,Zfg,Zfh,Zfi,Zfj,Zfk,Zfl,Zfn,Zfq,Zfr,Zfu,Zfz,Zf0,Zf1,Zf3,Zgr,Zgs,Zgt,Zgv,Zgw,Zgx,Zg4,Zg5,Zhd,Zhe,Zhf,Zhg,Zhh,Zhm,Zhn,Zho,Zhs,Zht,Zhu,Zh6,Zh7,Zin,Zio,Zip,Ziq,Zir,Ziu,Ziv,Ziw,Zix,Ziz,Zi0,Zi2,Zi3,Zi6,Zi7,Zje,Zjg,Zjh,Zji,Zjj,Zjk,Zjn,Zjo,Zjr,Zj2,Zkl,Zla,Zlb,Zle,Zlf,Zlh,Zll,Zls,Zlv,Zlx,Zlz,Zmt,Zmv,Zmw,Zmx,Zmy,Zmz,Zm0,Zm1,Zm3,Zm5,Zm6,Zm9,Zna,Znb,Znc,Znd,Zne,Znf,Zng,Znh,Znl,Znm,Znn,Zno,Znp,Znr,Zns,Znt,Znu,Znw,Zn5,Zoa,Zof,Zog,Zrd,Zos,Zot,Zo3,Zo4,Zo6,Zo7,Zo8,Zo9,Zpb,Zpc,Zpd,Zpi,Zpm,Zpp,Zpu,Zpv,Zpy,Zp1,Zp2,Zp7,Zp9,Zqd,Zqe,Zqf,Zqg,Zqh,Zqi,Zqj,Zqk,Zql,Zqm,Zqn,List.length_drop,eq_self,true_and,and_true,Nat.zero_add,Nat.mul_one,zF_fc,fc_0,fc_17,fc_18,fc_19,fc_20,fc_53,fc_54,fc_55,fs_0,fs_17,fs_18,fs_19,fs_20,fs_53,fs_54,fs_55,fp_1,fp_21,fp_f,rb_1,rb_21,rb_0,fc_len,fc_ok,fc_id,fc_rs,v16,v32,cB_cells]
      tactic =>
      exact rs_self hcr
    · have hlt : ¬ 8 + 16 * i < b.length := by omega
      obtain rfl : i = N := by omega
      have hta : List.take (i * 2) (cR (rgN b 8 i)) = cR (rgN b 8 i) := List.take_of_length_le (by rw [cR_length, rgN_length]; exact Nat.le_refl _)
      sym =>
      simp [Zaa,Zab,Zac,Zad,Zae,Zaf,Zag,Zah,Zai,Zak,Zal,Zam,Zan,Zao,Zap,Zaq,Zav,Zaw,Zay,Zaz,Za0,Za1,Za2,Za3,Za4,Za5,Za6,Za7,Zrh,Za8,Za9,Zba,Zbb,Zbc,Zbd,Zbf,Zbg,Zbt,Zbu,Zbv,Zbw,Zb1,Zb9,Zca,Zch,Zci,Zcn,Zcv,Zcx,Zcz,Zc0,Zc3,Zc4,Zc6,Zc7,Zc8,Zc9,Zdc,Zdd,Zde,Zdf,Zdg,Zdh,Zdi,Zdj,Zdk,Zdo,Zdp,Zdt,Zdu,Zdv,Zdw,Zdx,Zdy,Zdz,Zd0,Zd1,Zd2,Zd3,Zd6,Zeb,Zeh,Zei,Zek,Zen,Zeq,Zer,Zes,Zet,Zev,Zew,Zex,Zez,Ze0,Ze1,Ze2,Ze3,Ze4,Ze5,Ze8,Zfb,Zfc,Zfd,Zfe,Zff,Zfg,Zfh,Zfi,Zfj,Zfk,Zfl,Zfn,Zfq,Zfr,Zfu,Zfz,Zf0,Zf1,Zf3,Zgr,Zgs,Zgt,Zgv,Zgw,Zgx,Zg4,Zg5,Zhd,Zhe,Zhf,Zhg,Zhh,Zhm,Zhn,Zho,Zhs,Zht,Zhu,Zh6,Zh7,Zin,Zio,Zip,Ziq,Zir,Ziu,Ziv,Ziw,Zix,Ziz,Zi0,Zi2,Zi3,Zi6,Zi7,Zje,Zjg,Zjh,Zji,Zjj,Zjk,Zjn,Zjo,Zjr,Zj2,Zkl,Zla,Zlb,Zle,Zlf,Zlh,Zll,Zls,Zlv,Zlx,Zlz,Zmt,Zmv,Zmw,Zmx,Zmy,Zmz,Zm0,Zm1,Zm3,Zm5,Zm6,Zm9,Zna,Znb,Znc,Znd,Zne,Znf,Zng,Znh,Znl,Znm,Znn,Zno,Znp,Znr,Zns,Znt,Znu,Znw,Zn5,Zoa,Zof,Zog,Zrd,Zos,Zot,Zo3,Zo4,Zo6,Zo7,Zo8,Zo9,Zpb,Zpc,Zpd,Zpi,Zpm,Zpp,Zpu,Zpv,Zpy,Zp1,Zp2,Zp7,Zp9,Zqd,Zqe,Zqf,Zqg,Zqh,Zqi,Zqj,Zqk,Zql,Zqm,Zqn,List.length_drop,eq_self,true_and,and_true,Nat.zero_add,Nat.mul_one,zF_fc,fc_0,fc_17,fc_18,fc_19,fc_20,fc_53,fc_54,fc_55,fs_0,fs_17,fs_18,fs_19,fs_20,fs_53,fs_54,fs_55,fp_1,fp_21,fp_f,rb_1,rb_21,rb_0,fc_len,fc_ok,fc_id,fc_rs,v16,v32,cB_cells,hlt,hta,fz_fc,fcF1,cR_length,rgN_length,callable_27]
      tactic =>
      refine ⟨⟨Nat.le_refl _, cR_okI _⟩, ?_⟩
      rw [rgN_length] at hf
      refine cl none (hf) trivial ?_
      sym =>
      simp [Zaa,Zab,Zac,Zad,Zae,Zaf,Zag,Zah,Zai,Zak,Zal,Zam,Zan,Zao,Zap,Zaq,Zav,Zaw,Zay,Zaz,Za0,Za1,Za2,Za3,Za4,Za5,Za6,Za7,Zrh,Za8,Za9,Zba,Zbb,Zbc,Zbd,Zbf,Zbg,Zbt,Zbu,Zbv,Zbw,Zb1,Zb9,Zca,Zch,Zci,Zcn,Zcv,Zcx,Zcz,Zc0,Zc3,Zc4,Zc6,Zc7,Zc8,Zc9,Zdc,Zdd,Zde,Zdf,Zdg,Zdh,Zdi,Zdj,Zdk,Zdo,Zdp,Zdt,Zdu,Zdv,Zdw,Zdx,Zdy,Zdz,Zd0,Zd1,Zd2,Zd3,Zd6,Zeb,Zeh,Zei,Zek,Zen,Zeq,Zer,Zes,Zet,Zev,Zew,Zex,Zez,Ze0,Ze1,Ze2,Ze3,Ze4,Ze5,Ze8,Zfb,Zfc,Zfd,Zfe,Zff,Zfg,Zfh,Zfi,Zfj,Zfk,Zfl,Zfn,Zfq,Zfr,Zfu,Zfz,Zf0,Zf1,Zf3,Zgr,Zgs,Zgt,Zgv,Zgw,Zgx,Zg4,Zg5,Zhd,Zhe,Zhf,Zhg,Zhh,Zhm,Zhn,Zho,Zhs,Zht,Zhu,Zh6,Zh7,Zin,Zio,Zip,Ziq,Zir,Ziu,Ziv,Ziw,Zix,Ziz,Zi0,Zi2,Zi3,Zi6,Zi7,Zje,Zjg,Zjh,Zji,Zjj,Zjk,Zjn,Zjo,Zjr,Zj2,Zkl,Zla,Zlb,Zle,Zlf,Zlh,Zll,Zls,Zlv,Zlx,Zlz,Zmt,Zmv,Zmw,Zmx,Zmy,Zmz,Zm0,Zm1,Zm3,Zm5,Zm6,Zm9,Zna,Znb,Znc,Znd,Zne,Znf,Zng,Znh,Znl,Znm,Znn,Zno,Znp,Znr,Zns,Znt,Znu,Znw,Zn5,Zoa,Zof,Zog,Zrd,Zos,Zot,Zo3,Zo4,Zo6,Zo7,Zo8,Zo9,Zpb,Zpc,Zpd,Zpi,Zpm,Zpp,Zpu,Zpv,Zpy,Zp1,Zp2,Zp7,Zp9,Zqd,Zqe,Zqf,Zqg,Zqh,Zqi,Zqj,Zqk,Zql,Zqm,Zqn,List.length_drop,eq_self,true_and,and_true,Nat.zero_add,Nat.mul_one,zF_fc,fc_0,fc_17,fc_18,fc_19,fc_20,fc_53,fc_54,fc_55,fs_0,fs_17,fs_18,fs_19,fs_20,fs_53,fs_54,fs_55,fp_1,fp_21,fp_f,rb_1,rb_21,rb_0,fc_len,fc_ok,fc_id,fc_rs,v16,v32,cB_cells]
      tactic =>
      refine endA ?_
      sym =>
      simp [Zaa,Zab,Zac,Zad,Zae,Zaf,Zag,Zah,Zai,Zak,Zal,Zam,Zan,Zao,Zap,Zaq,Zav,Zaw,Zay,Zaz,Za0,Za1,Za2,Za3,Za4,Za5,Za6,Za7,Zrh,Za8,Za9,Zba,Zbb,Zbc,Zbd,Zbf,Zbg,Zbt,Zbu,Zbv,Zbw,Zb1,Zb9,Zca,Zch,Zci,Zcn,Zcv,Zcx,Zcz,Zc0,Zc3,Zc4,Zc6,Zc7,Zc8,Zc9,Zdc,Zdd,Zde,Zdf,Zdg,Zdh,Zdi,Zdj,Zdk,Zdo,Zdp,Zdt,Zdu,Zdv,Zdw,Zdx,Zdy,Zdz,Zd0,Zd1,Zd2,Zd3,Zd6,Zeb,Zeh,Zei,Zek,Zen,Zeq,Zer,Zes,Zet,Zev,Zew,Zex,Zez,Ze0,Ze1,Ze2,Ze3,Ze4,Ze5,Ze8,Zfb,Zfc,Zfd,Zfe,Zff,Zfg,Zfh,Zfi,Zfj,Zfk,Zfl,Zfn,Zfq,Zfr,Zfu,Zfz,Zf0,Zf1,Zf3,Zgr,Zgs,Zgt,Zgv,Zgw,Zgx,Zg4,Zg5,Zhd,Zhe,Zhf,Zhg,Zhh,Zhm,Zhn,Zho,Zhs,Zht,Zhu,Zh6,Zh7,Zin,Zio,Zip,Ziq,Zir,Ziu,Ziv,Ziw,Zix,Ziz,Zi0,Zi2,Zi3,Zi6,Zi7,Zje,Zjg,Zjh,Zji,Zjj,Zjk,Zjn,Zjo,Zjr,Zj2,Zkl,Zla,Zlb,Zle,Zlf,Zlh,Zll,Zls,Zlv,Zlx,Zlz,Zmt,Zmv,Zmw,Zmx,Zmy,Zmz,Zm0,Zm1,Zm3,Zm5,Zm6,Zm9,Zna,Znb,Znc,Znd,Zne,Znf,Zng,Znh,Znl,Znm,Znn,Zno,Znp,Znr,Zns,Znt,Znu,Znw,Zn5,Zoa,Zof,Zog,Zrd,Zos,Zot,Zo3,Zo4,Zo6,Zo7,Zo8,Zo9,Zpb,Zpc,Zpd,Zpi,Zpm,Zpp,Zpu,Zpv,Zpy,Zp1,Zp2,Zp7,Zp9,Zqd,Zqe,Zqf,Zqg,Zqh,Zqi,Zqj,Zqk,Zql,Zqm,Zqn,List.length_drop,eq_self,true_and,and_true,Nat.zero_add,Nat.mul_one,zF_fc,fc_0,fc_17,fc_18,fc_19,fc_20,fc_53,fc_54,fc_55,fs_0,fs_17,fs_18,fs_19,fs_20,fs_53,fs_54,fs_55,fp_1,fp_21,fp_f,rb_1,rb_21,rb_0,fc_len,fc_ok,fc_id,fc_rs,v16,v32,cB_cells,hta]
      tactic =>
      exact ⟨rfl, by rw [cR_length, rgN_length]; exact Nat.le_refl _, cR_okI _⟩
  · have h9' : ¬ IN b.length > (8 : Int) := by simp only [IN]; omega
    sym =>
    simp [Zaa,Zab,Zac,Zad,Zae,Zaf,Zag,Zah,Zai,Zak,Zal,Zam,Zan,Zao,Zap,Zaq,Zav,Zaw,Zay,Zaz,Za0,Za1,Za2,Za3,Za4,Za5,Za6,Za7,Zrh,Za8,Za9,Zba,Zbb,Zbc,Zbd,Zbf,Zbg,Zbt,Zbu,Zbv,Zbw,Zb1,Zb9,Zca,Zch,Zci,Zcn,Zcv,Zcx,Zcz,Zc0,Zc3,Zc4,Zc6,Zc7,Zc8,Zc9,Zdc,Zdd,Zde,Zdf,Zdg,Zdh,Zdi,Zdj,Zdk,Zdo,Zdp,Zdt,Zdu,Zdv,Zdw,Zdx,Zdy,Zdz,Zd0,Zd1,Zd2,Zd3,Zd6,Zeb,Zeh,Zei,Zek,Zen,Zeq,Zer,Zes,Zet,Zev,Zew,Zex,Zez,Ze0,Ze1,Ze2,Ze3,Ze4,Ze5,Ze8,Zfb,Zfc,Zfd,Zfe,Zff,Zfg,Zfh,Zfi,Zfj,Zfk,Zfl,Zfn,Zfq,Zfr,Zfu,Zfz,Zf0,Zf1,Zf3,Zgr,Zgs,Zgt,Zgv,Zgw,Zgx,Zg4,Zg5,Zhd,Zhe,Zhf,Zhg,Zhh,Zhm,Zhn,Zho,Zhs,Zht,Zhu,Zh6,Zh7,Zin,Zio,Zip,Ziq,Zir,Ziu,Ziv,Ziw,Zix,Ziz,Zi0,Zi2,Zi3,Zi6,Zi7,Zje,Zjg,Zjh,Zji,Zjj,Zjk,Zjn,Zjo,Zjr,Zj2,Zkl,Zla,Zlb,Zle,Zlf,Zlh,Zll,Zls,Zlv,Zlx,Zlz,Zmt,Zmv,Zmw,Zmx,Zmy,Zmz,Zm0,Zm1,Zm3,Zm5,Zm6,Zm9,Zna,Znb,Znc,Znd,Zne,Znf,Zng,Znh,Znl,Znm,Znn,Zno,Znp,Znr,Zns,Znt,Znu,Znw,Zn5,Zoa,Zof,Zog,Zrd,Zos,Zot,Zo3,Zo4,Zo6,Zo7,Zo8,Zo9,Zpb,Zpc,Zpd,Zpi,Zpm,Zpp,Zpu,Zpv,Zpy,Zp1,Zp2,Zp7,Zp9,Zqd,Zqe,Zqf,Zqg,Zqh,Zqi,Zqj,Zqk,Zql,Zqm,Zqn,List.length_drop,eq_self,true_and,and_true,Nat.zero_add,Nat.mul_one,zF_fc,fc_0,fc_17,fc_18,fc_19,fc_20,fc_53,fc_54,fc_55,fs_0,fs_17,fs_18,fs_19,fs_20,fs_53,fs_54,fs_55,fp_1,fp_21,fp_f,rb_1,rb_21,rb_0,fc_len,fc_ok,fc_id,fc_rs,v16,v32,cB_cells,h8',h9',h16',g7,g8,htc,h8l,callable_41]
    tactic =>
    and_intros <;> try (first | omega | rfl | assumption | simp only [IN]; omega)
    refine cl none (hx) trivial ?_
    sym =>
    simp [Zaa,Zab,Zac,Zad,Zae,Zaf,Zag,Zah,Zai,Zak,Zal,Zam,Zan,Zao,Zap,Zaq,Zav,Zaw,Zay,Zaz,Za0,Za1,Za2,Za3,Za4,Za5,Za6,Za7,Zrh,Za8,Za9,Zba,Zbb,Zbc,Zbd,Zbf,Zbg,Zbt,Zbu,Zbv,Zbw,Zb1,Zb9,Zca,Zch,Zci,Zcn,Zcv,Zcx,Zcz,Zc0,Zc3,Zc4,Zc6,Zc7,Zc8,Zc9,Zdc,Zdd,Zde,Zdf,Zdg,Zdh,Zdi,Zdj,Zdk,Zdo,Zdp,Zdt,Zdu,Zdv,Zdw,Zdx,Zdy,Zdz,Zd0,Zd1,Zd2,Zd3,Zd6,Zeb,Zeh,Zei,Zek,Zen,Zeq,Zer,Zes,Zet,Zev,Zew,Zex,Zez,Ze0,Ze1,Ze2,Ze3,Ze4,Ze5,Ze8,Zfb,Zfc,Zfd,Zfe,Zff,Zfg,Zfh,Zfi,Zfj,Zfk,Zfl,Zfn,Zfq,Zfr,Zfu,Zfz,Zf0,Zf1,Zf3,Zgr,Zgs,Zgt,Zgv,Zgw,Zgx,Zg4,Zg5,Zhd,Zhe,Zhf,Zhg,Zhh,Zhm,Zhn,Zho,Zhs,Zht,Zhu,Zh6,Zh7,Zin,Zio,Zip,Ziq,Zir,Ziu,Ziv,Ziw,Zix,Ziz,Zi0,Zi2,Zi3,Zi6,Zi7,Zje,Zjg,Zjh,Zji,Zjj,Zjk,Zjn,Zjo,Zjr,Zj2,Zkl,Zla,Zlb,Zle,Zlf,Zlh,Zll,Zls,Zlv,Zlx,Zlz,Zmt,Zmv,Zmw,Zmx,Zmy,Zmz,Zm0,Zm1,Zm3,Zm5,Zm6,Zm9,Zna,Znb,Znc,Znd,Zne,Znf,Zng,Znh,Znl,Znm,Znn,Zno,Znp,Znr,Zns,Znt,Znu,Znw,Zn5,Zoa,Zof,Zog,Zrd,Zos,Zot,Zo3,Zo4,Zo6,Zo7,Zo8,Zo9,Zpb,Zpc,Zpd,Zpi,Zpm,Zpp,Zpu,Zpv,Zpy,Zp1,Zp2,Zp7,Zp9,Zqd,Zqe,Zqf,Zqg,Zqh,Zqi,Zqj,Zqk,Zql,Zqm,Zqn,List.length_drop,eq_self,true_and,and_true,Nat.zero_add,Nat.mul_one,zF_fc,fc_0,fc_17,fc_18,fc_19,fc_20,fc_53,fc_54,fc_55,fs_0,fs_17,fs_18,fs_19,fs_20,fs_53,fs_54,fs_55,fp_1,fp_21,fp_f,rb_1,rb_21,rb_0,fc_len,fc_ok,fc_id,fc_rs,v16,v32,cB_cells]
    tactic =>
    refine lpA (j42 b t es er x N) N [(0, 0), (1, 1)] _ ⟨0, by omega, rfl⟩ (wkA ?_) ?_
    · sym =>
      simp [Zaa,Zab,Zac,Zad,Zae,Zaf,Zag,Zah,Zai,Zak,Zal,Zam,Zan,Zao,Zap,Zaq,Zav,Zaw,Zay,Zaz,Za0,Za1,Za2,Za3,Za4,Za5,Za6,Za7,Zrh,Za8,Za9,Zba,Zbb,Zbc,Zbd,Zbf,Zbg,Zbt,Zbu,Zbv,Zbw,Zb1,Zb9,Zca,Zch,Zci,Zcn,Zcv,Zcx,Zcz,Zc0,Zc3,Zc4,Zc6,Zc7,Zc8,Zc9,Zdc,Zdd,Zde,Zdf,Zdg,Zdh,Zdi,Zdj,Zdk,Zdo,Zdp,Zdt,Zdu,Zdv,Zdw,Zdx,Zdy,Zdz,Zd0,Zd1,Zd2,Zd3,Zd6,Zeb,Zeh,Zei,Zek,Zen,Zeq,Zer,Zes,Zet,Zev,Zew,Zex,Zez,Ze0,Ze1,Ze2,Ze3,Ze4,Ze5,Ze8,Zfb,Zfc,Zfd,Zfe,Zff,Zfg,Zfh,Zfi,Zfj,Zfk,Zfl,Zfn,Zfq,Zfr,Zfu,Zfz,Zf0,Zf1,Zf3,Zgr,Zgs,Zgt,Zgv,Zgw,Zgx,Zg4,Zg5,Zhd,Zhe,Zhf,Zhg,Zhh,Zhm,Zhn,Zho,Zhs,Zht,Zhu,Zh6,Zh7,Zin,Zio,Zip,Ziq,Zir,Ziu,Ziv,Ziw,Zix,Ziz,Zi0,Zi2,Zi3,Zi6,Zi7,Zje,Zjg,Zjh,Zji,Zjj,Zjk,Zjn,Zjo,Zjr,Zj2,Zkl,Zla,Zlb,Zle,Zlf,Zlh,Zll,Zls,Zlv,Zlx,Zlz,Zmt,Zmv,Zmw,Zmx,Zmy,Zmz,Zm0,Zm1,Zm3,Zm5,Zm6,Zm9,Zna,Znb,Znc,Znd,Zne,Znf,Zng,Znh,Znl,Znm,Znn,Zno,Znp,Znr,Zns,Znt,Znu,Znw,Zn5,Zoa,Zof,Zog,Zrd,Zos,Zot,Zo3,Zo4,Zo6,Zo7,Zo8,Zo9,Zpb,Zpc,Zpd,Zpi,Zpm,Zpp,Zpu,Zpv,Zpy,Zp1,Zp2,Zp7,Zp9,Zqd,Zqe,Zqf,Zqg,Zqh,Zqi,Zqj,Zqk,Zql,Zqm,Zqn,List.length_drop,eq_self,true_and,and_true,Nat.zero_add,Nat.mul_one,zF_fc,fc_0,fc_17,fc_18,fc_19,fc_20,fc_53,fc_54,fc_55,fs_0,fs_17,fs_18,fs_19,fs_20,fs_53,fs_54,fs_55,fp_1,fp_21,fp_f,rb_1,rb_21,rb_0,fc_len,fc_ok,fc_id,fc_rs,v16,v32,cB_cells]
      tactic =>
      rfl
    rintro kk st ⟨i, hi, rfl⟩
    by_cases h : i < N
    · exact absurd h (by omega)
    · have hlt : ¬ 8 + 16 * i < b.length := by omega
      obtain rfl : i = N := by omega
      have hta : List.take (i * 2) (cR (rgN b 8 i)) = cR (rgN b 8 i) := List.take_of_length_le (by rw [cR_length, rgN_length]; exact Nat.le_refl _)
      sym =>
      simp [Zaa,Zab,Zac,Zad,Zae,Zaf,Zag,Zah,Zai,Zak,Zal,Zam,Zan,Zao,Zap,Zaq,Zav,Zaw,Zay,Zaz,Za0,Za1,Za2,Za3,Za4,Za5,Za6,Za7,Zrh,Za8,Za9,Zba,Zbb,Zbc,Zbd,Zbf,Zbg,Zbt,Zbu,Zbv,Zbw,Zb1,Zb9,Zca,Zch,Zci,Zcn,Zcv,Zcx,Zcz,Zc0,Zc3,Zc4,Zc6,Zc7,Zc8,Zc9,Zdc,Zdd,Zde,Zdf,Zdg,Zdh,Zdi,Zdj,Zdk,Zdo,Zdp,Zdt,Zdu,Zdv,Zdw,Zdx,Zdy,Zdz,Zd0,Zd1,Zd2,Zd3,Zd6,Zeb,Zeh,Zei,Zek,Zen,Zeq,Zer,Zes,Zet,Zev,Zew,Zex,Zez,Ze0,Ze1,Ze2,Ze3,Ze4,Ze5,Ze8,Zfb,Zfc,Zfd,Zfe,Zff,Zfg,Zfh,Zfi,Zfj,Zfk,Zfl,Zfn,Zfq,Zfr,Zfu,Zfz,Zf0,Zf1,Zf3,Zgr,Zgs,Zgt,Zgv,Zgw,Zgx,Zg4,Zg5,Zhd,Zhe,Zhf,Zhg,Zhh,Zhm,Zhn,Zho,Zhs,Zht,Zhu,Zh6,Zh7,Zin,Zio,Zip,Ziq,Zir,Ziu,Ziv,Ziw,Zix,Ziz,Zi0,Zi2,Zi3,Zi6,Zi7,Zje,Zjg,Zjh,Zji,Zjj,Zjk,Zjn,Zjo,Zjr,Zj2,Zkl,Zla,Zlb,Zle,Zlf,Zlh,Zll,Zls,Zlv,Zlx,Zlz,Zmt,Zmv,Zmw,Zmx,Zmy,Zmz,Zm0,Zm1,Zm3,Zm5,Zm6,Zm9,Zna,Znb,Znc,Znd,Zne,Znf,Zng,Znh,Znl,Znm,Znn,Zno,Znp,Znr,Zns,Znt,Znu,Znw,Zn5,Zoa,Zof,Zog,Zrd,Zos,Zot,Zo3,Zo4,Zo6,Zo7,Zo8,Zo9,Zpb,Zpc,Zpd,Zpi,Zpm,Zpp,Zpu,Zpv,Zpy,Zp1,Zp2,Zp7,Zp9,Zqd,Zqe,Zqf,Zqg,Zqh,Zqi,Zqj,Zqk,Zql,Zqm,Zqn,List.length_drop,eq_self,true_and,and_true,Nat.zero_add,Nat.mul_one,zF_fc,fc_0,fc_17,fc_18,fc_19,fc_20,fc_53,fc_54,fc_55,fs_0,fs_17,fs_18,fs_19,fs_20,fs_53,fs_54,fs_55,fp_1,fp_21,fp_f,rb_1,rb_21,rb_0,fc_len,fc_ok,fc_id,fc_rs,v16,v32,cB_cells,hlt,hta,fz_fc,fcF1,cR_length,rgN_length,callable_27]
      tactic =>
      refine ⟨⟨Nat.le_refl _, cR_okI _⟩, ?_⟩
      rw [rgN_length] at hf
      refine cl none (hf) trivial ?_
      sym =>
      simp [Zaa,Zab,Zac,Zad,Zae,Zaf,Zag,Zah,Zai,Zak,Zal,Zam,Zan,Zao,Zap,Zaq,Zav,Zaw,Zay,Zaz,Za0,Za1,Za2,Za3,Za4,Za5,Za6,Za7,Zrh,Za8,Za9,Zba,Zbb,Zbc,Zbd,Zbf,Zbg,Zbt,Zbu,Zbv,Zbw,Zb1,Zb9,Zca,Zch,Zci,Zcn,Zcv,Zcx,Zcz,Zc0,Zc3,Zc4,Zc6,Zc7,Zc8,Zc9,Zdc,Zdd,Zde,Zdf,Zdg,Zdh,Zdi,Zdj,Zdk,Zdo,Zdp,Zdt,Zdu,Zdv,Zdw,Zdx,Zdy,Zdz,Zd0,Zd1,Zd2,Zd3,Zd6,Zeb,Zeh,Zei,Zek,Zen,Zeq,Zer,Zes,Zet,Zev,Zew,Zex,Zez,Ze0,Ze1,Ze2,Ze3,Ze4,Ze5,Ze8,Zfb,Zfc,Zfd,Zfe,Zff,Zfg,Zfh,Zfi,Zfj,Zfk,Zfl,Zfn,Zfq,Zfr,Zfu,Zfz,Zf0,Zf1,Zf3,Zgr,Zgs,Zgt,Zgv,Zgw,Zgx,Zg4,Zg5,Zhd,Zhe,Zhf,Zhg,Zhh,Zhm,Zhn,Zho,Zhs,Zht,Zhu,Zh6,Zh7,Zin,Zio,Zip,Ziq,Zir,Ziu,Ziv,Ziw,Zix,Ziz,Zi0,Zi2,Zi3,Zi6,Zi7,Zje,Zjg,Zjh,Zji,Zjj,Zjk,Zjn,Zjo,Zjr,Zj2,Zkl,Zla,Zlb,Zle,Zlf,Zlh,Zll,Zls,Zlv,Zlx,Zlz,Zmt,Zmv,Zmw,Zmx,Zmy,Zmz,Zm0,Zm1,Zm3,Zm5,Zm6,Zm9,Zna,Znb,Znc,Znd,Zne,Znf,Zng,Znh,Znl,Znm,Znn,Zno,Znp,Znr,Zns,Znt,Znu,Znw,Zn5,Zoa,Zof,Zog,Zrd,Zos,Zot,Zo3,Zo4,Zo6,Zo7,Zo8,Zo9,Zpb,Zpc,Zpd,Zpi,Zpm,Zpp,Zpu,Zpv,Zpy,Zp1,Zp2,Zp7,Zp9,Zqd,Zqe,Zqf,Zqg,Zqh,Zqi,Zqj,Zqk,Zql,Zqm,Zqn,List.length_drop,eq_self,true_and,and_true,Nat.zero_add,Nat.mul_one,zF_fc,fc_0,fc_17,fc_18,fc_19,fc_20,fc_53,fc_54,fc_55,fs_0,fs_17,fs_18,fs_19,fs_20,fs_53,fs_54,fs_55,fp_1,fp_21,fp_f,rb_1,rb_21,rb_0,fc_len,fc_ok,fc_id,fc_rs,v16,v32,cB_cells]
      tactic =>
      refine endA ?_
      sym =>
      simp [Zaa,Zab,Zac,Zad,Zae,Zaf,Zag,Zah,Zai,Zak,Zal,Zam,Zan,Zao,Zap,Zaq,Zav,Zaw,Zay,Zaz,Za0,Za1,Za2,Za3,Za4,Za5,Za6,Za7,Zrh,Za8,Za9,Zba,Zbb,Zbc,Zbd,Zbf,Zbg,Zbt,Zbu,Zbv,Zbw,Zb1,Zb9,Zca,Zch,Zci,Zcn,Zcv,Zcx,Zcz,Zc0,Zc3,Zc4,Zc6,Zc7,Zc8,Zc9,Zdc,Zdd,Zde,Zdf,Zdg,Zdh,Zdi,Zdj,Zdk,Zdo,Zdp,Zdt,Zdu,Zdv,Zdw,Zdx,Zdy,Zdz,Zd0,Zd1,Zd2,Zd3,Zd6,Zeb,Zeh,Zei,Zek,Zen,Zeq,Zer,Zes,Zet,Zev,Zew,Zex,Zez,Ze0,Ze1,Ze2,Ze3,Ze4,Ze5,Ze8,Zfb,Zfc,Zfd,Zfe,Zff,Zfg,Zfh,Zfi,Zfj,Zfk,Zfl,Zfn,Zfq,Zfr,Zfu,Zfz,Zf0,Zf1,Zf3,Zgr,Zgs,Zgt,Zgv,Zgw,Zgx,Zg4,Zg5,Zhd,Zhe,Zhf,Zhg,Zhh,Zhm,Zhn,Zho,Zhs,Zht,Zhu,Zh6,Zh7,Zin,Zio,Zip,Ziq,Zir,Ziu,Ziv,Ziw,Zix,Ziz,Zi0,Zi2,Zi3,Zi6,Zi7,Zje,Zjg,Zjh,Zji,Zjj,Zjk,Zjn,Zjo,Zjr,Zj2,Zkl,Zla,Zlb,Zle,Zlf,Zlh,Zll,Zls,Zlv,Zlx,Zlz,Zmt,Zmv,Zmw,Zmx,Zmy,Zmz,Zm0,Zm1,Zm3,Zm5,Zm6,Zm9,Zna,Znb,Znc,Znd,Zne,Znf,Zng,Znh,Znl,Znm,Znn,Zno,Znp,Znr,Zns,Znt,Znu,Znw,Zn5,Zoa,Zof,Zog,Zrd,Zos,Zot,Zo3,Zo4,Zo6,Zo7,Zo8,Zo9,Zpb,Zpc,Zpd,Zpi,Zpm,Zpp,Zpu,Zpv,Zpy,Zp1,Zp2,Zp7,Zp9,Zqd,Zqe,Zqf,Zqg,Zqh,Zqi,Zqj,Zqk,Zql,Zqm,Zqn,List.length_drop,eq_self,true_and,and_true,Nat.zero_add,Nat.mul_one,zF_fc,fc_0,fc_17,fc_18,fc_19,fc_20,fc_53,fc_54,fc_55,fs_0,fs_17,fs_18,fs_19,fs_20,fs_53,fs_54,fs_55,fp_1,fp_21,fp_f,rb_1,rb_21,rb_0,fc_len,fc_ok,fc_id,fc_rs,v16,v32,cB_cells,hta]
      tactic =>
      exact ⟨rfl, by rw [cR_length, rgN_length]; exact Nat.le_refl _, cR_okI _⟩
end Go.Proofs.Ythhccabdlajngaa.FrmS
