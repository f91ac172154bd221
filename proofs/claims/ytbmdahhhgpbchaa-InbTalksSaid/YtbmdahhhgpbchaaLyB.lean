import Derived.Test.YtbmdahhhgpbchaaLyA
namespace Go.Proofs.Ytbmdahhhgpbchaa.LyB
open Go Go.Sim Go.Sim.E Go.RowKit Go.Proofs Go.Proofs.Ytbmdahhhgpbchaa.Cod Go.Proofs.Ytbmdahhhgpbchaa.Tab Go.Proofs.Ytbmdahhhgpbchaa.Bse Go.Proofs.Ytbmdahhhgpbchaa.SpnP Go.Proofs.Ytbmdahhhgpbchaa.SwA Go.Proofs.Ytbmdahhhgpbchaa.SwB Go.Proofs.Ytbmdahhhgpbchaa.SwC Go.Proofs.Ytbmdahhhgpbchaa.SwS Go.Proofs.Ytbmdahhhgpbchaa.SwD Go.Proofs.Ytbmdahhhgpbchaa.SwF Go.Proofs.Ytbmdahhhgpbchaa.SwG Go.Proofs.Ytbmdahhhgpbchaa.SwL Go.Proofs.Ytbmdahhhgpbchaa.ObA Go.Proofs.Ytbmdahhhgpbchaa.ObB Go.Proofs.Ytbmdahhhgpbchaa.ObC Go.Proofs.Ytbmdahhhgpbchaa.SnA Go.Proofs.Ytbmdahhhgpbchaa.SnB Go.Proofs.Ytbmdahhhgpbchaa.LyA
set_option linter.unusedVariables false
set_option linter.unusedSimpArgs false
set_option maxRecDepth 100000
set_option maxHeartbeats 4000000
theorem rclone_con (l : List Rg) (hl : l.length ≤ 1000000) : Con Try.prog 127 [] [fQ l] [] (fQ l) := by
  refine con_j b127 rfl ?_
  sym =>
  simp [Zab,Zad,Zam,Zaz,Za0,Za1,Za2,Za3,Za4,Za5,Za9,Zba,Zbb,Zda,Zdb,Zev,Zew,Zez,Ze0,Ze2,Zfd,Zfe,Zfh,Zna,Znb,Zos,Zot,Zo7,eq_self,true_and]
  tactic =>
  refine nilQ (fun h => ?_) ?_
  · sym =>
    simp [Zab,Zad,Zae,Zaf,Zak,Zal,Zam,Zao,Zay,Zaz,Za0,Za1,Za2,Za3,Za4,Za5,Za9,Zba,Zbb,Zev,Zew,Zez,Ze0,Ze2,Zfd,Zfe,Zfh,Zmt,Zmv,Zmw,Zmx,Zmz,Zm2,Zna,Znb,Zo7,eq_self,true_and]
    tactic =>
    obtain rfl := List.length_eq_zero_iff.1 h
    refine endA ?_
    sym =>
    simp [Zna,Zpx,eq_self,true_and]
    tactic =>
    rfl
  · have h0 := cQ_length l
    have h1 := cQ_all l
    have h2 := cQ_okI l
    sym =>
    simp [Zaa,Zab,Zad,Zae,Zaf,Zak,Zal,Zam,Zaz,Za0,Za1,Za2,Za3,Za4,Za5,Za9,Zba,Zbb,Zcz,Zc5,Zev,Zez,Ze0,Ze2,Ze3,Ze4,Ze5,Zfc,Zfd,Zfe,Zff,Zfg,Zfh,Zhf,Ziq,Zir,Zix,Ziz,Zi0,Zi1,Zmt,Zmv,Zmw,Zmx,Zmz,Zm2,Zna,Znb,Znc,Zo3,Zo7,eq_self,true_and,and_true,Nat.zero_add,h0]
    tactic =>
    refine ⟨⟨cQ_okF l, by omega, by omega⟩, ?_⟩
    refine endA ?_
    sym =>
    simp [Zfc,Znh,Zp0,Zp1,Zp2,eq_self,true_and,and_true,Nat.zero_add,h0,h1]
    tactic =>
    exact ⟨Nat.le_refl _, h2⟩
/-- Ranges that rise. -/
def riF : Int → List Rg → Bool
  | _, [] => true
  | o, r :: l => if r.1 ≤ o then false else if r.2 ≤ r.1 then false else riF r.2 l
theorem riF_drop (o : Int) (l : List Rg) (i : Nat) (h : i < l.length) : riF o (l.drop i) = if l[i].1 ≤ o then false else if l[i].2 ≤ l[i].1 then false else riF l[i].2 (l.drop (i + 1)) := by
  rw [List.drop_eq_getElem_cons h]; rfl
def i16 (l : List Rg) (R : Bool) (k : Nat) (s : St) : Prop := ∃ (i : Nat) (o : Int), i + k = l.length ∧ riF o (l.drop i) = R ∧ s = ⟨[(0, L o), (7, fQ l), (8, I (IN l.length)), (9, I (IN i))], [], 0⟩
theorem rise_con (o : Int) (l : List Rg) (hl : l.length ≤ 1000000) : Con Try.prog 122 [] [L o, fQ l] [] (Bo (riF o l)) := by
  refine con_j b122 rfl ?_
  sym =>
  simp [Zab,Zad,Zag,Zah,Zam,Zaz,Za0,Za1,Za2,Za3,Za4,Za5,Za9,Zba,Zbb,Zcn,Zev,Zew,Zez,Ze0,Ze2,Ze5,Zfd,Zfe,Zfh,Zh6,Zh7,Zna,Znb,Zos,Zot,Zo7,eq_self,true_and]
  tactic =>
  obtain ⟨R, hR⟩ : ∃ R, R = riF o l := ⟨_, rfl⟩
  rw [← hR]
  refine lpA (i16 l R) l.length [] _ ⟨0, o, by omega, hR.symm, rfl⟩ (wkA ?_) ?_
  · sym =>
    simp [Zez,Zn5,Zpc,Zpi,Zqf,Zqg,Zqh,Zqm,eq_self,and_true]
  rintro k s ⟨i, o, hi, ho, rfl⟩
  by_cases h : i < l.length
  · have hw := w64s i (by omega)
    have g0 := cQ_q0 l i h
    have g1 := cQ_q1 l i h
    rw [riF_drop o l i h] at ho
    obtain ⟨x, hx⟩ : ∃ x, x = l[i] := ⟨_, rfl⟩
    rw [← hx] at g0 g1 ho
    by_cases h1 : x.1 ≤ o
    · rw [if_pos h1] at ho
      sym =>
      simp [Zaa,Zab,Zad,Zae,Zaf,Zag,Zak,Zal,Zam,Zao,Zar,Zax,Zay,Zaz,Za0,Za1,Za2,Za3,Za4,Za5,Za6,Za7,Za8,Za9,Zba,Zbb,Zbd,Zbf,Zbt,Zbv,Zb1,Zcv,Zc3,Zev,Zew,Zex,Zez,Ze0,Ze1,Ze2,Ze3,Ze5,Ze8,Zfc,Zfd,Zfe,Zfh,Zfi,Zfj,Zfn,Zf1,Zf2,Zgr,Zgs,Zgt,Zgu,Zgv,Zgw,Zgx,Zg4,Zg6,Zho,Zin,Ziu,Ziv,Ziw,Zi6,Zjh,Zji,Zjn,Zmt,Zmv,Zmw,Zmx,Zmz,Zm2,Zm5,Zm6,Zm7,Zm9,Zna,Znb,Znn,Zno,Znp,Zns,Znt,Znw,Zo6,Zo7,Zo8,eq_self,true_and,and_true,h,hw,g0,g1,h1,cQ_length]
      tactic =>
      and_intros <;> try (first | omega | rfl | assumption | simp only [IN]; omega)
      refine endA ?_
      rw [← ho]
      sym =>
      simp [Zpc,eq_self]
    · rw [if_neg h1] at ho
      by_cases h2 : x.2 ≤ x.1
      · rw [if_pos h2] at ho
        sym =>
        simp [Zaa,Zab,Zad,Zae,Zaf,Zag,Zak,Zal,Zam,Zao,Zar,Zax,Zay,Zaz,Za0,Za1,Za2,Za3,Za4,Za5,Za6,Za7,Za9,Zba,Zbb,Zbd,Zbf,Zbt,Zbv,Zb1,Zcv,Zc3,Zev,Zew,Zex,Zez,Ze0,Ze1,Ze2,Ze3,Ze5,Ze8,Zfc,Zfd,Zfe,Zfh,Zfi,Zfl,Zfn,Zf1,Zf2,Zgr,Zgs,Zgt,Zgu,Zgv,Zgw,Zgx,Zg4,Zg6,Zho,Zin,Ziu,Ziv,Ziw,Zi6,Zjh,Zji,Zjn,Zmt,Zmv,Zmw,Zmx,Zmz,Zm2,Zm5,Zm6,Zm7,Zm9,Zna,Znb,Znn,Zno,Znp,Zns,Znt,Znw,Zo7,Zo8,Zo9,eq_self,true_and,and_true,h,hw,g0,g1,h1,h2,cQ_length]
        tactic =>
        and_intros <;> try (first | omega | rfl | assumption | simp only [IN]; omega)
        refine endA ?_
        rw [← ho]
        sym =>
        simp [Zpc,eq_self]
      · rw [if_neg h2] at ho
        sym =>
        simp [Zaa,Zab,Zad,Zae,Zaf,Zag,Zal,Zam,Zap,Zav,Zay,Zaz,Za0,Za1,Za2,Za3,Za4,Za5,Za6,Za7,Za9,Zba,Zbb,Zbd,Zbf,Zbt,Zbv,Zb1,Zcv,Zc3,Zev,Zew,Zex,Zez,Ze0,Ze1,Ze2,Ze3,Ze5,Ze8,Zfc,Zfd,Zfe,Zfh,Zfi,Zfl,Zfn,Zfq,Zf1,Zf2,Zgr,Zgs,Zgt,Zgu,Zgv,Zgw,Zgx,Zg4,Zg6,Zho,Zin,Ziu,Ziv,Ziw,Zi6,Zjh,Zji,Zjn,Zm5,Zm6,Zm7,Zm9,Zna,Znb,Znn,Zno,Znp,Zns,Znt,Znw,Zo7,Zo8,Zo9,eq_self,true_and,and_true,h,hw,g0,g1,h1,h2,cQ_length]
        tactic =>
        and_intros <;> try (first | omega | rfl | assumption | simp only [IN]; omega)
        unfold NextL; refine ⟨(k - 1), [], _, by omega, ⟨i + 1, x.2, by omega, ho, rfl⟩, wkA ?_⟩
        sym =>
        simp [Zez,Zpc,Zpi,Zqf,Zqg,Zqh,Zqm,eq_self,and_true]
  · rw [List.drop_of_length_le (by omega)] at ho
    have hz : riF o [] = true := rfl
    rw [hz] at ho
    sym =>
    simp [Zab,Zad,Zae,Zaf,Zai,Zak,Zam,Zan,Zaq,Zaw,Zay,Zaz,Za0,Za1,Za2,Za3,Za4,Za5,Za9,Zba,Zbb,Zbf,Zev,Zew,Zez,Ze0,Ze2,Zfd,Zfe,Zfh,Zfn,Zf1,Zmt,Zmv,Zmw,Zmx,Zmz,Zm2,Zna,Znb,Znt,Zo7,Zo9,eq_self,true_and,h]
    tactic =>
    refine endA ?_
    rw [← ho]
    sym =>
    simp [Zpc,eq_self]
/-- A number in so many bytes, the highest first. -/
def beN : Nat → Int → List Int
  | 0, _ => []
  | w + 1, n => beN w (n / 256) ++ [n % 256]
theorem beN_length : ∀ (w : Nat) (n : Int), (beN w n).length = w
  | 0, _ => rfl
  | w + 1, n => by simp [beN, beN_length w]
theorem beN_get : ∀ (w : Nat) (n : Int) (j : Nat), j < w → (beN w n).getD j 0 = n / 256 ^ (w - 1 - j) % 256
  | 0, _, _, h => absurd h (Nat.not_lt_zero _)
  | w + 1, n, j, h => by
    have hl := beN_length w (n / 256)
    by_cases e : j = w
    · subst e
      have : j + 1 - 1 - j = 0 := by omega
      rw [this, beN, List.getD_eq_getElem?_getD, List.getElem?_append_right (by omega), hl, Nat.sub_self]
      simp
    · have hj : j < w := by omega
      have ih := beN_get w (n / 256) j hj
      rw [List.getD_eq_getElem?_getD] at ih
      rw [beN, List.getD_eq_getElem?_getD, List.getElem?_append_left (by omega), ih]
      have : w + 1 - 1 - j = (w - 1 - j) + 1 := by omega
      rw [this, Int.pow_succ, Int.mul_comm, ← Int.ediv_ediv_of_nonneg (by decide)]
theorem beN_byt : ∀ (w : Nat) (n : Int), byt8 (beN w n)
  | 0, _ => fun x hx => by cases hx
  | w + 1, n => byt8_app (beN_byt w _) (fun x hx => by simp at hx; omega)
theorem pow_256 (i : Nat) : (2 : Int) ^ (8 * i) = 256 ^ i := by rw [Int.pow_mul]; rfl
theorem beN_step (w : Nat) (n : Int) (j : Nat) (h : j < w) : (beN w n).take (j + 1) = (beN w n).take j ++ [IntKind.u8.wrap (n.fdiv (2 ^ (8 * (w - 1 - j))))] := by
  rw [take_stepD _ j (by rw [beN_length]; exact h), beN_get w n j h, w8u, Int.fdiv_eq_ediv_of_nonneg _ (Int.le_of_lt (Int.pow_pos (by decide))), pow_256]
def i24 (b : List Int) (n : Int) (w : Nat) (k : Nat) (s : St) : Prop := ∃ j : Nat, j + k = w ∧ s = ⟨[(0, .lv 1 0 (b.length + j)), (1, L n), (7, I (IN w - 1 - (j : Int)))], [(1, ⟨cB (b ++ (beN w n).take j), 1, 0⟩)], 2⟩
theorem number_con (b : List Int) (n : Int) (w : Nat) (hw : w ≤ 8) (hb : b.length ≤ 100000000000000) : Con Try.prog 92 [(0, ⟨cB b, 1, 0⟩)] [.lv 0 0 b.length, L n, I (IN w)] [(1, ⟨cB (b ++ beN w n), 1, 0⟩)] (.lv 1 0 (b.length + w)) := by
  refine con_n b92 rfl ?_
  have hw1 : IntKind.i64.wrap (IN w - (1 : Int)) = IN w - (1 : Int) := by simp only [IN]; exact w64 _ (by omega)
  sym =>
  simp [Zab,Zad,Zag,Zah,Zam,Zaz,Za0,Za1,Za2,Za3,Za4,Za5,Za9,Zba,Zbb,Zbf,Zev,Zew,Zez,Ze0,Ze2,Zfd,Zfe,Zfh,Zfn,Zfr,Zna,Znb,Zos,Zot,Zo7,List.length_append,eq_self,true_and,hw1]
  tactic =>
  refine lpA (i24 b n w) w [(1, 0)] _ ⟨0, by omega, rfl⟩ (wkM ?_) ?_
  · sym =>
    simp [Za2,Zez,Zfc,Znr,Zpc,Zpo,Zq5,Zq6,Zqf,Zqg,Zqh,Zqi,Zqk,Zql,Zqm,Zqn,Zqr,eq_self,true_and,and_true,Nat.add_zero]
    tactic =>
    exact ⟨by simp, cB_rs _ _ _ _ _ (by simp)⟩
  rintro k s ⟨j, hj, rfl⟩
  by_cases h : j < w
  · have hI : IN w - 1 - (j : Int) ≥ 0 := by simp only [IN]; omega
    have hw := w64 (IN w - 1 - (j : Int) - 1) (by simp only [IN]; omega)
    have hm := w64 (8 * (IN w - 1 - (j : Int))) (by simp only [IN]; omega)
    have hmz : (0 : Int) ≤ 8 * (IN w - 1 - (j : Int)) := by simp only [IN]; omega
    have hmn : min (8 * (IN w - 1 - (j : Int))).toNat IntKind.u64.bits = 8 * (w - 1 - j) := by simp only [IN, IntKind.bits]; omega
    have hl : (b ++ (beN w n).take j).length = b.length + j := by simp [beN_length]; omega
    have hs := beN_step w n j h
    have hcl := cB_length (b ++ (beN w n).take j)
    sym =>
    simp [Zaa,Zab,Zad,Zae,Zaf,Zag,Zal,Zam,Zap,Zav,Zaz,Za0,Za1,Za2,Za3,Za4,Za5,Za9,Zba,Zbb,Zbf,Zbl,Zcz,Zc5,Zev,Zew,Zez,Ze0,Ze2,Ze3,Ze4,Ze5,Zfc,Zfd,Zfe,Zff,Zfg,Zfh,Zfn,Zfp,Zfr,Zfs,Zf4,Zgh,Zgi,Zhf,Zhg,Zhh,Ziq,Zir,Zix,Ziz,Zi0,Zi2,Zi3,Zi7,Zjj,Zjk,Zjo,Zna,Znb,Znh,Znl,Znm,Znn,Zno,Znp,Zo7,Zo8,eq_self,true_and,and_true,Nat.mul_one,hI,hw,hm,hmz,hmn]
    tactic =>
    and_intros <;> try (first | omega | rfl | assumption | simp only [IN]; omega)
    unfold NextL; refine ⟨(k - 1), [(1, 11)], _, by omega, ⟨j + 1, by omega, rfl⟩, wkM ?_⟩
    sym =>
    simp [Za2,Zez,Zfc,Znr,Zpc,Zpo,Zq5,Zq6,Zqf,Zqg,Zqh,Zqi,Zqk,Zql,Zqm,Zqn,Zqr,List.append_assoc,eq_self,true_and,and_true]
    tactic =>
    refine ⟨⟨by omega, by show IN w - 1 - (j : Int) - 1 = IN w - 1 - ((j + 1 : Nat) : Int); omega⟩, cB_rs _ _ _ _ _ ?_⟩
    rw [hs, ← List.append_assoc, cB_append (b ++ List.take j (beN w n))]
    rfl
  · have hI : ¬ IN w - 1 - (j : Int) ≥ 0 := by simp only [IN]; omega
    obtain rfl : j = w := by omega
    have e : (beN j n).take j = beN j n := List.take_of_length_le (by rw [beN_length]; exact Nat.le_refl _)
    rw [e]
    sym =>
    simp [Zab,Zad,Zae,Zaf,Zai,Zak,Zam,Zan,Zaq,Zaw,Zaz,Za0,Za1,Za2,Za3,Za4,Za5,Za9,Zba,Zbb,Zbf,Zev,Zew,Zez,Ze0,Ze2,Zfd,Zfe,Zfh,Zfn,Zf4,Zmt,Zmv,Zmw,Zmx,Zmz,Zm2,Zna,Znb,Zo7,Zo9,eq_self,true_and,hI]
    tactic =>
    refine endM [(1, 1)] 2 ?_
    sym =>
    simp [Za2,Zfc,Znr,Zpo,Zq5,Zq6,Zqh,Zqi,Zqk,Zql,Zqm,Zqn,eq_self,true_and,and_true]
    tactic =>
    exact cB_rs _ _ _ _ _ rfl
/-- Bytes that are taken, what is left, and whether something was missing. -/
def tkF (b : List Int) (m : Bool) (n : Nat) : List Int × List Int × Bool := if b.length < n then (List.replicate n 0, [], true) else (b.take n, b.drop n, m)
end Go.Proofs.Ytbmdahhhgpbchaa.LyB
