import Derived.Test.YthhccabdlajngaaFrmB
namespace Go.Proofs.Ythhccabdlajngaa.FrmC
open Go Go.Sim Go.Sim.E Go.RowKit Go.Proofs Go.Proofs.Ythhccabdlajngaa.Cod Go.Proofs.Ythhccabdlajngaa.Tab Go.Proofs.Ythhccabdlajngaa.Bse Go.Proofs.Ythhccabdlajngaa.Krc Go.Proofs.Ythhccabdlajngaa.FrmA Go.Proofs.Ythhccabdlajngaa.FrmB
set_option linter.unusedVariables false
set_option linter.unusedSimpArgs false
set_option maxRecDepth 100000
set_option maxHeartbeats 4000000
/-- A number in so many bytes, the highest first. -/
def beN : Nat → Int → List Int
  | 0, _ => []
  | w + 1, n => beN w (n / 256) ++ [n % 256]
theorem beN_length : ∀ (w : Nat) (n : Int), (beN w n).length = w
  | 0, _ => rfl
  | w + 1, n => by simp [beN, beN_length w]
theorem beN_get : ∀ (w : Nat) (n : Int) (j : Nat), j < w → (beN w n).getD j 0 = n / 256 ^ (w - 1 - j) % 256
  | 0, _, _, h => absurd h (Nat.not_lt_zero _)
  | w + 1, n, j, h => by
    have hl := beN_length w (n / 256)
    by_cases e : j = w
    · subst e
      have : j + 1 - 1 - j = 0 := by omega
      rw [this, beN, List.getD_eq_getElem?_getD, List.getElem?_append_right (by omega), hl, Nat.sub_self]
      simp
    · have hj : j < w := by omega
      have ih := beN_get w (n / 256) j hj
      rw [List.getD_eq_getElem?_getD] at ih
      rw [beN, List.getD_eq_getElem?_getD, List.getElem?_append_left (by omega), ih]
      have : w + 1 - 1 - j = (w - 1 - j) + 1 := by omega
      rw [this, Int.pow_succ, Int.mul_comm, ← Int.ediv_ediv_of_nonneg (by decide)]
theorem beN_byt : ∀ (w : Nat) (n : Int), byt8 (beN w n)
  | 0, _ => fun x hx => by cases hx
  | w + 1, n => byt8_app (beN_byt w _) (fun x hx => by simp at hx; omega)
theorem pow_256 (i : Nat) : (2 : Int) ^ (8 * i) = 256 ^ i := by rw [Int.pow_mul]; rfl
theorem beN_step (w : Nat) (n : Int) (j : Nat) (h : j < w) : (beN w n).take (j + 1) = (beN w n).take j ++ [IntKind.u8.wrap (n.fdiv (2 ^ (8 * (w - 1 - j))))] := by
  rw [take_stepD _ j (by rw [beN_length]; exact h), beN_get w n j h, w8u, Int.fdiv_eq_ediv_of_nonneg _ (Int.le_of_lt (Int.pow_pos (by decide))), pow_256]
def i24 (b : List Int) (n : Int) (w : Nat) (k : Nat) (s : St) : Prop := ∃ j : Nat, j + k = w ∧ s = ⟨[(0, .lv 1 0 (b.length + j)), (1, L n), (7, I (IN w - 1 - (j : Int)))], [(1, ⟨cB (b ++ (beN w n).take j), 1, 0⟩)], 2⟩
theorem number_con (b : List Int) (n : Int) (w : Nat) (hw : w ≤ 8) (hb : b.length ≤ 100000000000000) : Con Try.prog 24 [(0, ⟨cB b, 1, 0⟩)] [.lv 0 0 b.length, L n, I (IN w)] [(1, ⟨cB (b ++ beN w n), 1, 0⟩)] (.lv 1 0 (b.length + w)) := by
  refine con_n b24 rfl ?_
  have hw1 : IntKind.i64.wrap (IN w - (1 : Int)) = IN w - (1 : Int) := by simp only [IN]; exact w64 _ (by omega)
  sym =>
  simp [Zaa,Zab,Zad,Zae,Zaf,Zag,Zah,Zai,Zak,Zal,Zam,Zan,Zap,Zaq,Zav,Zaw,Zaz,Za0,Za1,Za2,Za3,Za4,Za5,Za9,Zba,Zbb,Zbf,Zbl,Zcz,Zc5,Zev,Zew,Zez,Ze0,Ze2,Ze3,Ze4,Ze5,Zfc,Zfd,Zfe,Zff,Zfg,Zfh,Zfn,Zfp,Zfr,Zfs,Zf4,Zgh,Zgi,Zhf,Zhg,Zhh,Ziq,Zir,Zix,Ziz,Zi0,Zi2,Zi3,Zi7,Zjj,Zjk,Zjo,Zmt,Zmv,Zmw,Zmx,Zmz,Zm2,Zna,Znb,Znh,Znl,Znm,Znn,Zno,Znp,Znr,Zos,Zot,Zo7,Zo8,Zo9,Zpc,Zpo,Zq5,Zq6,Zqf,Zqg,Zqh,Zqi,Zqk,Zql,Zqm,Zqn,Zqr,List.append_assoc,List.length_append,eq_self,true_and,and_true,Nat.add_zero,Nat.mul_one,hw1]
  tactic =>
  refine lpA (i24 b n w) w [(1, 0)] _ ⟨0, by omega, rfl⟩ (wkM ?_) ?_
  · sym =>
    simp [Zaa,Zab,Zad,Zae,Zaf,Zag,Zah,Zai,Zak,Zal,Zam,Zan,Zap,Zaq,Zav,Zaw,Zaz,Za0,Za1,Za2,Za3,Za4,Za5,Za9,Zba,Zbb,Zbf,Zbl,Zcz,Zc5,Zev,Zew,Zez,Ze0,Ze2,Ze3,Ze4,Ze5,Zfc,Zfd,Zfe,Zff,Zfg,Zfh,Zfn,Zfp,Zfr,Zfs,Zf4,Zgh,Zgi,Zhf,Zhg,Zhh,Ziq,Zir,Zix,Ziz,Zi0,Zi2,Zi3,Zi7,Zjj,Zjk,Zjo,Zmt,Zmv,Zmw,Zmx,Zmz,Zm2,Zna,Znb,Znh,Znl,Znm,Znn,Zno,Znp,Znr,Zos,Zot,Zo7,Zo8,Zo9,Zpc,Zpo,Zq5,Zq6,Zqf,Zqg,Zqh,Zqi,Zqk,Zql,Zqm,Zqn,Zqr,List.append_assoc,List.length_append,eq_self,true_and,and_true,Nat.add_zero,Nat.mul_one]
    tactic =>
    exact ⟨by simp, cB_rs _ _ _ _ _ (by simp)⟩
  rintro k s ⟨j, hj, rfl⟩
  by_cases h : j < w
  · have hI : IN w - 1 - (j : Int) ≥ 0 := by simp only [IN]; omega
    have hw := w64 (IN w - 1 - (j : Int) - 1) (by simp only [IN]; omega)
    have hm := w64 (8 * (IN w - 1 - (j : Int))) (by simp only [IN]; omega)
    have hmz : (0 : Int) ≤ 8 * (IN w - 1 - (j : Int)) := by simp only [IN]; omega
    have hmn : min (8 * (IN w - 1 - (j : Int))).toNat IntKind.u64.bits = 8 * (w - 1 - j) := by simp only [IN, IntKind.bits]; omega
    have hl : (b ++ (beN w n).take j).length = b.length + j := by simp [beN_length]; omega
    have hs := beN_step w n j h
    have hcl := cB_length (b ++ (beN w n).take j)
    sym =>
    simp [Zaa,Zab,Zad,Zae,Zaf,Zag,Zah,Zai,Zak,Zal,Zam,Zan,Zap,Zaq,Zav,Zaw,Zaz,Za0,Za1,Za2,Za3,Za4,Za5,Za9,Zba,Zbb,Zbf,Zbl,Zcz,Zc5,Zev,Zew,Zez,Ze0,Ze2,Ze3,Ze4,Ze5,Zfc,Zfd,Zfe,Zff,Zfg,Zfh,Zfn,Zfp,Zfr,Zfs,Zf4,Zgh,Zgi,Zhf,Zhg,Zhh,Ziq,Zir,Zix,Ziz,Zi0,Zi2,Zi3,Zi7,Zjj,Zjk,Zjo,Zmt,Zmv,Zmw,Zmx,Zmz,Zm2,Zna,Znb,Znh,Znl,Znm,Znn,Zno,Znp,Znr,Zos,Zot,Zo7,Zo8,Zo9,Zpc,Zpo,Zq5,Zq6,Zqf,Zqg,Zqh,Zqi,Zqk,Zql,Zqm,Zqn,Zqr,List.append_assoc,List.length_append,eq_self,true_and,and_true,Nat.add_zero,Nat.mul_one,hI,hw,hm,hmz,hmn]
    tactic =>
    and_intros <;> try (first | omega | rfl | assumption | simp only [IN]; omega)
    unfold NextL; refine ⟨(k - 1), [(1, 11)], _, by omega, ⟨j + 1, by omega, rfl⟩, wkM ?_⟩
    sym =>
    simp [Zaa,Zab,Zad,Zae,Zaf,Zag,Zah,Zai,Zak,Zal,Zam,Zan,Zap,Zaq,Zav,Zaw,Zaz,Za0,Za1,Za2,Za3,Za4,Za5,Za9,Zba,Zbb,Zbf,Zbl,Zcz,Zc5,Zev,Zew,Zez,Ze0,Ze2,Ze3,Ze4,Ze5,Zfc,Zfd,Zfe,Zff,Zfg,Zfh,Zfn,Zfp,Zfr,Zfs,Zf4,Zgh,Zgi,Zhf,Zhg,Zhh,Ziq,Zir,Zix,Ziz,Zi0,Zi2,Zi3,Zi7,Zjj,Zjk,Zjo,Zmt,Zmv,Zmw,Zmx,Zmz,Zm2,Zna,Znb,Znh,Znl,Znm,Znn,Zno,Znp,Znr,Zos,Zot,Zo7,Zo8,Zo9,Zpc,Zpo,Zq5,Zq6,Zqf,Zqg,Zqh,Zqi,Zqk,Zql,Zqm,Zqn,Zqr,List.append_assoc,List.length_append,eq_self,true_and,and_true,Nat.add_zero,Nat.mul_one]
    tactic =>
    refine ⟨⟨by omega, by show IN w - 1 - (j : Int) - 1 = IN w - 1 - ((j + 1 : Nat) : Int); omega⟩, cB_rs _ _ _ _ _ ?_⟩
    rw [hs, ← List.append_assoc, cB_append (b ++ List.take j (beN w n))]
    rfl
  · have hI : ¬ IN w - 1 - (j : Int) ≥ 0 := by simp only [IN]; omega
    obtain rfl : j = w := by omega
    have e : (beN j n).take j = beN j n := List.take_of_length_le (by rw [beN_length]; exact Nat.le_refl _)
    rw [e]
    sym =>
    simp [Zaa,Zab,Zad,Zae,Zaf,Zag,Zah,Zai,Zak,Zal,Zam,Zan,Zap,Zaq,Zav,Zaw,Zaz,Za0,Za1,Za2,Za3,Za4,Za5,Za9,Zba,Zbb,Zbf,Zbl,Zcz,Zc5,Zev,Zew,Zez,Ze0,Ze2,Ze3,Ze4,Ze5,Zfc,Zfd,Zfe,Zff,Zfg,Zfh,Zfn,Zfp,Zfr,Zfs,Zf4,Zgh,Zgi,Zhf,Zhg,Zhh,Ziq,Zir,Zix,Ziz,Zi0,Zi2,Zi3,Zi7,Zjj,Zjk,Zjo,Zmt,Zmv,Zmw,Zmx,Zmz,Zm2,Zna,Znb,Znh,Znl,Znm,Znn,Zno,Znp,Znr,Zos,Zot,Zo7,Zo8,Zo9,Zpc,Zpo,Zq5,Zq6,Zqf,Zqg,Zqh,Zqi,Zqk,Zql,Zqm,Zqn,Zqr,List.append_assoc,List.length_append,eq_self,true_and,and_true,Nat.add_zero,Nat.mul_one,hI]
    tactic =>
    refine endM [(1, 1)] 2 ?_
    sym =>
    simp [Zaa,Zab,Zad,Zae,Zaf,Zag,Zah,Zai,Zak,Zal,Zam,Zan,Zap,Zaq,Zav,Zaw,Zaz,Za0,Za1,Za2,Za3,Za4,Za5,Za9,Zba,Zbb,Zbf,Zbl,Zcz,Zc5,Zev,Zew,Zez,Ze0,Ze2,Ze3,Ze4,Ze5,Zfc,Zfd,Zfe,Zff,Zfg,Zfh,Zfn,Zfp,Zfr,Zfs,Zf4,Zgh,Zgi,Zhf,Zhg,Zhh,Ziq,Zir,Zix,Ziz,Zi0,Zi2,Zi3,Zi7,Zjj,Zjk,Zjo,Zmt,Zmv,Zmw,Zmx,Zmz,Zm2,Zna,Znb,Znh,Znl,Znm,Znn,Zno,Znp,Znr,Zos,Zot,Zo7,Zo8,Zo9,Zpc,Zpo,Zq5,Zq6,Zqf,Zqg,Zqh,Zqi,Zqk,Zql,Zqm,Zqn,Zqr,List.append_assoc,List.length_append,eq_self,true_and,and_true,Nat.add_zero,Nat.mul_one]
    tactic =>
    exact cB_rs _ _ _ _ _ rfl
/-- The number of the first i bytes, the highest first. -/
def ofN (b : List Int) : Nat → Int
  | 0 => 0
  | i + 1 => (256 * ofN b i + b.getD i 0) % 18446744073709551616
theorem ofN_bd (b : List Int) : ∀ i, 0 ≤ ofN b i ∧ ofN b i < 18446744073709551616
  | 0 => by simp [ofN]
  | i + 1 => by simp only [ofN]; omega
def i41 (b : List Int) (k : Nat) (s : St) : Prop := ∃ i : Nat, i + k = b.length ∧ s = ⟨[(0, fB b), (3, L (ofN b i)), (4, I (IN i))], [], 0⟩
theorem of_con' (b : List Int) (hb : byt8 b) (hl : b.length ≤ 1000000) : Con Try.prog 41 [] [fB b] [] (L (ofN b b.length)) := by
  refine con_j b41 rfl ?_
  sym =>
  simp [Zaa,Zab,Zad,Zae,Zaf,Zag,Zah,Zai,Zak,Zal,Zam,Zan,Zap,Zaq,Zav,Zaw,Zay,Zaz,Za0,Za1,Za2,Za3,Za4,Za5,Za9,Zba,Zbb,Zbf,Zbl,Zbt,Zb1,Zcn,Zev,Zew,Zez,Ze0,Ze2,Ze5,Zfd,Zfe,Zfh,Zfn,Zfq,Zfs,Zf1,Zgh,Zgi,Zgr,Zgu,Zg4,Zg6,Zho,Zh6,Zh7,Zmt,Zmv,Zmw,Zmx,Zmz,Zm2,Zm6,Zna,Znb,Zns,Znt,Znw,Zn5,Zos,Zot,Zo7,Zo8,Zo9,Zpc,Zpi,Zqf,Zqg,Zqh,Zqm,Zqr,eq_self,true_and,and_true,Nat.mul_one]
  tactic =>
  refine lpA (i41 b) b.length [] _ ⟨0, by omega, rfl⟩ (wkA ?_) ?_
  · sym =>
    simp [Zaa,Zab,Zad,Zae,Zaf,Zag,Zah,Zai,Zak,Zal,Zam,Zan,Zap,Zaq,Zav,Zaw,Zay,Zaz,Za0,Za1,Za2,Za3,Za4,Za5,Za9,Zba,Zbb,Zbf,Zbl,Zbt,Zb1,Zcn,Zev,Zew,Zez,Ze0,Ze2,Ze5,Zfd,Zfe,Zfh,Zfn,Zfq,Zfs,Zf1,Zgh,Zgi,Zgr,Zgu,Zg4,Zg6,Zho,Zh6,Zh7,Zmt,Zmv,Zmw,Zmx,Zmz,Zm2,Zm6,Zna,Znb,Zns,Znt,Znw,Zn5,Zos,Zot,Zo7,Zo8,Zo9,Zpc,Zpi,Zqf,Zqg,Zqh,Zqm,Zqr,eq_self,true_and,and_true,Nat.mul_one]
    tactic =>
    rfl
  rintro k s ⟨i, hi, rfl⟩
  by_cases h : i < b.length
  · have hw := w64s i (by omega)
    have hg := cB_get b i h
    have hn := ofN_bd b i
    have hc := byt8_get hb i
    have hs : ofN b (i + 1) = (256 * ofN b i + b.getD i 0) % 18446744073709551616 := rfl
    obtain ⟨x, hx⟩ : ∃ x, x = ofN b i := ⟨_, rfl⟩
    obtain ⟨c, hcc⟩ : ∃ c, c = b.getD i 0 := ⟨_, rfl⟩
    rw [← hx] at hn hs ⊢
    rw [← hcc] at hg hc hs
    have hv : IntKind.u64.wrap (IntKind.u64.wrap (256 * x) + IntKind.u64.wrap c) = (256 * x + c) % 18446744073709551616 := by rw [wu64, wu64, wu64]; omega
    sym =>
    simp [Zaa,Zab,Zad,Zae,Zaf,Zag,Zah,Zai,Zak,Zal,Zam,Zan,Zap,Zaq,Zav,Zaw,Zay,Zaz,Za0,Za1,Za2,Za3,Za4,Za5,Za9,Zba,Zbb,Zbf,Zbl,Zbt,Zb1,Zcn,Zev,Zew,Zez,Ze0,Ze2,Ze5,Zfd,Zfe,Zfh,Zfn,Zfq,Zfs,Zf1,Zgh,Zgi,Zgr,Zgu,Zg4,Zg6,Zho,Zh6,Zh7,Zmt,Zmv,Zmw,Zmx,Zmz,Zm2,Zm6,Zna,Znb,Zns,Znt,Znw,Zn5,Zos,Zot,Zo7,Zo8,Zo9,Zpc,Zpi,Zqf,Zqg,Zqh,Zqm,Zqr,eq_self,true_and,and_true,Nat.mul_one,h,hw,hg,cB_length]
    tactic =>
    and_intros <;> try (first | omega | rfl | assumption | simp only [IN]; omega)
    unfold NextL; refine ⟨(k - 1), [], _, by omega, ⟨i + 1, by omega, rfl⟩, wkA ?_⟩
    sym =>
    simp [Zaa,Zab,Zad,Zae,Zaf,Zag,Zah,Zai,Zak,Zal,Zam,Zan,Zap,Zaq,Zav,Zaw,Zay,Zaz,Za0,Za1,Za2,Za3,Za4,Za5,Za9,Zba,Zbb,Zbf,Zbl,Zbt,Zb1,Zcn,Zev,Zew,Zez,Ze0,Ze2,Ze5,Zfd,Zfe,Zfh,Zfn,Zfq,Zfs,Zf1,Zgh,Zgi,Zgr,Zgu,Zg4,Zg6,Zho,Zh6,Zh7,Zmt,Zmv,Zmw,Zmx,Zmz,Zm2,Zm6,Zna,Znb,Zns,Znt,Znw,Zn5,Zos,Zot,Zo7,Zo8,Zo9,Zpc,Zpi,Zqf,Zqg,Zqh,Zqm,Zqr,eq_self,true_and,and_true,Nat.mul_one]
    tactic =>
    rw [hs, hv]
  · obtain rfl : i = b.length := by omega
    sym =>
    simp [Zaa,Zab,Zad,Zae,Zaf,Zag,Zah,Zai,Zak,Zal,Zam,Zan,Zap,Zaq,Zav,Zaw,Zay,Zaz,Za0,Za1,Za2,Za3,Za4,Za5,Za9,Zba,Zbb,Zbf,Zbl,Zbt,Zb1,Zcn,Zev,Zew,Zez,Ze0,Ze2,Ze5,Zfd,Zfe,Zfh,Zfn,Zfq,Zfs,Zf1,Zgh,Zgi,Zgr,Zgu,Zg4,Zg6,Zho,Zh6,Zh7,Zmt,Zmv,Zmw,Zmx,Zmz,Zm2,Zm6,Zna,Znb,Zns,Znt,Znw,Zn5,Zos,Zot,Zo7,Zo8,Zo9,Zpc,Zpi,Zqf,Zqg,Zqh,Zqm,Zqr,eq_self,true_and,and_true,Nat.mul_one,h]
    tactic =>
    refine endA ?_
    sym =>
    simp [Zaa,Zab,Zad,Zae,Zaf,Zag,Zah,Zai,Zak,Zal,Zam,Zan,Zap,Zaq,Zav,Zaw,Zay,Zaz,Za0,Za1,Za2,Za3,Za4,Za5,Za9,Zba,Zbb,Zbf,Zbl,Zbt,Zb1,Zcn,Zev,Zew,Zez,Ze0,Ze2,Ze5,Zfd,Zfe,Zfh,Zfn,Zfq,Zfs,Zf1,Zgh,Zgi,Zgr,Zgu,Zg4,Zg6,Zho,Zh6,Zh7,Zmt,Zmv,Zmw,Zmx,Zmz,Zm2,Zm6,Zna,Znb,Zns,Znt,Znw,Zn5,Zos,Zot,Zo7,Zo8,Zo9,Zpc,Zpi,Zqf,Zqg,Zqh,Zqm,Zqr,eq_self,true_and,and_true,Nat.mul_one]
/-- Bytes that are taken, what is left, and whether something was missing. -/
def tkF (b : List Int) (m : Bool) (n : Nat) : List Int × List Int × Bool := if b.length < n then (List.replicate n 0, [], true) else (b.take n, b.drop n, m)
theorem take_con (b : List Int) (m : Bool) (n : Nat) (hl : b.length ≤ 1000000) (hn : n ≤ 1000) : Con Try.prog 38 [(0, ⟨[fB b, Bo m], 1, 0⟩)] [.pt 0 0, I (IN n)] [(0, ⟨[fB (tkF b m n).2.1, Bo (tkF b m n).2.2], 1, 0⟩)] (fB (tkF b m n).1) := by
  refine con_n b38 rfl ?_
  by_cases h : b.length < n
  · have hlt : (0 : Int) ≤ IN n := by simp only [IN]; omega
    rw [tkF, if_pos h]
    sym =>
    simp [Zaa,Zab,Zad,Zae,Zaf,Zak,Zal,Zam,Zao,Zaz,Za0,Za1,Za2,Za3,Za4,Za5,Za9,Zba,Zbb,Zbf,Zbt,Zbv,Zcd,Zch,Zcn,Zc1,Zc3,Zev,Zew,Zez,Ze0,Ze1,Ze2,Ze3,Ze5,Ze8,Zfc,Zfd,Zfe,Zfh,Zfn,Zf1,Zgr,Zgs,Zgt,Zgv,Zgw,Zgx,Zhj,Zhk,Zhm,Zhn,Zho,Zhs,Zht,Zhu,Zh6,Zh7,Zis,Zit,Ziu,Ziv,Ziw,Zi8,Zja,Zjb,Zjh,Zji,Zjs,Zj2,Zj7,Zmt,Zmv,Zmw,Zmx,Zmz,Zm2,Zm6,Zm9,Zna,Znb,Znh,Znn,Zno,Znp,Zns,Znt,Znu,Znw,Zn5,Zof,Zog,Zrd,Zos,Zot,Zo7,Zo8,Zo9,Zpa,Zpg,Zpi,Zpv,Zp0,Zp1,Zp2,Zp3,Zqb,Zqc,Zq5,Zq6,Zqh,Zqi,Zqk,Zql,Zqm,Zqn,Zqo,List.length_drop,List.length_replicate,eq_self,true_and,and_true,Nat.zero_add,Nat.mul_one,Nat.sub_zero,h,hlt]
    tactic =>
    and_intros <;> try (first | omega | rfl | assumption | simp only [IN]; omega)
    refine endM [(0, 0)] 2 ?_
    sym =>
    simp [Zaa,Zab,Zad,Zae,Zaf,Zak,Zal,Zam,Zao,Zaz,Za0,Za1,Za2,Za3,Za4,Za5,Za9,Zba,Zbb,Zbf,Zbt,Zbv,Zcd,Zch,Zcn,Zc1,Zc3,Zev,Zew,Zez,Ze0,Ze1,Ze2,Ze3,Ze5,Ze8,Zfc,Zfd,Zfe,Zfh,Zfn,Zf1,Zgr,Zgs,Zgt,Zgv,Zgw,Zgx,Zhj,Zhk,Zhm,Zhn,Zho,Zhs,Zht,Zhu,Zh6,Zh7,Zis,Zit,Ziu,Ziv,Ziw,Zi8,Zja,Zjb,Zjh,Zji,Zjs,Zj2,Zj7,Zmt,Zmv,Zmw,Zmx,Zmz,Zm2,Zm6,Zm9,Zna,Znb,Znh,Znn,Zno,Znp,Zns,Znt,Znu,Znw,Zn5,Zof,Zog,Zrd,Zos,Zot,Zo7,Zo8,Zo9,Zpa,Zpg,Zpi,Zpv,Zp0,Zp1,Zp2,Zp3,Zqb,Zqc,Zq5,Zq6,Zqh,Zqi,Zqk,Zql,Zqm,Zqn,Zqo,List.length_drop,List.length_replicate,eq_self,true_and,and_true,Nat.zero_add,Nat.mul_one,Nat.sub_zero]
    tactic =>
    exact ⟨⟨by simp [cB], Nat.le_refl _, fun x hx => by rw [List.eq_of_mem_replicate hx]; rfl⟩, rfl⟩
  · have h2 : n ≤ b.length := by omega
    have hlt : (0 : Int) ≤ IN n := by simp only [IN]; omega
    have hle : IN n ≤ IN b.length := by simp only [IN]; omega
    have ht : List.take n (cB b) = cB (b.take n) := (cB_take _ _).symm
    have hd : List.take (b.length - n) (List.drop n (cB b)) = cB (b.drop n) := by
      rw [← cB_drop]; exact List.take_of_length_le (by rw [cB_length, List.length_drop]; omega)
    have htl : (b.take n).length = n := by rw [List.length_take]; omega
    have hdl : (b.drop n).length = b.length - n := List.length_drop
    rw [tkF, if_neg h]
    sym =>
    simp [Zaa,Zab,Zad,Zae,Zaf,Zak,Zal,Zam,Zao,Zaz,Za0,Za1,Za2,Za3,Za4,Za5,Za9,Zba,Zbb,Zbf,Zbt,Zbv,Zcd,Zch,Zcn,Zc1,Zc3,Zev,Zew,Zez,Ze0,Ze1,Ze2,Ze3,Ze5,Ze8,Zfc,Zfd,Zfe,Zfh,Zfn,Zf1,Zgr,Zgs,Zgt,Zgv,Zgw,Zgx,Zhj,Zhk,Zhm,Zhn,Zho,Zhs,Zht,Zhu,Zh6,Zh7,Zis,Zit,Ziu,Ziv,Ziw,Zi8,Zja,Zjb,Zjh,Zji,Zjs,Zj2,Zj7,Zmt,Zmv,Zmw,Zmx,Zmz,Zm2,Zm6,Zm9,Zna,Znb,Znh,Znn,Zno,Znp,Zns,Znt,Znu,Znw,Zn5,Zof,Zog,Zrd,Zos,Zot,Zo7,Zo8,Zo9,Zpa,Zpg,Zpi,Zpv,Zp0,Zp1,Zp2,Zp3,Zqb,Zqc,Zq5,Zq6,Zqh,Zqi,Zqk,Zql,Zqm,Zqn,Zqo,List.length_drop,List.length_replicate,eq_self,true_and,and_true,Nat.zero_add,Nat.mul_one,Nat.sub_zero,h,h2,hlt,ht,hd]
    tactic =>
    and_intros <;> try (first | omega | rfl | assumption | simp only [IN]; omega)
    refine endM [(0, 0)] 2 ?_
    sym =>
    simp [Zaa,Zab,Zad,Zae,Zaf,Zak,Zal,Zam,Zao,Zaz,Za0,Za1,Za2,Za3,Za4,Za5,Za9,Zba,Zbb,Zbf,Zbt,Zbv,Zcd,Zch,Zcn,Zc1,Zc3,Zev,Zew,Zez,Ze0,Ze1,Ze2,Ze3,Ze5,Ze8,Zfc,Zfd,Zfe,Zfh,Zfn,Zf1,Zgr,Zgs,Zgt,Zgv,Zgw,Zgx,Zhj,Zhk,Zhm,Zhn,Zho,Zhs,Zht,Zhu,Zh6,Zh7,Zis,Zit,Ziu,Ziv,Ziw,Zi8,Zja,Zjb,Zjh,Zji,Zjs,Zj2,Zj7,Zmt,Zmv,Zmw,Zmx,Zmz,Zm2,Zm6,Zm9,Zna,Znb,Znh,Znn,Zno,Znp,Zns,Znt,Znu,Znw,Zn5,Zof,Zog,Zrd,Zos,Zot,Zo7,Zo8,Zo9,Zpa,Zpg,Zpi,Zpv,Zp0,Zp1,Zp2,Zp3,Zqb,Zqc,Zq5,Zq6,Zqh,Zqi,Zqk,Zql,Zqm,Zqn,Zqo,List.length_drop,List.length_replicate,eq_self,true_and,and_true,Nat.zero_add,Nat.mul_one,Nat.sub_zero,htl,hdl]
theorem okI2 {x y : AV} (hx : isF x = true) (hy : isF y = true) : okI [x, y] := by
  intro z hz
  simp only [List.mem_cons, List.not_mem_nil, or_false] at hz
  rcases hz with rfl | rfl <;> assumption
theorem tkF_byt {b : List Int} (hb : byt8 b) (m : Bool) (n : Nat) : byt8 (tkF b m n).1 := by
  unfold tkF
  split
  · intro x hx; rw [List.eq_of_mem_replicate hx]; omega
  · exact byt8_take hb n
theorem tkF_byt2 {b : List Int} (hb : byt8 b) (m : Bool) (n : Nat) : byt8 (tkF b m n).2.1 := by
  unfold tkF
  split
  · intro x hx; cases hx
  · exact byt8_drop hb n
theorem tkF_len (b : List Int) (m : Bool) (n : Nat) : (tkF b m n).1.length = n := by
  unfold tkF
  split
  · simp
  · simp only [List.length_take]; omega
theorem tkF_len2 (b : List Int) (m : Bool) (n : Nat) : (tkF b m n).2.1.length ≤ b.length := by
  unfold tkF
  split
  · simp
  · simp only [List.length_drop]; omega
theorem or64 (x c : Int) (h0 : 0 ≤ x) (h2 : 0 ≤ c ∧ c < 256) : bits .or .u64 (IntKind.u64.wrap (x * 256)) c = (256 * x + c) % 18446744073709551616 := by
  rw [wu64, bits_join .u64 64 (by decide) (fun m h0 h1 => by rw [wu64]; omega) 8 _ _ (by omega) (by omega) (by omega) h2.1 (by omega) (by omega)]
  omega
def i37 (t : List Int) (ob : Ob) (k : Nat) (s : St) : Prop := ∃ i : Nat, i + k = t.length ∧ s = ⟨[(5, L (ofN t i)), (10, .fz t.length (cB t)), (11, I (IN t.length)), (12, I (IN i))], [(0, ob)], 1⟩
theorem rdnum_con (b : List Int) (hb : byt8 b) (m : Bool) (n : Nat) (hl : b.length ≤ 1000000) (hn : n ≤ 1000) : Con Try.prog 37 [(0, ⟨[fB b, Bo m], 1, 0⟩)] [.pt 0 0, I (IN n)] [(0, ⟨[fB (tkF b m n).2.1, Bo (tkF b m n).2.2], 1, 0⟩)] (L (ofN (tkF b m n).1 (tkF b m n).1.length)) := by
  refine con_n b37 rfl ?_
  have ht := take_con b m n hl hn
  have hbt := tkF_byt hb m n
  have htl := tkF_len b m n
  obtain ⟨t, ht0⟩ : ∃ t, t = (tkF b m n).1 := ⟨_, rfl⟩
  obtain ⟨d, hd0⟩ : ∃ d, d = (tkF b m n).2.1 := ⟨_, rfl⟩
  obtain ⟨m', hm0⟩ : ∃ d, d = (tkF b m n).2.2 := ⟨_, rfl⟩
  rw [← ht0] at hbt htl
  rw [← ht0, ← hd0, ← hm0] at ht ⊢
  sym =>
  simp [Zaa,Zab,Zad,Zae,Zaf,Zag,Zah,Zai,Zak,Zal,Zam,Zan,Zap,Zaq,Zav,Zaw,Zay,Zaz,Za0,Za1,Za2,Za3,Za4,Za5,Za9,Zba,Zbb,Zbf,Zbl,Zbt,Zb1,Zcn,Zdm,Zrj,Zrl,Zrm,Zrn,Zro,Zrp,Zrq,Zrr,Zrt,Zru,Zrv,Zrw,Zrx,Zry,Zrz,Zr1,Zr2,Zsb,Zsd,Zse,Zsf,Zsg,Zsh,Zsj,Zsm,Zsn,Zso,Zsp,Zsr,Zsw,Zev,Zew,Zez,Ze0,Ze2,Ze5,Zfc,Zfd,Zfe,Zfh,Zfn,Zfo,Zfq,Zfw,Zf1,Zgh,Zgi,Zgr,Zgu,Zg4,Zg6,Zho,Zh6,Zh7,Zjl,Zjm,Zju,Zj9,Zlj,Zlu,Zly,Zl2,Zmt,Zmv,Zmw,Zmx,Zmz,Zm2,Zm6,Zm9,Zna,Znb,Zne,Znf,Zng,Zns,Znt,Znw,Zn5,Zrd,Zos,Zot,Zo7,Zo8,Zo9,Zpa,Zpc,Zpg,Zpi,Zqb,Zqc,Zq5,Zq6,Zqf,Zqg,Zqh,Zqi,Zqk,Zql,Zqm,Zqn,Zqr,eq_self,true_and,and_true,Nat.mul_one,callable_38]
  tactic =>
  and_intros <;> try (first | omega | rfl | assumption | simp only [IN]; omega)
  refine clG [some ⟨[fB d, Bo m'], 1, 0⟩] none ht rfl ⟨⟨okI2 rfl rfl, trivial⟩, trivial, rfl⟩ ?_
  sym =>
  simp [Zaa,Zab,Zad,Zae,Zaf,Zag,Zah,Zai,Zak,Zal,Zam,Zan,Zap,Zaq,Zav,Zaw,Zay,Zaz,Za0,Za1,Za2,Za3,Za4,Za5,Za9,Zba,Zbb,Zbf,Zbl,Zbt,Zb1,Zcn,Zdm,Zrj,Zrl,Zrm,Zrn,Zro,Zrp,Zrq,Zrr,Zrt,Zru,Zrv,Zrw,Zrx,Zry,Zrz,Zr1,Zr2,Zsb,Zsd,Zse,Zsf,Zsg,Zsh,Zsj,Zsm,Zsn,Zso,Zsp,Zsr,Zsw,Zev,Zew,Zez,Ze0,Ze2,Ze5,Zfc,Zfd,Zfe,Zfh,Zfn,Zfo,Zfq,Zfw,Zf1,Zgh,Zgi,Zgr,Zgu,Zg4,Zg6,Zho,Zh6,Zh7,Zjl,Zjm,Zju,Zj9,Zlj,Zlu,Zly,Zl2,Zmt,Zmv,Zmw,Zmx,Zmz,Zm2,Zm6,Zm9,Zna,Znb,Zne,Znf,Zng,Zns,Znt,Znw,Zn5,Zrd,Zos,Zot,Zo7,Zo8,Zo9,Zpa,Zpc,Zpg,Zpi,Zqb,Zqc,Zq5,Zq6,Zqf,Zqg,Zqh,Zqi,Zqk,Zql,Zqm,Zqn,Zqr,eq_self,true_and,and_true,Nat.mul_one]
  tactic =>
  refine lpA (i37 t ⟨[fB d, Bo m'], 1, 0⟩) t.length [(0, 0)] _ ⟨0, by omega, rfl⟩ (wkM ?_) ?_
  · sym =>
    simp [Zaa,Zab,Zad,Zae,Zaf,Zag,Zah,Zai,Zak,Zal,Zam,Zan,Zap,Zaq,Zav,Zaw,Zay,Zaz,Za0,Za1,Za2,Za3,Za4,Za5,Za9,Zba,Zbb,Zbf,Zbl,Zbt,Zb1,Zcn,Zdm,Zrj,Zrl,Zrm,Zrn,Zro,Zrp,Zrq,Zrr,Zrt,Zru,Zrv,Zrw,Zrx,Zry,Zrz,Zr1,Zr2,Zsb,Zsd,Zse,Zsf,Zsg,Zsh,Zsj,Zsm,Zsn,Zso,Zsp,Zsr,Zsw,Zev,Zew,Zez,Ze0,Ze2,Ze5,Zfc,Zfd,Zfe,Zfh,Zfn,Zfo,Zfq,Zfw,Zf1,Zgh,Zgi,Zgr,Zgu,Zg4,Zg6,Zho,Zh6,Zh7,Zjl,Zjm,Zju,Zj9,Zlj,Zlu,Zly,Zl2,Zmt,Zmv,Zmw,Zmx,Zmz,Zm2,Zm6,Zm9,Zna,Znb,Zne,Znf,Zng,Zns,Znt,Znw,Zn5,Zrd,Zos,Zot,Zo7,Zo8,Zo9,Zpa,Zpc,Zpg,Zpi,Zqb,Zqc,Zq5,Zq6,Zqf,Zqg,Zqh,Zqi,Zqk,Zql,Zqm,Zqn,Zqr,eq_self,true_and,and_true,Nat.mul_one]
    tactic =>
    rfl
  rintro k s ⟨i, hi, rfl⟩
  by_cases h : i < t.length
  · have hw := w64s i (by omega)
    have hg := cB_get t i h
    have hx := ofN_bd t i
    have hc := byt8_get hbt i
    have hs : ofN t (i + 1) = (256 * ofN t i + t.getD i 0) % 18446744073709551616 := rfl
    obtain ⟨x, hxx⟩ : ∃ x, x = ofN t i := ⟨_, rfl⟩
    obtain ⟨c, hcc⟩ : ∃ c, c = t.getD i 0 := ⟨_, rfl⟩
    rw [← hxx] at hx hs ⊢
    rw [← hcc] at hg hc hs
    have hwc : IntKind.u64.wrap c = c := by rw [wu64]; omega
    have e8 : min 8 IntKind.u64.bits = 8 := by decide
    have ho := or64 x c hx.1 hc
    sym =>
    simp [Zaa,Zab,Zad,Zae,Zaf,Zag,Zah,Zai,Zak,Zal,Zam,Zan,Zap,Zaq,Zav,Zaw,Zay,Zaz,Za0,Za1,Za2,Za3,Za4,Za5,Za9,Zba,Zbb,Zbf,Zbl,Zbt,Zb1,Zcn,Zdm,Zrj,Zrl,Zrm,Zrn,Zro,Zrp,Zrq,Zrr,Zrt,Zru,Zrv,Zrw,Zrx,Zry,Zrz,Zr1,Zr2,Zsb,Zsd,Zse,Zsf,Zsg,Zsh,Zsj,Zsm,Zsn,Zso,Zsp,Zsr,Zsw,Zev,Zew,Zez,Ze0,Ze2,Ze5,Zfc,Zfd,Zfe,Zfh,Zfn,Zfo,Zfq,Zfw,Zf1,Zgh,Zgi,Zgr,Zgu,Zg4,Zg6,Zho,Zh6,Zh7,Zjl,Zjm,Zju,Zj9,Zlj,Zlu,Zly,Zl2,Zmt,Zmv,Zmw,Zmx,Zmz,Zm2,Zm6,Zm9,Zna,Znb,Zne,Znf,Zng,Zns,Znt,Znw,Zn5,Zrd,Zos,Zot,Zo7,Zo8,Zo9,Zpa,Zpc,Zpg,Zpi,Zqb,Zqc,Zq5,Zq6,Zqf,Zqg,Zqh,Zqi,Zqk,Zql,Zqm,Zqn,Zqr,eq_self,true_and,and_true,Nat.mul_one,h,hw,hg,hwc,e8,ho,cB_length]
    tactic =>
    and_intros <;> try (first | omega | rfl | assumption | simp only [IN]; omega)
    unfold NextL; refine ⟨(k - 1), [(0, 0)], _, by omega, ⟨i + 1, by omega, rfl⟩, wkM ?_⟩
    sym =>
    simp [Zaa,Zab,Zad,Zae,Zaf,Zag,Zah,Zai,Zak,Zal,Zam,Zan,Zap,Zaq,Zav,Zaw,Zay,Zaz,Za0,Za1,Za2,Za3,Za4,Za5,Za9,Zba,Zbb,Zbf,Zbl,Zbt,Zb1,Zcn,Zdm,Zrj,Zrl,Zrm,Zrn,Zro,Zrp,Zrq,Zrr,Zrt,Zru,Zrv,Zrw,Zrx,Zry,Zrz,Zr1,Zr2,Zsb,Zsd,Zse,Zsf,Zsg,Zsh,Zsj,Zsm,Zsn,Zso,Zsp,Zsr,Zsw,Zev,Zew,Zez,Ze0,Ze2,Ze5,Zfc,Zfd,Zfe,Zfh,Zfn,Zfo,Zfq,Zfw,Zf1,Zgh,Zgi,Zgr,Zgu,Zg4,Zg6,Zho,Zh6,Zh7,Zjl,Zjm,Zju,Zj9,Zlj,Zlu,Zly,Zl2,Zmt,Zmv,Zmw,Zmx,Zmz,Zm2,Zm6,Zm9,Zna,Znb,Zne,Znf,Zng,Zns,Znt,Znw,Zn5,Zrd,Zos,Zot,Zo7,Zo8,Zo9,Zpa,Zpc,Zpg,Zpi,Zqb,Zqc,Zq5,Zq6,Zqf,Zqg,Zqh,Zqi,Zqk,Zql,Zqm,Zqn,Zqr,eq_self,true_and,and_true,Nat.mul_one]
    tactic =>
    rw [hs]
  · obtain rfl : i = t.length := by omega
    sym =>
    simp [Zaa,Zab,Zad,Zae,Zaf,Zag,Zah,Zai,Zak,Zal,Zam,Zan,Zap,Zaq,Zav,Zaw,Zay,Zaz,Za0,Za1,Za2,Za3,Za4,Za5,Za9,Zba,Zbb,Zbf,Zbl,Zbt,Zb1,Zcn,Zdm,Zrj,Zrl,Zrm,Zrn,Zro,Zrp,Zrq,Zrr,Zrt,Zru,Zrv,Zrw,Zrx,Zry,Zrz,Zr1,Zr2,Zsb,Zsd,Zse,Zsf,Zsg,Zsh,Zsj,Zsm,Zsn,Zso,Zsp,Zsr,Zsw,Zev,Zew,Zez,Ze0,Ze2,Ze5,Zfc,Zfd,Zfe,Zfh,Zfn,Zfo,Zfq,Zfw,Zf1,Zgh,Zgi,Zgr,Zgu,Zg4,Zg6,Zho,Zh6,Zh7,Zjl,Zjm,Zju,Zj9,Zlj,Zlu,Zly,Zl2,Zmt,Zmv,Zmw,Zmx,Zmz,Zm2,Zm6,Zm9,Zna,Znb,Zne,Znf,Zng,Zns,Znt,Znw,Zn5,Zrd,Zos,Zot,Zo7,Zo8,Zo9,Zpa,Zpc,Zpg,Zpi,Zqb,Zqc,Zq5,Zq6,Zqf,Zqg,Zqh,Zqi,Zqk,Zql,Zqm,Zqn,Zqr,eq_self,true_and,and_true,Nat.mul_one,h]
    tactic =>
    refine endM [(0, 0)] 2 ?_
    sym =>
    simp [Zaa,Zab,Zad,Zae,Zaf,Zag,Zah,Zai,Zak,Zal,Zam,Zan,Zap,Zaq,Zav,Zaw,Zay,Zaz,Za0,Za1,Za2,Za3,Za4,Za5,Za9,Zba,Zbb,Zbf,Zbl,Zbt,Zb1,Zcn,Zdm,Zrj,Zrl,Zrm,Zrn,Zro,Zrp,Zrq,Zrr,Zrt,Zru,Zrv,Zrw,Zrx,Zry,Zrz,Zr1,Zr2,Zsb,Zsd,Zse,Zsf,Zsg,Zsh,Zsj,Zsm,Zsn,Zso,Zsp,Zsr,Zsw,Zev,Zew,Zez,Ze0,Ze2,Ze5,Zfc,Zfd,Zfe,Zfh,Zfn,Zfo,Zfq,Zfw,Zf1,Zgh,Zgi,Zgr,Zgu,Zg4,Zg6,Zho,Zh6,Zh7,Zjl,Zjm,Zju,Zj9,Zlj,Zlu,Zly,Zl2,Zmt,Zmv,Zmw,Zmx,Zmz,Zm2,Zm6,Zm9,Zna,Znb,Zne,Znf,Zng,Zns,Znt,Znw,Zn5,Zrd,Zos,Zot,Zo7,Zo8,Zo9,Zpa,Zpc,Zpg,Zpi,Zqb,Zqc,Zq5,Zq6,Zqf,Zqg,Zqh,Zqi,Zqk,Zql,Zqm,Zqn,Zqr,eq_self,true_and,and_true,Nat.mul_one]
/-! ### the cells of a frame -/
abbrev V (n : Nat) := {l : List Int // l.length = n}
def fc (k : Int) (t : V 16) (es er o n : Int) (su : V 32) (d r : AV) (c : Int) : List AV := I k :: (cB t.1 ++ (U es :: U er :: L o :: L n :: (cB su.1 ++ [d, r, I c])))
section
variable (k : Int) (t : V 16) (es er o n : Int) (su : V 32) (d r : AV) (c : Int)
theorem v16 : (cB t.1).length = 16 := by rw [cB_length]; exact t.2
theorem v32 : (cB su.1).length = 32 := by rw [cB_length]; exact su.2
theorem fc_len : (fc k t es er o n su d r c).length = 56 := by
  have h1 := v16 t
  have h2 := v32 su
  simp [fc, h1, h2]
theorem ap_at (a b : List AV) (j : Nat) : (a ++ b).getD (a.length + j) .un = b.getD j .un := by
  rw [List.getD_eq_getElem?_getD, List.getElem?_append_right (by omega), List.getD_eq_getElem?_getD, Nat.add_sub_cancel_left]
theorem fc_at (j : Nat) : (fc k t es er o n su d r c).getD (17 + j) .un = (U es :: U er :: L o :: L n :: (cB su.1 ++ [d, r, I c])).getD j .un := by
  have h1 := v16 t
  have := ap_at (cB t.1) (U es :: U er :: L o :: L n :: (cB su.1 ++ [d, r, I c])) j
  rw [h1] at this
  rw [← this, show 17 + j = (16 + j) + 1 from by omega]
  rfl
theorem fc_at2 (j : Nat) : (fc k t es er o n su d r c).getD (53 + j) .un = [d, r, I c].getD j .un := by
  have h2 := v32 su
  have := ap_at (cB su.1) [d, r, I c] j
  rw [h2] at this
  rw [← this, show 53 + j = 17 + ((32 + j) + 4) from by omega, fc_at]
  rfl
theorem fc_0 : (fc k t es er o n su d r c).getD 0 .un = I k := rfl
theorem fc_17 : (fc k t es er o n su d r c).getD 17 .un = U es := fc_at k t es er o n su d r c 0
theorem fc_18 : (fc k t es er o n su d r c).getD 18 .un = U er := fc_at k t es er o n su d r c 1
theorem fc_19 : (fc k t es er o n su d r c).getD 19 .un = L o := fc_at k t es er o n su d r c 2
theorem fc_20 : (fc k t es er o n su d r c).getD 20 .un = L n := fc_at k t es er o n su d r c 3
theorem fc_53 : (fc k t es er o n su d r c).getD 53 .un = d := fc_at2 k t es er o n su d r c 0
theorem fc_54 : (fc k t es er o n su d r c).getD 54 .un = r := fc_at2 k t es er o n su d r c 1
theorem fc_55 : (fc k t es er o n su d r c).getD 55 .un = I c := fc_at2 k t es er o n su d r c 2
theorem fc_tok : List.take 16 (List.drop 1 (fc k t es er o n su d r c)) = cB t.1 := by
  have h1 := v16 t
  show List.take 16 (cB t.1 ++ _) = _
  rw [List.take_append_of_le_length (by omega), List.take_of_length_le (by omega)]
theorem fc_dr21 : List.drop 21 (fc k t es er o n su d r c) = cB su.1 ++ [d, r, I c] := by
  have h1 := v16 t
  show List.drop 20 (cB t.1 ++ _) = _
  rw [List.drop_append, List.drop_of_length_le (by omega), h1]
  rfl
theorem fc_sum : List.take 32 (List.drop 21 (fc k t es er o n su d r c)) = cB su.1 := by
  have h2 := v32 su
  rw [fc_dr21, List.take_append_of_le_length (by omega), List.take_of_length_le (by omega)]
theorem st_at (a b : List AV) (j : Nat) (v : AV) : (a ++ b).set (a.length + j) v = a ++ b.set j v := by
  rw [List.set_append_right _ _ (by omega), Nat.add_sub_cancel_left]
theorem fc_st (j : Nat) (v : AV) : (fc k t es er o n su d r c).set (17 + j) v = I k :: (cB t.1 ++ (U es :: U er :: L o :: L n :: (cB su.1 ++ [d, r, I c])).set j v) := by
  have h1 := v16 t
  have := st_at (cB t.1) (U es :: U er :: L o :: L n :: (cB su.1 ++ [d, r, I c])) j v
  rw [h1] at this
  rw [← this, show 17 + j = (16 + j) + 1 from by omega]
  rfl
theorem fc_st2 (j : Nat) (v : AV) : (fc k t es er o n su d r c).set (53 + j) v = I k :: (cB t.1 ++ (U es :: U er :: L o :: L n :: (cB su.1 ++ [d, r, I c].set j v))) := by
  have h2 := v32 su
  have := st_at (cB su.1) [d, r, I c] j v
  rw [h2] at this
  rw [← this, show 53 + j = 17 + ((32 + j) + 4) from by omega, fc_st]
  rfl
theorem fs_0 (v : Int) : (fc k t es er o n su d r c).set 0 (I v) = fc v t es er o n su d r c := rfl
theorem fs_17 (v : Int) : (fc k t es er o n su d r c).set 17 (U v) = fc k t v er o n su d r c := fc_st k t es er o n su d r c 0 _
theorem fs_18 (v : Int) : (fc k t es er o n su d r c).set 18 (U v) = fc k t es v o n su d r c := fc_st k t es er o n su d r c 1 _
theorem fs_19 (v : Int) : (fc k t es er o n su d r c).set 19 (L v) = fc k t es er v n su d r c := fc_st k t es er o n su d r c 2 _
theorem fs_20 (v : Int) : (fc k t es er o n su d r c).set 20 (L v) = fc k t es er o v su d r c := fc_st k t es er o n su d r c 3 _
theorem fs_53 (v : AV) : (fc k t es er o n su d r c).set 53 v = fc k t es er o n su v r c := fc_st2 k t es er o n su d r c 0 _
theorem fs_54 (v : AV) : (fc k t es er o n su d r c).set 54 v = fc k t es er o n su d v c := fc_st2 k t es er o n su d r c 1 _
theorem fs_55 (v : Int) : (fc k t es er o n su d r c).set 55 (I v) = fc k t es er o n su d r v := fc_st2 k t es er o n su d r c 2 _
theorem spl_app : ∀ (x m a b : List AV), m.length = x.length → spl (a ++ (m ++ b)) a.length x = a ++ (x ++ b)
  | [], [], a, b, _ => rfl
  | x :: r, y :: m, a, b, h => by
    show spl ((a ++ (y :: (m ++ b))).set a.length x) (a.length + 1) r = _
    have e : (a ++ (y :: (m ++ b))).set a.length x = (a ++ [x]) ++ (m ++ b) := by
      rw [List.set_append_right _ _ (Nat.le_refl _), Nat.sub_self]; simp
    rw [e]
    have := spl_app r m (a ++ [x]) b (by simpa using h)
    simpa using this
theorem fp_1 (u : V 16) : spl (fc k t es er o n su d r c) 1 (cB u.1) = fc k u es er o n su d r c :=
  spl_app (cB u.1) (cB t.1) [I k] _ (by rw [v16, v16])
theorem fp_21 (u : V 32) : spl (fc k t es er o n su d r c) 21 (cB u.1) = fc k t es er o n u d r c := by
  have h1 := v16 t
  have := spl_app (cB u.1) (cB su.1) (I k :: (cB t.1 ++ [U es, U er, L o, L n])) [d, r, I c] (by rw [v32, v32])
  have e : (I k :: (cB t.1 ++ [U es, U er, L o, L n])).length = 21 := by simp [h1]
  rw [e] at this
  have e2 : ∀ w : V 32, fc k t es er o n w d r c = (I k :: (cB t.1 ++ [U es, U er, L o, L n])) ++ (cB w.1 ++ [d, r, I c]) := by intro w; simp [fc]
  rw [e2, e2]
  exact this
end
theorem fp_0 (x : List AV) (h : x.length = 56) (k : Int) (t : V 16) (es er o n : Int) (su : V 32) (d r : AV) (c : Int) : spl (fc k t es er o n su d r c) 0 x = x := by
  have := spl_app x (fc k t es er o n su d r c) [] [] (by rw [fc_len, h])
  simpa using this
theorem fp_f (k : Int) (t : V 16) (es er o n : Int) (su : V 32) (d r : AV) (c : Int) (k' : Int) (t' : V 16) (es' er' o' n' : Int) (su' : V 32) (d' r' : AV) (c' : Int) :
    spl (fc k t es er o n su d r c) 0 (fc k' t' es' er' o' n' su' d' r' c') = fc k' t' es' er' o' n' su' d' r' c' := fp_0 _ (fc_len ..) ..
theorem rb_1 (k : Int) (t : V 16) (es er o n : Int) (su : V 32) (d r : AV) (c : Int) : rdb (fc k t es er o n su d r c) 1 16 = cB t.1 := fc_tok ..
theorem rb_21 (k : Int) (t : V 16) (es er o n : Int) (su : V 32) (d r : AV) (c : Int) : rdb (fc k t es er o n su d r c) 21 32 = cB su.1 := fc_sum ..
theorem rb_0 (k : Int) (t : V 16) (es er o n : Int) (su : V 32) (d r : AV) (c : Int) : rdb (fc k t es er o n su d r c) 0 56 = fc k t es er o n su d r c := rdb_all (fc_len ..)
def z16 : V 16 := ⟨List.replicate 16 0, rfl⟩
def z32 : V 32 := ⟨List.replicate 32 0, rfl⟩
theorem zF_fc : zF0 = fc 0 z16 0 0 0 0 z32 .nl .nl 0 := rfl
theorem frzs1_pre (st : St) (ys : List AV) : ∀ xs : List AV, (∀ x ∈ xs, ∃ v, x = .sc v) → frzs1 st (xs ++ ys) = (match frzs1 st ys with | some (a, l, p) => some (xs ++ a, l, p) | none => none)
  | [], _ => by
    show frzs1 st ys = _
    cases frzs1 st ys <;> rfl
  | x :: xs, h => by
    obtain ⟨v, rfl⟩ := h x (List.mem_cons_self ..)
    have ih := frzs1_pre st ys xs (fun x hx => h x (List.mem_cons_of_mem _ hx))
    rw [List.cons_append, frzs1, ih]
    have e : frz1 st (.sc v) = some (.sc v, [], True) := rfl
    rw [e]
    cases frzs1 st ys with
    | none => rfl
    | some z =>
      obtain ⟨a, l, p⟩ := z
      simp
/-- A frame that is handed over. -/
def fcF (k : Int) (t : V 16) (es er o n : Int) (su : V 32) (c : Int) : Option (AV × List (Nat × Nat) × Prop) → Option (AV × List (Nat × Nat) × Prop) → Option (List AV × List (Nat × Nat) × Prop)
  | some (d, l, p), some (r, m, q) => some (fc k t es er o n su d r c, l ++ m, p ∧ q)
  | _, _ => none
theorem fcF1 (k : Int) (t : V 16) (es er o n : Int) (su : V 32) (c : Int) (d r : AV) (l m : List (Nat × Nat)) (p q : Prop) : fcF k t es er o n su c (some (d, l, p)) (some (r, m, q)) = some (fc k t es er o n su d r c, l ++ m, p ∧ q) := rfl
theorem cB_sc (l : List Int) : ∀ x ∈ cB l, ∃ v, x = AV.sc v := by
  intro x hx
  obtain ⟨a, _, rfl⟩ := List.mem_map.1 hx
  exact ⟨_, rfl⟩
theorem fc_split (k : Int) (t : V 16) (es er o n : Int) (su : V 32) (d r : AV) (c : Int) : fc k t es er o n su d r c = (I k :: (cB t.1 ++ (U es :: U er :: L o :: L n :: cB su.1))) ++ [d, r, I c] := by simp [fc]
theorem fc_sc (k : Int) (t : V 16) (es er o n : Int) (su : V 32) : ∀ x ∈ I k :: (cB t.1 ++ (U es :: U er :: L o :: L n :: cB su.1)), ∃ v, x = AV.sc v := by
  intro x hx
  simp only [List.mem_cons, List.mem_append] at hx
  rcases hx with rfl | hx | rfl | rfl | rfl | rfl | hx
  · exact ⟨_, rfl⟩
  · exact cB_sc _ x hx
  · exact ⟨_, rfl⟩
  · exact ⟨_, rfl⟩
  · exact ⟨_, rfl⟩
  · exact ⟨_, rfl⟩
  · exact cB_sc _ x hx
theorem fc_prI (k : Int) (t : V 16) (es er o n : Int) (su : V 32) : okI (I k :: (cB t.1 ++ (U es :: U er :: L o :: L n :: cB su.1))) := by
  intro x hx
  obtain ⟨v, rfl⟩ := fc_sc k t es er o n su x hx
  rfl
theorem fz_fc (st : St) (k : Int) (t : V 16) (es er o n : Int) (su : V 32) (d r : AV) (c : Int) : frzs1 st (fc k t es er o n su d r c) = fcF k t es er o n su c (frz1 st d) (frz1 st r) := by
  rw [fc_split, frzs1_pre _ _ _ (fc_sc k t es er o n su)]
  simp only [frzs1]
  have ec : frz1 st (I c) = some (I c, [], True) := rfl
  rw [ec]
  cases frz1 st d with
  | none => rfl
  | some z =>
    obtain ⟨d', l, p⟩ := z
    cases frz1 st r with
    | none => rfl
    | some z =>
      obtain ⟨r', m, q⟩ := z
      simp [fcF, fc_split]
theorem fc_okI (k : Int) (t : V 16) (es er o n : Int) (su : V 32) (d r : AV) (c : Int) (hd : isF d = true) (hr : isF r = true) : okI (fc k t es er o n su d r c) := by
  rw [fc_split]
  intro x hx
  rcases List.mem_append.1 hx with hx | hx
  · exact fc_prI k t es er o n su x hx
  · simp only [List.mem_cons, List.not_mem_nil, or_false] at hx
    rcases hx with rfl | rfl | rfl
    · exact hd
    · exact hr
    · rfl
theorem fc_rs {ρ : List (Nat × Nat)} {hp hp' : List (Nat × Ob)} (k : Int) (t : V 16) (es er o n : Int) (su : V 32) (d r d' r' : AV) (c : Int) : rv1s ρ hp hp' (fc k t es er o n su d r c) (fc k t es er o n su d' r' c) = (rv1 ρ hp hp' d d' ∧ rv1 ρ hp hp' r r') := by
  have pre : ∀ (xs ys ys' : List AV), okI xs → rv1s ρ hp hp' (xs ++ ys) (xs ++ ys') = rv1s ρ hp hp' ys ys' := by
    intro xs
    induction xs with
    | nil => intro ys ys' _; rfl
    | cons x xs ih =>
      intro ys ys' h
      show (rv1 ρ hp hp' x x ∧ rv1s ρ hp hp' (xs ++ ys) (xs ++ ys')) = _
      rw [ih ys ys' (fun z hz => h z (List.mem_cons_of_mem _ hz))]
      exact propext ⟨fun h => h.2, fun h2 => ⟨rv1_self (h x (List.mem_cons_self ..)), h2⟩⟩
  rw [fc_split, fc_split, pre _ _ _ (fc_prI k t es er o n su)]
  exact propext ⟨fun h => ⟨h.1, h.2.1⟩, fun h => ⟨h.1, h.2, rv1_self rfl, trivial⟩⟩
theorem fc_ok (st : St) (k : Int) (t : V 16) (es er o n : Int) (su : V 32) (d r : AV) (c : Int) : okCells st (fc k t es er o n su d r c) = okCells st [d, r] := by
  rw [fc_split]
  refine propext ⟨fun h x hx => h x (List.mem_append_right _ ?_), fun h x hx => ?_⟩
  · simp only [List.mem_cons, List.not_mem_nil, or_false] at hx ⊢
    rcases hx with rfl | rfl <;> simp
  · rcases List.mem_append.1 hx with hx | hx
    · obtain ⟨v, rfl⟩ := fc_sc k t es er o n su x hx
      have := fc_prI k t es er o n su _ hx
      simp only [List.mem_cons, List.mem_append] at hx
      rcases hx with e | hx | e | e | e | e | hx
      · rw [e]; rfl
      · exact okF_cells (cB_okF _) st _ hx
      · rw [e]; rfl
      · rw [e]; rfl
      · rw [e]; rfl
      · rw [e]; rfl
      · exact okF_cells (cB_okF _) st _ hx
    · simp only [List.mem_cons, List.not_mem_nil, or_false] at hx
      rcases hx with rfl | rfl | rfl
      · exact h _ (by simp)
      · exact h _ (by simp)
      · rfl
theorem fc_id (k : Int) (t : V 16) (es er o n : Int) (su : V 32) (d r : AV) (c : Int) : idL (fc k t es er o n su d r c) = ids1 d ++ ids1 r := by
  have pre : ∀ (xs ys : List AV), (∀ x ∈ xs, ∃ v, x = AV.sc v) → idL (xs ++ ys) = idL ys := by
    intro xs
    induction xs with
    | nil => intro ys _; rfl
    | cons x xs ih =>
      intro ys h
      obtain ⟨v, rfl⟩ := h x (List.mem_cons_self ..)
      show ids1 (.sc v) ++ idL (xs ++ ys) = _
      rw [ih ys (fun z hz => h z (List.mem_cons_of_mem _ hz))]; rfl
  rw [fc_split, pre _ _ (fc_sc k t es er o n su)]
  show ids1 d ++ (ids1 r ++ ([] ++ [])) = _
  simp
end Go.Proofs.Ythhccabdlajngaa.FrmC
