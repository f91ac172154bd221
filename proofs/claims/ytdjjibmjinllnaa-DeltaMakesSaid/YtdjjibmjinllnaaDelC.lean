import Derived.Test.YtdjjibmjinllnaaCodF
import Derived.Test.YtdjjibmjinllnaaDelB
namespace Go.Proofs.Ytdjjibmjinllnaa.DelC
open Go Go.Sim Go.Sim.E Go.RowKit Go.Proofs Go.Proofs.Ytdjjibmjinllnaa.Cod Go.Proofs.Ytdjjibmjinllnaa.Tab Go.Proofs.Ytdjjibmjinllnaa.Bse Go.Proofs.Ytdjjibmjinllnaa.DelA Go.Proofs.Ytdjjibmjinllnaa.DelB
set_option linter.unusedVariables false
set_option linter.unusedSimpArgs false
set_option maxRecDepth 100000
set_option maxHeartbeats 4000000
/-- A number in four bytes. -/
def four (n : Int) : List Int := [n / 16777216 % 256, n / 65536 % 256, n / 256 % 256, n % 256]
theorem four_length (n : Int) : (four n).length = 4 := rfl
theorem four_step (n : Int) (j : Nat) (h : j < 4) : (four n).take (j + 1) = (four n).take j ++ [IntKind.u8.wrap (n.fdiv (2 ^ (8 * (3 - j))))] := by
  rw [w8u]
  rw [Int.fdiv_eq_ediv_of_nonneg _ (Int.le_of_lt (Int.pow_pos (by decide)))]
  match j, h with
  | 0, _ => rfl
  | 1, _ => rfl
  | 2, _ => rfl
  | 3, _ => show four n = (four n).take 3 ++ [n / 1 % 256]; rw [Int.ediv_one]; rfl
def i58 (b : List Int) (n : Int) (k : Nat) (s : St) : Prop := ∃ j : Nat, j + k = 4 ∧ s = ⟨[(0, .lv 1 0 (b.length + j)), (1, U n), (5, I (3 - (j : Int)))], [(1, ⟨cB (b ++ (four n).take j), 1, 0⟩)], 2⟩
theorem number_con (b : List Int) (n : Int) (hb : b.length ≤ 100000000000000) : Con Try.prog 58 [(0, ⟨cB b, 1, 0⟩)] [.lv 0 0 b.length, U n] [(1, ⟨cB (b ++ four n), 1, 0⟩)] (.lv 1 0 (b.length + 4)) := by
  refine con_n b58 rfl ?_
  sym =>
  simp [Zaa,Zab,Zad,Zae,Zaf,Zag,Zah,Zai,Zak,Zal,Zam,Zan,Zap,Zaq,Zav,Zaw,Zay,Zaz,Za0,Za1,Za2,Za3,Za4,Za5,Za9,Zba,Zbb,Zbf,Zbl,Zcz,Zc5,Zev,Zew,Zez,Ze0,Ze2,Ze3,Ze4,Ze5,Zfc,Zfd,Zfe,Zff,Zfg,Zfh,Zfn,Zfp,Zfr,Zfs,Zf4,Zgh,Zgi,Zhf,Zhg,Zhh,Ziq,Zir,Zix,Ziz,Zi0,Zi2,Zi3,Zi7,Zjj,Zjk,Zjo,Zmt,Zmv,Zmw,Zmx,Zmz,Zm2,Zna,Znb,Znh,Znl,Znm,Znn,Zno,Znp,Znr,Zos,Zot,Zo7,Zo8,Zo9,Zpc,Zpo,Zq5,Zq6,Zqf,Zqg,Zqh,Zqi,Zqk,Zql,Zqm,Zqn,Zqr,List.append_assoc,List.length_append,eq_self,true_and,and_true,Nat.add_zero,Nat.mul_one]
  tactic =>
  refine lpA (i58 b n) 4 [(1, 0)] _ ⟨0, by omega, rfl⟩ (wkM ?_) ?_
  · sym =>
    simp [Zaa,Zab,Zad,Zae,Zaf,Zag,Zah,Zai,Zak,Zal,Zam,Zan,Zap,Zaq,Zav,Zaw,Zay,Zaz,Za0,Za1,Za2,Za3,Za4,Za5,Za9,Zba,Zbb,Zbf,Zbl,Zcz,Zc5,Zev,Zew,Zez,Ze0,Ze2,Ze3,Ze4,Ze5,Zfc,Zfd,Zfe,Zff,Zfg,Zfh,Zfn,Zfp,Zfr,Zfs,Zf4,Zgh,Zgi,Zhf,Zhg,Zhh,Ziq,Zir,Zix,Ziz,Zi0,Zi2,Zi3,Zi7,Zjj,Zjk,Zjo,Zmt,Zmv,Zmw,Zmx,Zmz,Zm2,Zna,Znb,Znh,Znl,Znm,Znn,Zno,Znp,Znr,Zos,Zot,Zo7,Zo8,Zo9,Zpc,Zpo,Zq5,Zq6,Zqf,Zqg,Zqh,Zqi,Zqk,Zql,Zqm,Zqn,Zqr,List.append_assoc,List.length_append,eq_self,true_and,and_true,Nat.add_zero,Nat.mul_one]
    tactic =>
    exact ⟨rfl, cB_rs _ _ _ _ _ (by simp)⟩
  rintro k s ⟨j, hj, rfl⟩
  by_cases h : j < 4
  · have hI : 3 - (j : Int) ≥ 0 := by omega
    have hw := w64 (3 - (j : Int) - 1) (by omega)
    have hm := w64 (8 * (3 - (j : Int))) (by omega)
    have hmn : min (8 * (3 - (j : Int))).toNat IntKind.u32.bits = 8 * (3 - j) := by simp only [IntKind.bits]; omega
    have hl : (b ++ (four n).take j).length = b.length + j := by simp [four_length]; omega
    have hs := four_step n j h
    have hcl := cB_length (b ++ (four n).take j)
    sym =>
    simp [Zaa,Zab,Zad,Zae,Zaf,Zag,Zah,Zai,Zak,Zal,Zam,Zan,Zap,Zaq,Zav,Zaw,Zay,Zaz,Za0,Za1,Za2,Za3,Za4,Za5,Za9,Zba,Zbb,Zbf,Zbl,Zcz,Zc5,Zev,Zew,Zez,Ze0,Ze2,Ze3,Ze4,Ze5,Zfc,Zfd,Zfe,Zff,Zfg,Zfh,Zfn,Zfp,Zfr,Zfs,Zf4,Zgh,Zgi,Zhf,Zhg,Zhh,Ziq,Zir,Zix,Ziz,Zi0,Zi2,Zi3,Zi7,Zjj,Zjk,Zjo,Zmt,Zmv,Zmw,Zmx,Zmz,Zm2,Zna,Znb,Znh,Znl,Znm,Znn,Zno,Znp,Znr,Zos,Zot,Zo7,Zo8,Zo9,Zpc,Zpo,Zq5,Zq6,Zqf,Zqg,Zqh,Zqi,Zqk,Zql,Zqm,Zqn,Zqr,List.append_assoc,List.length_append,eq_self,true_and,and_true,Nat.add_zero,Nat.mul_one,hI,hw,hm,hmn]
    tactic =>
    and_intros <;> try (first | omega | rfl | assumption | simp only [IN]; omega)
    unfold NextL; refine ⟨(k - 1), [(1, 11)], _, by omega, ⟨j + 1, by omega, rfl⟩, wkM ?_⟩
    sym =>
    simp [Zaa,Zab,Zad,Zae,Zaf,Zag,Zah,Zai,Zak,Zal,Zam,Zan,Zap,Zaq,Zav,Zaw,Zay,Zaz,Za0,Za1,Za2,Za3,Za4,Za5,Za9,Zba,Zbb,Zbf,Zbl,Zcz,Zc5,Zev,Zew,Zez,Ze0,Ze2,Ze3,Ze4,Ze5,Zfc,Zfd,Zfe,Zff,Zfg,Zfh,Zfn,Zfp,Zfr,Zfs,Zf4,Zgh,Zgi,Zhf,Zhg,Zhh,Ziq,Zir,Zix,Ziz,Zi0,Zi2,Zi3,Zi7,Zjj,Zjk,Zjo,Zmt,Zmv,Zmw,Zmx,Zmz,Zm2,Zna,Znb,Znh,Znl,Znm,Znn,Zno,Znp,Znr,Zos,Zot,Zo7,Zo8,Zo9,Zpc,Zpo,Zq5,Zq6,Zqf,Zqg,Zqh,Zqi,Zqk,Zql,Zqm,Zqn,Zqr,List.append_assoc,List.length_append,eq_self,true_and,and_true,Nat.add_zero,Nat.mul_one]
    tactic =>
    refine ⟨⟨by omega, by show (3 : Int) - (j : Int) - 1 = 3 - ((j + 1 : Nat) : Int); omega⟩, cB_rs _ _ _ _ _ ?_⟩
    rw [hs, ← List.append_assoc, cB_append (b ++ List.take j (four n))]
    rfl
  · have hI : ¬ 3 - (j : Int) ≥ 0 := by omega
    obtain rfl : j = 4 := by omega
    sym =>
    simp [Zaa,Zab,Zad,Zae,Zaf,Zag,Zah,Zai,Zak,Zal,Zam,Zan,Zap,Zaq,Zav,Zaw,Zay,Zaz,Za0,Za1,Za2,Za3,Za4,Za5,Za9,Zba,Zbb,Zbf,Zbl,Zcz,Zc5,Zev,Zew,Zez,Ze0,Ze2,Ze3,Ze4,Ze5,Zfc,Zfd,Zfe,Zff,Zfg,Zfh,Zfn,Zfp,Zfr,Zfs,Zf4,Zgh,Zgi,Zhf,Zhg,Zhh,Ziq,Zir,Zix,Ziz,Zi0,Zi2,Zi3,Zi7,Zjj,Zjk,Zjo,Zmt,Zmv,Zmw,Zmx,Zmz,Zm2,Zna,Znb,Znh,Znl,Znm,Znn,Zno,Znp,Znr,Zos,Zot,Zo7,Zo8,Zo9,Zpc,Zpo,Zq5,Zq6,Zqf,Zqg,Zqh,Zqi,Zqk,Zql,Zqm,Zqn,Zqr,List.append_assoc,List.length_append,eq_self,true_and,and_true,Nat.add_zero,Nat.mul_one,hI]
    tactic =>
    refine endM [(1, 1)] 2 ?_
    sym =>
    simp [Zaa,Zab,Zad,Zae,Zaf,Zag,Zah,Zai,Zak,Zal,Zam,Zan,Zap,Zaq,Zav,Zaw,Zay,Zaz,Za0,Za1,Za2,Za3,Za4,Za5,Za9,Zba,Zbb,Zbf,Zbl,Zcz,Zc5,Zev,Zew,Zez,Ze0,Ze2,Ze3,Ze4,Ze5,Zfc,Zfd,Zfe,Zff,Zfg,Zfh,Zfn,Zfp,Zfr,Zfs,Zf4,Zgh,Zgi,Zhf,Zhg,Zhh,Ziq,Zir,Zix,Ziz,Zi0,Zi2,Zi3,Zi7,Zjj,Zjk,Zjo,Zmt,Zmv,Zmw,Zmx,Zmz,Zm2,Zna,Znb,Znh,Znl,Znm,Znn,Zno,Znp,Znr,Zos,Zot,Zo7,Zo8,Zo9,Zpc,Zpo,Zq5,Zq6,Zqf,Zqg,Zqh,Zqi,Zqk,Zql,Zqm,Zqn,Zqr,List.append_assoc,List.length_append,eq_self,true_and,and_true,Nat.add_zero,Nat.mul_one]
    tactic =>
    exact cB_rs _ _ _ _ _ rfl
theorem rfour_con (n : Int) (h0 : 0 ≤ n) (h1 : n < 4294967296) : Con Try.prog 63 [] [I n] [] (fB (four n)) := by
  refine con_j b63 rfl ?_
  have q1 := w64 (n.tdiv (16777216 : Int)) (by rw [Int.tdiv_eq_ediv_of_nonneg h0]; omega)
  have q2 := w64 (n.tdiv (65536 : Int)) (by rw [Int.tdiv_eq_ediv_of_nonneg h0]; omega)
  have q3 := w64 (n.tdiv (256 : Int)) (by rw [Int.tdiv_eq_ediv_of_nonneg h0]; omega)
  sym =>
  simp [Zab,Zad,Zak,Zam,Zaz,Za0,Za1,Za2,Za3,Za4,Za5,Za9,Zba,Zbb,Zbf,Zbl,Zcz,Zev,Zew,Zez,Ze0,Ze2,Ze3,Zfc,Zfd,Zfe,Zfh,Zfn,Zft,Zfu,Zgh,Zgi,Zhf,Zhg,Zhh,Ziq,Zir,Zi7,Zjl,Zjm,Zjp,Zmt,Zmv,Zmw,Zmx,Zmz,Zm2,Zna,Znb,Znh,Znl,Znm,Znn,Zno,Znp,Zos,Zot,Zo7,Zp0,Zp1,Zp2,eq_self,true_and,and_true,q1,q2,q3]
  tactic =>
  refine endA ?_
  sym =>
  simp [Zab,Zad,Zak,Zam,Zaz,Za0,Za1,Za2,Za3,Za4,Za5,Za9,Zba,Zbb,Zbf,Zbl,Zcz,Zev,Zew,Zez,Ze0,Ze2,Ze3,Zfc,Zfd,Zfe,Zfh,Zfn,Zft,Zfu,Zgh,Zgi,Zhf,Zhg,Zhh,Ziq,Zir,Zi7,Zjl,Zjm,Zjp,Zmt,Zmv,Zmw,Zmx,Zmz,Zm2,Zna,Znb,Znh,Znl,Znm,Znn,Zno,Znp,Zos,Zot,Zo7,Zp0,Zp1,Zp2,eq_self,true_and,and_true]
  tactic =>
  have e1 : n.tdiv (16777216 : Int) = n / 16777216 := Int.tdiv_eq_ediv_of_nonneg h0
  have e2 : n.tdiv (65536 : Int) = n / 65536 := Int.tdiv_eq_ediv_of_nonneg h0
  have e3 : n.tdiv (256 : Int) = n / 256 := Int.tdiv_eq_ediv_of_nonneg h0
  have e4 : n.tmod (256 : Int) = n % 256 := Int.tmod_eq_emod_of_nonneg h0
  have e5 : (n / 65536).tmod (256 : Int) = n / 65536 % 256 := Int.tmod_eq_emod_of_nonneg (by omega)
  have e6 : (n / 256).tmod (256 : Int) = n / 256 % 256 := Int.tmod_eq_emod_of_nonneg (by omega)
  refine ⟨rfl, ?_⟩
  show cB (four n) = cB [_, _, _, _]
  simp only [e1, e2, e3, e4, e5, e6, w8u]
  unfold four
  have m1 : n / 65536 % 256 % 256 = n / 65536 % 256 := by omega
  have m2 : n / 256 % 256 % 256 = n / 256 % 256 := by omega
  have m3 : n % 256 % 256 = n % 256 := by omega
  rw [m1, m2, m3]
def i36 (l : List Pc) (k : Nat) (s : St) : Prop := ∃ i : Nat, i + k = l.length ∧ s = ⟨[(3, .lv 0 0 i), (6, fP l), (7, I (IN l.length)), (8, I (IN i))], [(0, ⟨cP (l.take i), 3, 0⟩)], 1⟩
theorem theirs_con (l : List Pc) (hl : l.length ≤ 1000000) : Con Try.prog 36 [] [fP l] [] (fP l) := by
  refine con_j b36 rfl ?_
  sym =>
  simp [Zaa,Zab,Zad,Zae,Zaf,Zag,Zah,Zai,Zak,Zal,Zam,Zan,Zap,Zaq,Zav,Zaw,Zay,Zaz,Za0,Za1,Za2,Za3,Za4,Za5,Za9,Zba,Zbb,Zbf,Zbt,Zb1,Zcn,Zcv,Zcz,Zc3,Zc5,Zev,Zew,Zez,Ze0,Ze1,Ze2,Ze3,Ze4,Ze5,Ze8,Zfb,Zfc,Zfd,Zfe,Zff,Zfg,Zfh,Zfn,Zfq,Zf1,Zgr,Zgs,Zgt,Zgu,Zg4,Zg6,Zhf,Zhg,Zhh,Zho,Zh6,Zh7,Zin,Ziq,Zir,Ziu,Ziv,Ziw,Zix,Ziz,Zi0,Zi2,Zi3,Zi6,Zjh,Zji,Zjj,Zjk,Zjn,Zjo,Zj7,Zj8,Zmt,Zmv,Zmw,Zmx,Zmz,Zm2,Zm5,Zm7,Zm9,Zna,Znb,Znh,Znl,Znm,Znn,Zno,Znp,Znr,Zns,Znt,Znw,Zn5,Zos,Zot,Zo7,Zo8,Zo9,Zpc,Zpi,Zpo,Zpr,Zp0,Zp1,Zp2,Zqf,Zqg,Zqh,Zqi,Zqj,Zqk,Zql,Zqm,Zqn,eq_self,true_and,and_true,Nat.zero_add]
  tactic =>
  refine lpA (i36 l) l.length [] _ ⟨0, by omega, rfl⟩ (wkA ?_) ?_
  · sym =>
    simp [Zaa,Zab,Zad,Zae,Zaf,Zag,Zah,Zai,Zak,Zal,Zam,Zan,Zap,Zaq,Zav,Zaw,Zay,Zaz,Za0,Za1,Za2,Za3,Za4,Za5,Za9,Zba,Zbb,Zbf,Zbt,Zb1,Zcn,Zcv,Zcz,Zc3,Zc5,Zev,Zew,Zez,Ze0,Ze1,Ze2,Ze3,Ze4,Ze5,Ze8,Zfb,Zfc,Zfd,Zfe,Zff,Zfg,Zfh,Zfn,Zfq,Zf1,Zgr,Zgs,Zgt,Zgu,Zg4,Zg6,Zhf,Zhg,Zhh,Zho,Zh6,Zh7,Zin,Ziq,Zir,Ziu,Ziv,Ziw,Zix,Ziz,Zi0,Zi2,Zi3,Zi6,Zjh,Zji,Zjj,Zjk,Zjn,Zjo,Zj7,Zj8,Zmt,Zmv,Zmw,Zmx,Zmz,Zm2,Zm5,Zm7,Zm9,Zna,Znb,Znh,Znl,Znm,Znn,Zno,Znp,Znr,Zns,Znt,Znw,Zn5,Zos,Zot,Zo7,Zo8,Zo9,Zpc,Zpi,Zpo,Zpr,Zp0,Zp1,Zp2,Zqf,Zqg,Zqh,Zqi,Zqj,Zqk,Zql,Zqm,Zqn,eq_self,true_and,and_true,Nat.zero_add]
    tactic =>
    rfl
  rintro k s ⟨i, hi, rfl⟩
  have htl : (cP (l.take i)).length = i * 3 := by rw [cP_length, List.length_take]; omega
  by_cases h : i < l.length
  · have hw := w64s i (by omega)
    have g0 := cP_q0 l i h
    have g1 := cP_q1 l i h
    have g2 : (cP l).getD (i * 3 + 1 + 1) .un = fB l[i].2.2 := cP_q2 l i h
    have hPl := cP_length l
    have ht := take_step l i h
    obtain ⟨p, hp⟩ : ∃ p, p = l[i] := ⟨_, rfl⟩
    rw [← hp] at g0 g1 g2 ht
    sym =>
    simp [Zaa,Zab,Zad,Zae,Zaf,Zag,Zah,Zai,Zak,Zal,Zam,Zan,Zap,Zaq,Zav,Zaw,Zay,Zaz,Za0,Za1,Za2,Za3,Za4,Za5,Za9,Zba,Zbb,Zbf,Zbt,Zb1,Zcn,Zcv,Zcz,Zc3,Zc5,Zev,Zew,Zez,Ze0,Ze1,Ze2,Ze3,Ze4,Ze5,Ze8,Zfb,Zfc,Zfd,Zfe,Zff,Zfg,Zfh,Zfn,Zfq,Zf1,Zgr,Zgs,Zgt,Zgu,Zg4,Zg6,Zhf,Zhg,Zhh,Zho,Zh6,Zh7,Zin,Ziq,Zir,Ziu,Ziv,Ziw,Zix,Ziz,Zi0,Zi2,Zi3,Zi6,Zjh,Zji,Zjj,Zjk,Zjn,Zjo,Zj7,Zj8,Zmt,Zmv,Zmw,Zmx,Zmz,Zm2,Zm5,Zm7,Zm9,Zna,Znb,Znh,Znl,Znm,Znn,Zno,Znp,Znr,Zns,Znt,Znw,Zn5,Zos,Zot,Zo7,Zo8,Zo9,Zpc,Zpi,Zpo,Zpr,Zp0,Zp1,Zp2,Zqf,Zqg,Zqh,Zqi,Zqj,Zqk,Zql,Zqm,Zqn,eq_self,true_and,and_true,Nat.zero_add,h,hw,g0,g1,g2]
    tactic =>
    and_intros <;> try (first | omega | rfl | assumption | simp only [IN]; omega)
    unfold NextL; refine ⟨(k - 1), [(0, 9)], _, by omega, ⟨i + 1, by omega, rfl⟩, wkA ?_⟩
    sym =>
    simp [Zaa,Zab,Zad,Zae,Zaf,Zag,Zah,Zai,Zak,Zal,Zam,Zan,Zap,Zaq,Zav,Zaw,Zay,Zaz,Za0,Za1,Za2,Za3,Za4,Za5,Za9,Zba,Zbb,Zbf,Zbt,Zb1,Zcn,Zcv,Zcz,Zc3,Zc5,Zev,Zew,Zez,Ze0,Ze1,Ze2,Ze3,Ze4,Ze5,Ze8,Zfb,Zfc,Zfd,Zfe,Zff,Zfg,Zfh,Zfn,Zfq,Zf1,Zgr,Zgs,Zgt,Zgu,Zg4,Zg6,Zhf,Zhg,Zhh,Zho,Zh6,Zh7,Zin,Ziq,Zir,Ziu,Ziv,Ziw,Zix,Ziz,Zi0,Zi2,Zi3,Zi6,Zjh,Zji,Zjj,Zjk,Zjn,Zjo,Zj7,Zj8,Zmt,Zmv,Zmw,Zmx,Zmz,Zm2,Zm5,Zm7,Zm9,Zna,Znb,Znh,Znl,Znm,Znn,Zno,Znp,Znr,Zns,Znt,Znw,Zn5,Zos,Zot,Zo7,Zo8,Zo9,Zpc,Zpi,Zpo,Zpr,Zp0,Zp1,Zp2,Zqf,Zqg,Zqh,Zqi,Zqj,Zqk,Zql,Zqm,Zqn,eq_self,true_and,and_true,Nat.zero_add]
    tactic =>
    rw [ht, cP_snoc]
    exact rs_app (rs_self (cP_okI _)) ⟨⟨rfl, rfl⟩, ⟨rfl, rfl⟩, ⟨rfl, rfl⟩, trivial⟩
  · have e : l.take i = l := List.take_of_length_le (by omega)
    rw [e] at htl ⊢
    have hil : i = l.length := by omega
    sym =>
    simp [Zaa,Zab,Zad,Zae,Zaf,Zag,Zah,Zai,Zak,Zal,Zam,Zan,Zap,Zaq,Zav,Zaw,Zay,Zaz,Za0,Za1,Za2,Za3,Za4,Za5,Za9,Zba,Zbb,Zbf,Zbt,Zb1,Zcn,Zcv,Zcz,Zc3,Zc5,Zev,Zew,Zez,Ze0,Ze1,Ze2,Ze3,Ze4,Ze5,Ze8,Zfb,Zfc,Zfd,Zfe,Zff,Zfg,Zfh,Zfn,Zfq,Zf1,Zgr,Zgs,Zgt,Zgu,Zg4,Zg6,Zhf,Zhg,Zhh,Zho,Zh6,Zh7,Zin,Ziq,Zir,Ziu,Ziv,Ziw,Zix,Ziz,Zi0,Zi2,Zi3,Zi6,Zjh,Zji,Zjj,Zjk,Zjn,Zjo,Zj7,Zj8,Zmt,Zmv,Zmw,Zmx,Zmz,Zm2,Zm5,Zm7,Zm9,Zna,Znb,Znh,Znl,Znm,Znn,Zno,Znp,Znr,Zns,Znt,Znw,Zn5,Zos,Zot,Zo7,Zo8,Zo9,Zpc,Zpi,Zpo,Zpr,Zp0,Zp1,Zp2,Zqf,Zqg,Zqh,Zqi,Zqj,Zqk,Zql,Zqm,Zqn,eq_self,true_and,and_true,Nat.zero_add,h]
    tactic =>
    refine endA ?_
    sym =>
    simp [Zaa,Zab,Zad,Zae,Zaf,Zag,Zah,Zai,Zak,Zal,Zam,Zan,Zap,Zaq,Zav,Zaw,Zay,Zaz,Za0,Za1,Za2,Za3,Za4,Za5,Za9,Zba,Zbb,Zbf,Zbt,Zb1,Zcn,Zcv,Zcz,Zc3,Zc5,Zev,Zew,Zez,Ze0,Ze1,Ze2,Ze3,Ze4,Ze5,Ze8,Zfb,Zfc,Zfd,Zfe,Zff,Zfg,Zfh,Zfn,Zfq,Zf1,Zgr,Zgs,Zgt,Zgu,Zg4,Zg6,Zhf,Zhg,Zhh,Zho,Zh6,Zh7,Zin,Ziq,Zir,Ziu,Ziv,Ziw,Zix,Ziz,Zi0,Zi2,Zi3,Zi6,Zjh,Zji,Zjj,Zjk,Zjn,Zjo,Zj7,Zj8,Zmt,Zmv,Zmw,Zmx,Zmz,Zm2,Zm5,Zm7,Zm9,Zna,Znb,Znh,Znl,Znm,Znn,Zno,Znp,Znr,Zns,Znt,Znw,Zn5,Zos,Zot,Zo7,Zo8,Zo9,Zpc,Zpi,Zpo,Zpr,Zp0,Zp1,Zp2,Zqf,Zqg,Zqh,Zqi,Zqj,Zqk,Zql,Zqm,Zqn,eq_self,true_and,and_true,Nat.zero_add]
    tactic =>
    rw [hil]
    exact ⟨rfl, (cP_all l).symm, by rw [cP_length]; exact Nat.le_refl _, cP_okI l⟩
def farF (l : List Pc) : Bool := if (l.take 30).any (fun p => decide (300 < p.2.2.length)) = true then true else decide (30 < l.length)
def i35 (l m : List Pc) (k : Nat) (s : St) : Prop := ∃ i : Nat, i + k = m.length ∧ (m.take i).any (fun p => decide (300 < p.2.2.length)) = false ∧ s = ⟨[(0, fP l), (9, fP m), (10, I (IN m.length)), (11, I (IN i))], [], 0⟩
theorem any_step (l : List Pc) (i : Nat) (h : i < l.length) (f : Pc → Bool) : (l.take (i + 1)).any f = ((l.take i).any f || f l[i]) := by
  rw [take_step l i h, List.any_append]; simp
theorem cP_take (l : List Pc) (n : Nat) : cP (l.take n) = (cP l).take (n * 3) := by
  induction l generalizing n with
  | nil => simp [cP]
  | cons p l ih =>
    cases n with
    | zero => simp [cP]
    | succ n =>
      rw [show (n + 1) * 3 = n * 3 + 3 from by omega]
      show [_, _, _] ++ cP (l.take n) = ([_, _, _] ++ cP l).take (n * 3 + 3)
      rw [ih]; rfl
theorem far_con (l : List Pc) : Con Try.prog 35 [] [fP l] [] (Bo (farF l)) := by
  refine con_j b35 rfl ?_
  have hmn : min (IN l.length) (30 : Int) = IN (min l.length 30) := by simp only [IN]; omega
  have hmn2 : min 30 l.length = min l.length 30 := Nat.min_comm _ _
  obtain ⟨m, hm⟩ : ∃ m, m = l.take 30 := ⟨_, rfl⟩
  have hml : m.length = min l.length 30 := by rw [hm, List.length_take]; omega
  have hmc : List.take (min l.length 30 * 3) (cP l) = cP m := by
    rw [hm, cP_take]
    by_cases h : l.length ≤ 30
    · rw [Nat.min_eq_left h, cP_all, List.take_of_length_le (by rw [cP_length]; omega)]
    · rw [Nat.min_eq_right (by omega)]
  have hml2 : IN (min l.length 30) ≤ IN l.length := by simp only [IN]; omega
  rw [farF, ← hm]
  sym =>
  simp [Zaa,Zab,Zad,Zae,Zaf,Zag,Zah,Zai,Zak,Zal,Zam,Zan,Zao,Zap,Zaq,Zar,Zav,Zaw,Zax,Zay,Zaz,Za0,Za1,Za2,Za3,Za4,Za5,Za9,Zba,Zbb,Zbf,Zbt,Zbv,Zb1,Zch,Zcn,Zct,Zcv,Zc3,Zev,Zew,Zez,Ze0,Ze1,Ze2,Ze3,Ze5,Ze8,Zfc,Zfd,Zfe,Zfh,Zfn,Zfq,Zf1,Zf3,Zgr,Zgs,Zgt,Zgu,Zgv,Zgw,Zgx,Zg4,Zg6,Zhm,Zhn,Zho,Zhs,Zht,Zhu,Zh6,Zh7,Zif,Zig,Zik,Zil,Zim,Zin,Ziu,Ziv,Ziw,Zi6,Zjh,Zji,Zjn,Zj7,Zmt,Zmv,Zmw,Zmx,Zmz,Zm2,Zm5,Zm6,Zm7,Zm9,Zna,Znb,Znf,Zng,Znh,Znn,Zno,Znp,Zns,Znt,Znu,Znw,Zn5,Zrd,Zos,Zot,Zo7,Zo8,Zo9,Zpc,Zpi,Zqf,Zqg,Zqh,Zqm,eq_self,true_and,and_true,Nat.sub_zero,hmn,hmc,hml2]
  tactic =>
  refine ⟨by omega, ?_⟩
  rw [← hml]
  refine lpA (i35 l m) m.length [] _ ⟨0, by omega, rfl, rfl⟩ (wkA ?_) ?_
  · sym =>
    simp [Zaa,Zab,Zad,Zae,Zaf,Zag,Zah,Zai,Zak,Zal,Zam,Zan,Zao,Zap,Zaq,Zar,Zav,Zaw,Zax,Zay,Zaz,Za0,Za1,Za2,Za3,Za4,Za5,Za9,Zba,Zbb,Zbf,Zbt,Zbv,Zb1,Zch,Zcn,Zct,Zcv,Zc3,Zev,Zew,Zez,Ze0,Ze1,Ze2,Ze3,Ze5,Ze8,Zfc,Zfd,Zfe,Zfh,Zfn,Zfq,Zf1,Zf3,Zgr,Zgs,Zgt,Zgu,Zgv,Zgw,Zgx,Zg4,Zg6,Zhm,Zhn,Zho,Zhs,Zht,Zhu,Zh6,Zh7,Zif,Zig,Zik,Zil,Zim,Zin,Ziu,Ziv,Ziw,Zi6,Zjh,Zji,Zjn,Zj7,Zmt,Zmv,Zmw,Zmx,Zmz,Zm2,Zm5,Zm6,Zm7,Zm9,Zna,Znb,Znf,Zng,Znh,Znn,Zno,Znp,Zns,Znt,Znu,Znw,Zn5,Zrd,Zos,Zot,Zo7,Zo8,Zo9,Zpc,Zpi,Zqf,Zqg,Zqh,Zqm,eq_self,true_and,and_true,Nat.sub_zero]
  rintro k s ⟨i, hi, ha, rfl⟩
  by_cases h : i < m.length
  · have hw := w64s i (by omega)
    have g0 := cP_q0 m i h
    have g1 := cP_q1 m i h
    have g2 : (cP m).getD (i * 3 + 1 + 1) .un = fB m[i].2.2 := cP_q2 m i h
    have hPl := cP_length m
    have has := any_step m i h (fun p => decide (300 < p.2.2.length))
    rw [ha] at has
    obtain ⟨p, hp⟩ : ∃ p, p = m[i] := ⟨_, rfl⟩
    have hpm : p ∈ m := by rw [hp]; exact List.getElem_mem h
    rw [← hp] at g0 g1 g2 has
    by_cases h3 : 300 < p.2.2.length
    · have h3' : IN p.2.2.length > (300 : Int) := by simp only [IN]; omega
      have hany : m.any (fun p => decide (300 < p.2.2.length)) = true := List.any_eq_true.2 ⟨p, hpm, by simpa using h3⟩
      sym =>
      simp [Zaa,Zab,Zad,Zae,Zaf,Zag,Zah,Zai,Zak,Zal,Zam,Zan,Zao,Zap,Zaq,Zar,Zav,Zaw,Zax,Zay,Zaz,Za0,Za1,Za2,Za3,Za4,Za5,Za9,Zba,Zbb,Zbf,Zbt,Zbv,Zb1,Zch,Zcn,Zct,Zcv,Zc3,Zev,Zew,Zez,Ze0,Ze1,Ze2,Ze3,Ze5,Ze8,Zfc,Zfd,Zfe,Zfh,Zfn,Zfq,Zf1,Zf3,Zgr,Zgs,Zgt,Zgu,Zgv,Zgw,Zgx,Zg4,Zg6,Zhm,Zhn,Zho,Zhs,Zht,Zhu,Zh6,Zh7,Zif,Zig,Zik,Zil,Zim,Zin,Ziu,Ziv,Ziw,Zi6,Zjh,Zji,Zjn,Zj7,Zmt,Zmv,Zmw,Zmx,Zmz,Zm2,Zm5,Zm6,Zm7,Zm9,Zna,Znb,Znf,Zng,Znh,Znn,Zno,Znp,Zns,Znt,Znu,Znw,Zn5,Zrd,Zos,Zot,Zo7,Zo8,Zo9,Zpc,Zpi,Zqf,Zqg,Zqh,Zqm,eq_self,true_and,and_true,Nat.sub_zero,h,hw,g0,g1,g2,h3']
      tactic =>
      and_intros <;> try (first | omega | rfl | assumption | simp only [IN]; omega)
      refine endA ?_
      sym =>
      simp [Zaa,Zab,Zad,Zae,Zaf,Zag,Zah,Zai,Zak,Zal,Zam,Zan,Zao,Zap,Zaq,Zar,Zav,Zaw,Zax,Zay,Zaz,Za0,Za1,Za2,Za3,Za4,Za5,Za9,Zba,Zbb,Zbf,Zbt,Zbv,Zb1,Zch,Zcn,Zct,Zcv,Zc3,Zev,Zew,Zez,Ze0,Ze1,Ze2,Ze3,Ze5,Ze8,Zfc,Zfd,Zfe,Zfh,Zfn,Zfq,Zf1,Zf3,Zgr,Zgs,Zgt,Zgu,Zgv,Zgw,Zgx,Zg4,Zg6,Zhm,Zhn,Zho,Zhs,Zht,Zhu,Zh6,Zh7,Zif,Zig,Zik,Zil,Zim,Zin,Ziu,Ziv,Ziw,Zi6,Zjh,Zji,Zjn,Zj7,Zmt,Zmv,Zmw,Zmx,Zmz,Zm2,Zm5,Zm6,Zm7,Zm9,Zna,Znb,Znf,Zng,Znh,Znn,Zno,Znp,Zns,Znt,Znu,Znw,Zn5,Zrd,Zos,Zot,Zo7,Zo8,Zo9,Zpc,Zpi,Zqf,Zqg,Zqh,Zqm,eq_self,true_and,and_true,Nat.sub_zero,hany]
    · have h3' : ¬ IN p.2.2.length > (300 : Int) := by simp only [IN]; omega
      sym =>
      simp [Zaa,Zab,Zad,Zae,Zaf,Zag,Zah,Zai,Zak,Zal,Zam,Zan,Zao,Zap,Zaq,Zar,Zav,Zaw,Zax,Zay,Zaz,Za0,Za1,Za2,Za3,Za4,Za5,Za9,Zba,Zbb,Zbf,Zbt,Zbv,Zb1,Zch,Zcn,Zct,Zcv,Zc3,Zev,Zew,Zez,Ze0,Ze1,Ze2,Ze3,Ze5,Ze8,Zfc,Zfd,Zfe,Zfh,Zfn,Zfq,Zf1,Zf3,Zgr,Zgs,Zgt,Zgu,Zgv,Zgw,Zgx,Zg4,Zg6,Zhm,Zhn,Zho,Zhs,Zht,Zhu,Zh6,Zh7,Zif,Zig,Zik,Zil,Zim,Zin,Ziu,Ziv,Ziw,Zi6,Zjh,Zji,Zjn,Zj7,Zmt,Zmv,Zmw,Zmx,Zmz,Zm2,Zm5,Zm6,Zm7,Zm9,Zna,Znb,Znf,Zng,Znh,Znn,Zno,Znp,Zns,Znt,Znu,Znw,Zn5,Zrd,Zos,Zot,Zo7,Zo8,Zo9,Zpc,Zpi,Zqf,Zqg,Zqh,Zqm,eq_self,true_and,and_true,Nat.sub_zero,h,hw,g0,g1,g2,h3']
      tactic =>
      and_intros <;> try (first | omega | rfl | assumption | simp only [IN]; omega)
      unfold NextL; refine ⟨(k - 1), [], _, by omega, ⟨i + 1, by omega, by rw [has]; simp [h3], rfl⟩, wkA ?_⟩
      sym =>
      simp [Zaa,Zab,Zad,Zae,Zaf,Zag,Zah,Zai,Zak,Zal,Zam,Zan,Zao,Zap,Zaq,Zar,Zav,Zaw,Zax,Zay,Zaz,Za0,Za1,Za2,Za3,Za4,Za5,Za9,Zba,Zbb,Zbf,Zbt,Zbv,Zb1,Zch,Zcn,Zct,Zcv,Zc3,Zev,Zew,Zez,Ze0,Ze1,Ze2,Ze3,Ze5,Ze8,Zfc,Zfd,Zfe,Zfh,Zfn,Zfq,Zf1,Zf3,Zgr,Zgs,Zgt,Zgu,Zgv,Zgw,Zgx,Zg4,Zg6,Zhm,Zhn,Zho,Zhs,Zht,Zhu,Zh6,Zh7,Zif,Zig,Zik,Zil,Zim,Zin,Ziu,Ziv,Ziw,Zi6,Zjh,Zji,Zjn,Zj7,Zmt,Zmv,Zmw,Zmx,Zmz,Zm2,Zm5,Zm6,Zm7,Zm9,Zna,Znb,Znf,Zng,Znh,Znn,Zno,Znp,Zns,Znt,Znu,Znw,Zn5,Zrd,Zos,Zot,Zo7,Zo8,Zo9,Zpc,Zpi,Zqf,Zqg,Zqh,Zqm,eq_self,true_and,and_true,Nat.sub_zero]
  · have e : m.take i = m := List.take_of_length_le (by omega)
    rw [e] at ha
    rw [ha]
    by_cases h30 : 30 < l.length
    · have h30' : IN l.length > (30 : Int) := by simp only [IN]; omega
      sym =>
      simp [Zaa,Zab,Zad,Zae,Zaf,Zag,Zah,Zai,Zak,Zal,Zam,Zan,Zao,Zap,Zaq,Zar,Zav,Zaw,Zax,Zay,Zaz,Za0,Za1,Za2,Za3,Za4,Za5,Za9,Zba,Zbb,Zbf,Zbt,Zbv,Zb1,Zch,Zcn,Zct,Zcv,Zc3,Zev,Zew,Zez,Ze0,Ze1,Ze2,Ze3,Ze5,Ze8,Zfc,Zfd,Zfe,Zfh,Zfn,Zfq,Zf1,Zf3,Zgr,Zgs,Zgt,Zgu,Zgv,Zgw,Zgx,Zg4,Zg6,Zhm,Zhn,Zho,Zhs,Zht,Zhu,Zh6,Zh7,Zif,Zig,Zik,Zil,Zim,Zin,Ziu,Ziv,Ziw,Zi6,Zjh,Zji,Zjn,Zj7,Zmt,Zmv,Zmw,Zmx,Zmz,Zm2,Zm5,Zm6,Zm7,Zm9,Zna,Znb,Znf,Zng,Znh,Znn,Zno,Znp,Zns,Znt,Znu,Znw,Zn5,Zrd,Zos,Zot,Zo7,Zo8,Zo9,Zpc,Zpi,Zqf,Zqg,Zqh,Zqm,eq_self,true_and,and_true,Nat.sub_zero,h,h30']
      tactic =>
      refine endA ?_
      sym =>
      simp [Zaa,Zab,Zad,Zae,Zaf,Zag,Zah,Zai,Zak,Zal,Zam,Zan,Zao,Zap,Zaq,Zar,Zav,Zaw,Zax,Zay,Zaz,Za0,Za1,Za2,Za3,Za4,Za5,Za9,Zba,Zbb,Zbf,Zbt,Zbv,Zb1,Zch,Zcn,Zct,Zcv,Zc3,Zev,Zew,Zez,Ze0,Ze1,Ze2,Ze3,Ze5,Ze8,Zfc,Zfd,Zfe,Zfh,Zfn,Zfq,Zf1,Zf3,Zgr,Zgs,Zgt,Zgu,Zgv,Zgw,Zgx,Zg4,Zg6,Zhm,Zhn,Zho,Zhs,Zht,Zhu,Zh6,Zh7,Zif,Zig,Zik,Zil,Zim,Zin,Ziu,Ziv,Ziw,Zi6,Zjh,Zji,Zjn,Zj7,Zmt,Zmv,Zmw,Zmx,Zmz,Zm2,Zm5,Zm6,Zm7,Zm9,Zna,Znb,Znf,Zng,Znh,Znn,Zno,Znp,Zns,Znt,Znu,Znw,Zn5,Zrd,Zos,Zot,Zo7,Zo8,Zo9,Zpc,Zpi,Zqf,Zqg,Zqh,Zqm,eq_self,true_and,and_true,Nat.sub_zero,h30]
    · have h30' : ¬ IN l.length > (30 : Int) := by simp only [IN]; omega
      sym =>
      simp [Zaa,Zab,Zad,Zae,Zaf,Zag,Zah,Zai,Zak,Zal,Zam,Zan,Zao,Zap,Zaq,Zar,Zav,Zaw,Zax,Zay,Zaz,Za0,Za1,Za2,Za3,Za4,Za5,Za9,Zba,Zbb,Zbf,Zbt,Zbv,Zb1,Zch,Zcn,Zct,Zcv,Zc3,Zev,Zew,Zez,Ze0,Ze1,Ze2,Ze3,Ze5,Ze8,Zfc,Zfd,Zfe,Zfh,Zfn,Zfq,Zf1,Zf3,Zgr,Zgs,Zgt,Zgu,Zgv,Zgw,Zgx,Zg4,Zg6,Zhm,Zhn,Zho,Zhs,Zht,Zhu,Zh6,Zh7,Zif,Zig,Zik,Zil,Zim,Zin,Ziu,Ziv,Ziw,Zi6,Zjh,Zji,Zjn,Zj7,Zmt,Zmv,Zmw,Zmx,Zmz,Zm2,Zm5,Zm6,Zm7,Zm9,Zna,Znb,Znf,Zng,Znh,Znn,Zno,Znp,Zns,Znt,Znu,Znw,Zn5,Zrd,Zos,Zot,Zo7,Zo8,Zo9,Zpc,Zpi,Zqf,Zqg,Zqh,Zqm,eq_self,true_and,and_true,Nat.sub_zero,h,h30']
      tactic =>
      refine endA ?_
      sym =>
      simp [Zaa,Zab,Zad,Zae,Zaf,Zag,Zah,Zai,Zak,Zal,Zam,Zan,Zao,Zap,Zaq,Zar,Zav,Zaw,Zax,Zay,Zaz,Za0,Za1,Za2,Za3,Za4,Za5,Za9,Zba,Zbb,Zbf,Zbt,Zbv,Zb1,Zch,Zcn,Zct,Zcv,Zc3,Zev,Zew,Zez,Ze0,Ze1,Ze2,Ze3,Ze5,Ze8,Zfc,Zfd,Zfe,Zfh,Zfn,Zfq,Zf1,Zf3,Zgr,Zgs,Zgt,Zgu,Zgv,Zgw,Zgx,Zg4,Zg6,Zhm,Zhn,Zho,Zhs,Zht,Zhu,Zh6,Zh7,Zif,Zig,Zik,Zil,Zim,Zin,Ziu,Ziv,Ziw,Zi6,Zjh,Zji,Zjn,Zj7,Zmt,Zmv,Zmw,Zmx,Zmz,Zm2,Zm5,Zm6,Zm7,Zm9,Zna,Znb,Znf,Zng,Znh,Znn,Zno,Znp,Zns,Znt,Znu,Znw,Zn5,Zrd,Zos,Zot,Zo7,Zo8,Zo9,Zpc,Zpi,Zqf,Zqg,Zqh,Zqm,eq_self,true_and,and_true,Nat.sub_zero,h30]
def coF : List Pc → Nat
  | [] => 5
  | p :: l => coF l + if 0 < p.2.2.length then 5 + p.2.2.length else 9
theorem coF_drop (l : List Pc) (i : Nat) (h : i < l.length) : coF (l.drop i) = coF (l.drop (i + 1)) + if 0 < l[i].2.2.length then 5 + l[i].2.2.length else 9 := by
  rw [List.drop_eq_getElem_cons h]; rfl
def okL (l : List Pc) : Prop := l.length ≤ 1000000 ∧ ∀ p ∈ l, p.2.2.length ≤ 1000000
def i34 (l : List Pc) (k : Nat) (s : St) : Prop := ∃ i n : Nat, i + k = l.length ∧ n + coF (l.drop i) = coF l + 5 ∧ n ≤ 2000000 * i + 5 ∧ s = ⟨[(3, I (IN n)), (6, fP l), (7, I (IN l.length)), (8, I (IN i))], [], 0⟩
theorem cost_con (l : List Pc) (hl : okL l) : Con Try.prog 34 [] [fP l] [] (I (IN (coF l))) := by
  refine con_j b34 rfl ?_
  sym =>
  simp [Zaa,Zab,Zad,Zae,Zaf,Zag,Zah,Zai,Zak,Zal,Zam,Zan,Zap,Zaq,Zav,Zaw,Zay,Zaz,Za0,Za1,Za2,Za3,Za4,Za5,Za9,Zba,Zbb,Zbf,Zbt,Zbv,Zb1,Zcn,Zcv,Zc3,Zdc,Zdd,Zde,Zdi,Zev,Zew,Zez,Ze0,Ze1,Ze2,Ze3,Ze5,Ze8,Zfc,Zfd,Zfe,Zfh,Zfn,Zfq,Zf1,Zgr,Zgs,Zgt,Zgu,Zgv,Zgw,Zgx,Zg4,Zg6,Zho,Zh6,Zh7,Zin,Ziu,Ziv,Ziw,Zi6,Zjh,Zji,Zjn,Zjw,Zj7,Zla,Zlb,Zlc,Zld,Zle,Zlf,Zlh,Zlk,Zlm,Zlz,Zmt,Zmv,Zmw,Zmx,Zmz,Zm2,Zm5,Zm6,Zm7,Zm9,Zna,Znb,Zne,Znf,Zng,Znn,Zno,Znp,Zns,Znt,Znw,Zn1,Zn5,Zos,Zot,Zo7,Zo8,Zo9,Zpc,Zpi,Zqf,Zqg,Zqh,Zqm,Zqr,eq_self,true_and,and_true]
  tactic =>
  have hl1 := hl.1
  refine lpA (i34 l) l.length [] _ ⟨0, 5, by omega, by rw [List.drop_zero]; omega, by omega, rfl⟩ (wkA ?_) ?_
  · sym =>
    simp [Zaa,Zab,Zad,Zae,Zaf,Zag,Zah,Zai,Zak,Zal,Zam,Zan,Zap,Zaq,Zav,Zaw,Zay,Zaz,Za0,Za1,Za2,Za3,Za4,Za5,Za9,Zba,Zbb,Zbf,Zbt,Zbv,Zb1,Zcn,Zcv,Zc3,Zdc,Zdd,Zde,Zdi,Zev,Zew,Zez,Ze0,Ze1,Ze2,Ze3,Ze5,Ze8,Zfc,Zfd,Zfe,Zfh,Zfn,Zfq,Zf1,Zgr,Zgs,Zgt,Zgu,Zgv,Zgw,Zgx,Zg4,Zg6,Zho,Zh6,Zh7,Zin,Ziu,Ziv,Ziw,Zi6,Zjh,Zji,Zjn,Zjw,Zj7,Zla,Zlb,Zlc,Zld,Zle,Zlf,Zlh,Zlk,Zlm,Zlz,Zmt,Zmv,Zmw,Zmx,Zmz,Zm2,Zm5,Zm6,Zm7,Zm9,Zna,Znb,Zne,Znf,Zng,Znn,Zno,Znp,Zns,Znt,Znw,Zn1,Zn5,Zos,Zot,Zo7,Zo8,Zo9,Zpc,Zpi,Zqf,Zqg,Zqh,Zqm,Zqr,eq_self,true_and,and_true]
    tactic =>
    rfl
  rintro k s ⟨i, n, hi, hn, hnb, rfl⟩
  by_cases h : i < l.length
  · have hw := w64s i (by omega)
    have g0 := cP_q0 l i h
    have g1 := cP_q1 l i h
    have g2 : (cP l).getD (i * 3 + 1 + 1) .un = fB l[i].2.2 := cP_q2 l i h
    have hPl := cP_length l
    have hcd := coF_drop l i h
    have hpl := hl.2 l[i] (List.getElem_mem h)
    obtain ⟨p, hp⟩ : ∃ p, p = l[i] := ⟨_, rfl⟩
    rw [← hp] at g0 g1 g2 hcd hpl
    have ho := own_con p.1 p.2.1 p.2.2
    by_cases h3 : 0 < p.2.2.length
    · rw [if_pos h3] at hcd
      have hw1 : IntKind.i64.wrap (5 + IN p.2.2.length) = IN (5 + p.2.2.length) := by simp only [IN]; rw [w64 _ (by omega)]; omega
      have hw2 : IntKind.i64.wrap (IN (n + (5 + p.2.2.length))) = IN (n + (5 + p.2.2.length)) := by simp only [IN]; rw [w64 _ (by omega)]
      sym =>
      simp [Zaa,Zab,Zad,Zae,Zaf,Zag,Zah,Zai,Zak,Zal,Zam,Zan,Zap,Zaq,Zav,Zaw,Zay,Zaz,Za0,Za1,Za2,Za3,Za4,Za5,Za9,Zba,Zbb,Zbf,Zbt,Zbv,Zb1,Zcn,Zcv,Zc3,Zdc,Zdd,Zde,Zdi,Zev,Zew,Zez,Ze0,Ze1,Ze2,Ze3,Ze5,Ze8,Zfc,Zfd,Zfe,Zfh,Zfn,Zfq,Zf1,Zgr,Zgs,Zgt,Zgu,Zgv,Zgw,Zgx,Zg4,Zg6,Zho,Zh6,Zh7,Zin,Ziu,Ziv,Ziw,Zi6,Zjh,Zji,Zjn,Zjw,Zj7,Zla,Zlb,Zlc,Zld,Zle,Zlf,Zlh,Zlk,Zlm,Zlz,Zmt,Zmv,Zmw,Zmx,Zmz,Zm2,Zm5,Zm6,Zm7,Zm9,Zna,Znb,Zne,Znf,Zng,Znn,Zno,Znp,Zns,Znt,Znw,Zn1,Zn5,Zos,Zot,Zo7,Zo8,Zo9,Zpc,Zpi,Zqf,Zqg,Zqh,Zqm,Zqr,eq_self,true_and,and_true,h,hw,g0,g1,g2,callable_56]
      tactic =>
      and_intros <;> try (first | omega | rfl | assumption | simp only [IN]; omega)
      refine cl none (ho) trivial ?_
      sym =>
      simp [Zaa,Zab,Zad,Zae,Zaf,Zag,Zah,Zai,Zak,Zal,Zam,Zan,Zap,Zaq,Zav,Zaw,Zay,Zaz,Za0,Za1,Za2,Za3,Za4,Za5,Za9,Zba,Zbb,Zbf,Zbt,Zbv,Zb1,Zcn,Zcv,Zc3,Zdc,Zdd,Zde,Zdi,Zev,Zew,Zez,Ze0,Ze1,Ze2,Ze3,Ze5,Ze8,Zfc,Zfd,Zfe,Zfh,Zfn,Zfq,Zf1,Zgr,Zgs,Zgt,Zgu,Zgv,Zgw,Zgx,Zg4,Zg6,Zho,Zh6,Zh7,Zin,Ziu,Ziv,Ziw,Zi6,Zjh,Zji,Zjn,Zjw,Zj7,Zla,Zlb,Zlc,Zld,Zle,Zlf,Zlh,Zlk,Zlm,Zlz,Zmt,Zmv,Zmw,Zmx,Zmz,Zm2,Zm5,Zm6,Zm7,Zm9,Zna,Znb,Zne,Znf,Zng,Znn,Zno,Znp,Zns,Znt,Znw,Zn1,Zn5,Zos,Zot,Zo7,Zo8,Zo9,Zpc,Zpi,Zqf,Zqg,Zqh,Zqm,Zqr,eq_self,true_and,and_true,h3,hw,hw1,hw2]
      tactic =>
      unfold NextL; refine ⟨(k - 1), [], _, by omega, ⟨i + 1, n + (5 + p.2.2.length), by omega, by omega, by omega, rfl⟩, wkA ?_⟩
      sym =>
      simp [Zaa,Zab,Zad,Zae,Zaf,Zag,Zah,Zai,Zak,Zal,Zam,Zan,Zap,Zaq,Zav,Zaw,Zay,Zaz,Za0,Za1,Za2,Za3,Za4,Za5,Za9,Zba,Zbb,Zbf,Zbt,Zbv,Zb1,Zcn,Zcv,Zc3,Zdc,Zdd,Zde,Zdi,Zev,Zew,Zez,Ze0,Ze1,Ze2,Ze3,Ze5,Ze8,Zfc,Zfd,Zfe,Zfh,Zfn,Zfq,Zf1,Zgr,Zgs,Zgt,Zgu,Zgv,Zgw,Zgx,Zg4,Zg6,Zho,Zh6,Zh7,Zin,Ziu,Ziv,Ziw,Zi6,Zjh,Zji,Zjn,Zjw,Zj7,Zla,Zlb,Zlc,Zld,Zle,Zlf,Zlh,Zlk,Zlm,Zlz,Zmt,Zmv,Zmw,Zmx,Zmz,Zm2,Zm5,Zm6,Zm7,Zm9,Zna,Znb,Zne,Znf,Zng,Znn,Zno,Znp,Zns,Znt,Znw,Zn1,Zn5,Zos,Zot,Zo7,Zo8,Zo9,Zpc,Zpi,Zqf,Zqg,Zqh,Zqm,Zqr,eq_self,true_and,and_true]
    · rw [if_neg h3] at hcd
      have hw2 : IntKind.i64.wrap (IN n + (9 : Int)) = IN (n + 9) := by simp only [IN]; rw [w64 _ (by omega)]; omega
      sym =>
      simp [Zaa,Zab,Zad,Zae,Zaf,Zag,Zah,Zai,Zak,Zal,Zam,Zan,Zap,Zaq,Zav,Zaw,Zay,Zaz,Za0,Za1,Za2,Za3,Za4,Za5,Za9,Zba,Zbb,Zbf,Zbt,Zbv,Zb1,Zcn,Zcv,Zc3,Zdc,Zdd,Zde,Zdi,Zev,Zew,Zez,Ze0,Ze1,Ze2,Ze3,Ze5,Ze8,Zfc,Zfd,Zfe,Zfh,Zfn,Zfq,Zf1,Zgr,Zgs,Zgt,Zgu,Zgv,Zgw,Zgx,Zg4,Zg6,Zho,Zh6,Zh7,Zin,Ziu,Ziv,Ziw,Zi6,Zjh,Zji,Zjn,Zjw,Zj7,Zla,Zlb,Zlc,Zld,Zle,Zlf,Zlh,Zlk,Zlm,Zlz,Zmt,Zmv,Zmw,Zmx,Zmz,Zm2,Zm5,Zm6,Zm7,Zm9,Zna,Znb,Zne,Znf,Zng,Znn,Zno,Znp,Zns,Znt,Znw,Zn1,Zn5,Zos,Zot,Zo7,Zo8,Zo9,Zpc,Zpi,Zqf,Zqg,Zqh,Zqm,Zqr,eq_self,true_and,and_true,h,hw,g0,g1,g2,callable_56]
      tactic =>
      and_intros <;> try (first | omega | rfl | assumption | simp only [IN]; omega)
      refine cl none (ho) trivial ?_
      sym =>
      simp [Zaa,Zab,Zad,Zae,Zaf,Zag,Zah,Zai,Zak,Zal,Zam,Zan,Zap,Zaq,Zav,Zaw,Zay,Zaz,Za0,Za1,Za2,Za3,Za4,Za5,Za9,Zba,Zbb,Zbf,Zbt,Zbv,Zb1,Zcn,Zcv,Zc3,Zdc,Zdd,Zde,Zdi,Zev,Zew,Zez,Ze0,Ze1,Ze2,Ze3,Ze5,Ze8,Zfc,Zfd,Zfe,Zfh,Zfn,Zfq,Zf1,Zgr,Zgs,Zgt,Zgu,Zgv,Zgw,Zgx,Zg4,Zg6,Zho,Zh6,Zh7,Zin,Ziu,Ziv,Ziw,Zi6,Zjh,Zji,Zjn,Zjw,Zj7,Zla,Zlb,Zlc,Zld,Zle,Zlf,Zlh,Zlk,Zlm,Zlz,Zmt,Zmv,Zmw,Zmx,Zmz,Zm2,Zm5,Zm6,Zm7,Zm9,Zna,Znb,Zne,Znf,Zng,Znn,Zno,Znp,Zns,Znt,Znw,Zn1,Zn5,Zos,Zot,Zo7,Zo8,Zo9,Zpc,Zpi,Zqf,Zqg,Zqh,Zqm,Zqr,eq_self,true_and,and_true,h3,hw,hw2]
      tactic =>
      unfold NextL; refine ⟨(k - 1), [], _, by omega, ⟨i + 1, n + 9, by omega, by omega, by omega, rfl⟩, wkA ?_⟩
      sym =>
      simp [Zaa,Zab,Zad,Zae,Zaf,Zag,Zah,Zai,Zak,Zal,Zam,Zan,Zap,Zaq,Zav,Zaw,Zay,Zaz,Za0,Za1,Za2,Za3,Za4,Za5,Za9,Zba,Zbb,Zbf,Zbt,Zbv,Zb1,Zcn,Zcv,Zc3,Zdc,Zdd,Zde,Zdi,Zev,Zew,Zez,Ze0,Ze1,Ze2,Ze3,Ze5,Ze8,Zfc,Zfd,Zfe,Zfh,Zfn,Zfq,Zf1,Zgr,Zgs,Zgt,Zgu,Zgv,Zgw,Zgx,Zg4,Zg6,Zho,Zh6,Zh7,Zin,Ziu,Ziv,Ziw,Zi6,Zjh,Zji,Zjn,Zjw,Zj7,Zla,Zlb,Zlc,Zld,Zle,Zlf,Zlh,Zlk,Zlm,Zlz,Zmt,Zmv,Zmw,Zmx,Zmz,Zm2,Zm5,Zm6,Zm7,Zm9,Zna,Znb,Zne,Znf,Zng,Znn,Zno,Znp,Zns,Znt,Znw,Zn1,Zn5,Zos,Zot,Zo7,Zo8,Zo9,Zpc,Zpi,Zqf,Zqg,Zqh,Zqm,Zqr,eq_self,true_and,and_true]
  · have hn2 : n = coF l := by
      rw [List.drop_of_length_le (by omega)] at hn
      simp only [coF] at hn; omega
    sym =>
    simp [Zaa,Zab,Zad,Zae,Zaf,Zag,Zah,Zai,Zak,Zal,Zam,Zan,Zap,Zaq,Zav,Zaw,Zay,Zaz,Za0,Za1,Za2,Za3,Za4,Za5,Za9,Zba,Zbb,Zbf,Zbt,Zbv,Zb1,Zcn,Zcv,Zc3,Zdc,Zdd,Zde,Zdi,Zev,Zew,Zez,Ze0,Ze1,Ze2,Ze3,Ze5,Ze8,Zfc,Zfd,Zfe,Zfh,Zfn,Zfq,Zf1,Zgr,Zgs,Zgt,Zgu,Zgv,Zgw,Zgx,Zg4,Zg6,Zho,Zh6,Zh7,Zin,Ziu,Ziv,Ziw,Zi6,Zjh,Zji,Zjn,Zjw,Zj7,Zla,Zlb,Zlc,Zld,Zle,Zlf,Zlh,Zlk,Zlm,Zlz,Zmt,Zmv,Zmw,Zmx,Zmz,Zm2,Zm5,Zm6,Zm7,Zm9,Zna,Znb,Zne,Znf,Zng,Znn,Zno,Znp,Zns,Znt,Znw,Zn1,Zn5,Zos,Zot,Zo7,Zo8,Zo9,Zpc,Zpi,Zqf,Zqg,Zqh,Zqm,Zqr,eq_self,true_and,and_true,h]
    tactic =>
    refine endA ?_
    sym =>
    simp [Zaa,Zab,Zad,Zae,Zaf,Zag,Zah,Zai,Zak,Zal,Zam,Zan,Zap,Zaq,Zav,Zaw,Zay,Zaz,Za0,Za1,Za2,Za3,Za4,Za5,Za9,Zba,Zbb,Zbf,Zbt,Zbv,Zb1,Zcn,Zcv,Zc3,Zdc,Zdd,Zde,Zdi,Zev,Zew,Zez,Ze0,Ze1,Ze2,Ze3,Ze5,Ze8,Zfc,Zfd,Zfe,Zfh,Zfn,Zfq,Zf1,Zgr,Zgs,Zgt,Zgu,Zgv,Zgw,Zgx,Zg4,Zg6,Zho,Zh6,Zh7,Zin,Ziu,Ziv,Ziw,Zi6,Zjh,Zji,Zjn,Zjw,Zj7,Zla,Zlb,Zlc,Zld,Zle,Zlf,Zlh,Zlk,Zlm,Zlz,Zmt,Zmv,Zmw,Zmx,Zmz,Zm2,Zm5,Zm6,Zm7,Zm9,Zna,Znb,Zne,Znf,Zng,Znn,Zno,Znp,Zns,Znt,Znw,Zn1,Zn5,Zos,Zot,Zo7,Zo8,Zo9,Zpc,Zpi,Zqf,Zqg,Zqh,Zqm,Zqr,eq_self,true_and,and_true,hn2]
def i39 (l : List Pc) (k : Nat) (s : St) : Prop := ∃ i n : Nat, i + k = l.length ∧ n + coF (l.drop i) = coF l + 5 ∧ n ≤ 2000000 * i + 5 ∧ s = ⟨[(0, fP l), (3, I (IN n)), (4, I (IN i))], [], 0⟩
theorem rcost_con (l : List Pc) (hl : okL l) : Con Try.prog 39 [] [fP l] [] (I (IN (coF l))) := by
  refine con_j b39 rfl ?_
  sym =>
  simp [Zaa,Zab,Zad,Zae,Zaf,Zag,Zah,Zai,Zak,Zal,Zam,Zan,Zap,Zaq,Zav,Zaw,Zay,Zaz,Za0,Za1,Za2,Za3,Za4,Za5,Za9,Zba,Zbb,Zbf,Zbt,Zbv,Zb1,Zcn,Zev,Zew,Zez,Ze0,Ze2,Ze5,Zfd,Zfe,Zfh,Zfn,Zfq,Zf1,Zf3,Zgr,Zgu,Zgw,Zgy,Zg4,Zg6,Zho,Zh6,Zh7,Zmt,Zmv,Zmw,Zmx,Zmz,Zm2,Zm6,Zna,Znb,Zns,Znt,Znw,Znx,Zn1,Zn5,Zos,Zot,Zo7,Zo8,Zo9,Zpc,Zpi,Zqf,Zqg,Zqh,Zqm,Zqr,eq_self,true_and,and_true]
  tactic =>
  have hl1 := hl.1
  refine lpA (i39 l) l.length [] _ ⟨0, 5, by omega, by rw [List.drop_zero]; omega, by omega, rfl⟩ (wkA ?_) ?_
  · sym =>
    simp [Zaa,Zab,Zad,Zae,Zaf,Zag,Zah,Zai,Zak,Zal,Zam,Zan,Zap,Zaq,Zav,Zaw,Zay,Zaz,Za0,Za1,Za2,Za3,Za4,Za5,Za9,Zba,Zbb,Zbf,Zbt,Zbv,Zb1,Zcn,Zev,Zew,Zez,Ze0,Ze2,Ze5,Zfd,Zfe,Zfh,Zfn,Zfq,Zf1,Zf3,Zgr,Zgu,Zgw,Zgy,Zg4,Zg6,Zho,Zh6,Zh7,Zmt,Zmv,Zmw,Zmx,Zmz,Zm2,Zm6,Zna,Znb,Zns,Znt,Znw,Znx,Zn1,Zn5,Zos,Zot,Zo7,Zo8,Zo9,Zpc,Zpi,Zqf,Zqg,Zqh,Zqm,Zqr,eq_self,true_and,and_true]
    tactic =>
    rfl
  rintro k s ⟨i, n, hi, hn, hnb, rfl⟩
  by_cases h : i < l.length
  · have hw := w64s i (by omega)
    have g2 := cP_q2 l i h
    have hPl := cP_length l
    have hcd := coF_drop l i h
    have hpl := hl.2 l[i] (List.getElem_mem h)
    obtain ⟨p, hp⟩ : ∃ p, p = l[i] := ⟨_, rfl⟩
    rw [← hp] at g2 hcd hpl
    by_cases h3 : 0 < p.2.2.length
    · rw [if_pos h3] at hcd
      have hw1 : IntKind.i64.wrap (5 + IN p.2.2.length) = IN (5 + p.2.2.length) := by simp only [IN]; rw [w64 _ (by omega)]; omega
      have hw2 : IntKind.i64.wrap (IN (n + (5 + p.2.2.length))) = IN (n + (5 + p.2.2.length)) := by simp only [IN]; rw [w64 _ (by omega)]
      sym =>
      simp [Zaa,Zab,Zad,Zae,Zaf,Zag,Zah,Zai,Zak,Zal,Zam,Zan,Zap,Zaq,Zav,Zaw,Zay,Zaz,Za0,Za1,Za2,Za3,Za4,Za5,Za9,Zba,Zbb,Zbf,Zbt,Zbv,Zb1,Zcn,Zev,Zew,Zez,Ze0,Ze2,Ze5,Zfd,Zfe,Zfh,Zfn,Zfq,Zf1,Zf3,Zgr,Zgu,Zgw,Zgy,Zg4,Zg6,Zho,Zh6,Zh7,Zmt,Zmv,Zmw,Zmx,Zmz,Zm2,Zm6,Zna,Znb,Zns,Znt,Znw,Znx,Zn1,Zn5,Zos,Zot,Zo7,Zo8,Zo9,Zpc,Zpi,Zqf,Zqg,Zqh,Zqm,Zqr,eq_self,true_and,and_true,h,hw,g2,h3,hw1,hw2]
      tactic =>
      and_intros <;> try (first | omega | rfl | assumption | simp only [IN]; omega)
      unfold NextL; refine ⟨(k - 1), [], _, by omega, ⟨i + 1, n + (5 + p.2.2.length), by omega, by omega, by omega, rfl⟩, wkA ?_⟩
      sym =>
      simp [Zaa,Zab,Zad,Zae,Zaf,Zag,Zah,Zai,Zak,Zal,Zam,Zan,Zap,Zaq,Zav,Zaw,Zay,Zaz,Za0,Za1,Za2,Za3,Za4,Za5,Za9,Zba,Zbb,Zbf,Zbt,Zbv,Zb1,Zcn,Zev,Zew,Zez,Ze0,Ze2,Ze5,Zfd,Zfe,Zfh,Zfn,Zfq,Zf1,Zf3,Zgr,Zgu,Zgw,Zgy,Zg4,Zg6,Zho,Zh6,Zh7,Zmt,Zmv,Zmw,Zmx,Zmz,Zm2,Zm6,Zna,Znb,Zns,Znt,Znw,Znx,Zn1,Zn5,Zos,Zot,Zo7,Zo8,Zo9,Zpc,Zpi,Zqf,Zqg,Zqh,Zqm,Zqr,eq_self,true_and,and_true]
    · rw [if_neg h3] at hcd
      have hw2 : IntKind.i64.wrap (IN n + (9 : Int)) = IN (n + 9) := by simp only [IN]; rw [w64 _ (by omega)]; omega
      sym =>
      simp [Zaa,Zab,Zad,Zae,Zaf,Zag,Zah,Zai,Zak,Zal,Zam,Zan,Zap,Zaq,Zav,Zaw,Zay,Zaz,Za0,Za1,Za2,Za3,Za4,Za5,Za9,Zba,Zbb,Zbf,Zbt,Zbv,Zb1,Zcn,Zev,Zew,Zez,Ze0,Ze2,Ze5,Zfd,Zfe,Zfh,Zfn,Zfq,Zf1,Zf3,Zgr,Zgu,Zgw,Zgy,Zg4,Zg6,Zho,Zh6,Zh7,Zmt,Zmv,Zmw,Zmx,Zmz,Zm2,Zm6,Zna,Znb,Zns,Znt,Znw,Znx,Zn1,Zn5,Zos,Zot,Zo7,Zo8,Zo9,Zpc,Zpi,Zqf,Zqg,Zqh,Zqm,Zqr,eq_self,true_and,and_true,h,hw,g2,h3,hw2]
      tactic =>
      and_intros <;> try (first | omega | rfl | assumption | simp only [IN]; omega)
      unfold NextL; refine ⟨(k - 1), [], _, by omega, ⟨i + 1, n + 9, by omega, by omega, by omega, rfl⟩, wkA ?_⟩
      sym =>
      simp [Zaa,Zab,Zad,Zae,Zaf,Zag,Zah,Zai,Zak,Zal,Zam,Zan,Zap,Zaq,Zav,Zaw,Zay,Zaz,Za0,Za1,Za2,Za3,Za4,Za5,Za9,Zba,Zbb,Zbf,Zbt,Zbv,Zb1,Zcn,Zev,Zew,Zez,Ze0,Ze2,Ze5,Zfd,Zfe,Zfh,Zfn,Zfq,Zf1,Zf3,Zgr,Zgu,Zgw,Zgy,Zg4,Zg6,Zho,Zh6,Zh7,Zmt,Zmv,Zmw,Zmx,Zmz,Zm2,Zm6,Zna,Znb,Zns,Znt,Znw,Znx,Zn1,Zn5,Zos,Zot,Zo7,Zo8,Zo9,Zpc,Zpi,Zqf,Zqg,Zqh,Zqm,Zqr,eq_self,true_and,and_true]
  · have hn2 : n = coF l := by
      rw [List.drop_of_length_le (by omega)] at hn
      simp only [coF] at hn; omega
    sym =>
    simp [Zaa,Zab,Zad,Zae,Zaf,Zag,Zah,Zai,Zak,Zal,Zam,Zan,Zap,Zaq,Zav,Zaw,Zay,Zaz,Za0,Za1,Za2,Za3,Za4,Za5,Za9,Zba,Zbb,Zbf,Zbt,Zbv,Zb1,Zcn,Zev,Zew,Zez,Ze0,Ze2,Ze5,Zfd,Zfe,Zfh,Zfn,Zfq,Zf1,Zf3,Zgr,Zgu,Zgw,Zgy,Zg4,Zg6,Zho,Zh6,Zh7,Zmt,Zmv,Zmw,Zmx,Zmz,Zm2,Zm6,Zna,Znb,Zns,Znt,Znw,Znx,Zn1,Zn5,Zos,Zot,Zo7,Zo8,Zo9,Zpc,Zpi,Zqf,Zqg,Zqh,Zqm,Zqr,eq_self,true_and,and_true,h]
    tactic =>
    refine endA ?_
    sym =>
    simp [Zaa,Zab,Zad,Zae,Zaf,Zag,Zah,Zai,Zak,Zal,Zam,Zan,Zap,Zaq,Zav,Zaw,Zay,Zaz,Za0,Za1,Za2,Za3,Za4,Za5,Za9,Zba,Zbb,Zbf,Zbt,Zbv,Zb1,Zcn,Zev,Zew,Zez,Ze0,Ze2,Ze5,Zfd,Zfe,Zfh,Zfn,Zfq,Zf1,Zf3,Zgr,Zgu,Zgw,Zgy,Zg4,Zg6,Zho,Zh6,Zh7,Zmt,Zmv,Zmw,Zmx,Zmz,Zm2,Zm6,Zna,Znb,Zns,Znt,Znw,Znx,Zn1,Zn5,Zos,Zot,Zo7,Zo8,Zo9,Zpc,Zpi,Zqf,Zqg,Zqh,Zqm,Zqr,eq_self,true_and,and_true,hn2]
theorem take_eq_stepP {a b : List Pc} {i : Nat} (h : a.take i = b.take i) (ha : i < a.length) (hb : i < b.length) (e : a[i] = b[i]) : a.take (i + 1) = b.take (i + 1) := by
  rw [take_step a i ha, take_step b i hb, h, e]
def i31 (a b : List Pc) (k : Nat) (s : St) : Prop := ∃ i : Nat, i + k = a.length ∧ a.take i = b.take i ∧ s = ⟨[(0, fP a), (1, fP b), (12, I (IN a.length)), (13, I (IN i))], [], 0⟩
theorem psame_con (a b : List Pc) (hok : okL a) : Con Try.prog 31 [] [fP a, fP b] [] (Bo (decide (a = b))) := by
  refine con_j b31 rfl ?_
  have hl1 := hok.1
  by_cases hl : a.length = b.length
  · have hlt := eq_true hl
    sym =>
    simp [Zaa,Zab,Zac,Zad,Zae,Zaf,Zag,Zah,Zai,Zak,Zal,Zam,Zan,Zao,Zap,Zaq,Zar,Zav,Zaw,Zax,Zay,Zaz,Za0,Za1,Za2,Za3,Za4,Za5,Za9,Zba,Zbb,Zbc,Zbe,Zbf,Zbg,Zbk,Zbu,Zbw,Zb2,Zcn,Zc7,Zc8,Zdf,Zdg,Zdh,Zdj,Zdk,Zdo,Zdp,Zdq,Zdr,Zds,Zdt,Zdu,Zdv,Zdw,Zdx,Zdy,Zd0,Zd1,Zd2,Zeb,Zee,Zeq,Zet,Zev,Zew,Zex,Zez,Ze0,Ze2,Ze5,Zfd,Zfe,Zfh,Zfi,Zfj,Zfl,Zfn,Zfq,Zf0,Zf1,Zgd,Zgg,Zgr,Zgu,Zgw,Zgy,Zg4,Zg6,Zho,Zh6,Zh7,Zjw,Zla,Zlb,Zle,Zll,Zlz,Zmt,Zmv,Zmw,Zmx,Zmz,Zm2,Zm6,Zna,Znb,Zne,Znf,Zng,Zns,Znt,Znv,Znw,Zn5,Zos,Zot,Zo3,Zo4,Zo6,Zo7,Zo8,Zo9,Zpc,Zpi,Zqf,Zqg,Zqh,Zqm,eq_self,true_and,and_true,Nat.add_zero,hl]
    tactic =>
    rw [← hl]
    refine lpA (i31 a b) a.length [] _ ⟨0, by omega, rfl, rfl⟩ (wkA ?_) ?_
    · sym =>
      simp [Zaa,Zab,Zac,Zad,Zae,Zaf,Zag,Zah,Zai,Zak,Zal,Zam,Zan,Zao,Zap,Zaq,Zar,Zav,Zaw,Zax,Zay,Zaz,Za0,Za1,Za2,Za3,Za4,Za5,Za9,Zba,Zbb,Zbc,Zbe,Zbf,Zbg,Zbk,Zbu,Zbw,Zb2,Zcn,Zc7,Zc8,Zdf,Zdg,Zdh,Zdj,Zdk,Zdo,Zdp,Zdq,Zdr,Zds,Zdt,Zdu,Zdv,Zdw,Zdx,Zdy,Zd0,Zd1,Zd2,Zeb,Zee,Zeq,Zet,Zev,Zew,Zex,Zez,Ze0,Ze2,Ze5,Zfd,Zfe,Zfh,Zfi,Zfj,Zfl,Zfn,Zfq,Zf0,Zf1,Zgd,Zgg,Zgr,Zgu,Zgw,Zgy,Zg4,Zg6,Zho,Zh6,Zh7,Zjw,Zla,Zlb,Zle,Zll,Zlz,Zmt,Zmv,Zmw,Zmx,Zmz,Zm2,Zm6,Zna,Znb,Zne,Znf,Zng,Zns,Znt,Znv,Znw,Zn5,Zos,Zot,Zo3,Zo4,Zo6,Zo7,Zo8,Zo9,Zpc,Zpi,Zqf,Zqg,Zqh,Zqm,eq_self,true_and,and_true,Nat.add_zero]
      tactic =>
      exact hl
    rintro k s ⟨i, hi, ht, rfl⟩
    by_cases h : i < a.length
    · have hb : i < b.length := by omega
      have hw := w64s i (by omega)
      have a0 := cP_q0 a i h
      have a1 := cP_q1 a i h
      have a2 := cP_q2 a i h
      have b0 := cP_q0 b i hb
      have b1 := cP_q1 b i hb
      have b2 := cP_q2 b i hb
      have hAl := cP_length a
      have hBl := cP_length b
      have hql := hok.2 a[i] (List.getElem_mem h)
      have htn := take_eq_stepP ht h hb
      have hne : ¬ a[i] = b[i] → ¬ a = b := fun hh e => hh (by subst e; rfl)
      obtain ⟨p, hp⟩ : ∃ p, p = a[i] := ⟨_, rfl⟩
      obtain ⟨q, hq⟩ : ∃ q, q = b[i] := ⟨_, rfl⟩
      rw [← hp] at a0 a1 a2 hql htn hne
      rw [← hq] at b0 b1 b2 htn hne
      obtain ⟨p0, p1, p2⟩ := p
      obtain ⟨q0, q1, q2⟩ := q
      simp only at a0 a1 a2 b0 b1 b2 hql
      by_cases e0 : p0 = q0
      · by_cases e1 : p1 = q1
        · have hs := nsame_con p2 q2 (by omega)
          by_cases e2 : p2 = q2
          · subst e0 e1 e2
            sym =>
            simp [Zaa,Zab,Zac,Zad,Zae,Zaf,Zag,Zah,Zai,Zak,Zal,Zam,Zan,Zao,Zap,Zaq,Zar,Zav,Zaw,Zax,Zay,Zaz,Za0,Za1,Za2,Za3,Za4,Za5,Za9,Zba,Zbb,Zbc,Zbe,Zbf,Zbg,Zbk,Zbu,Zbw,Zb2,Zcn,Zc7,Zc8,Zdf,Zdg,Zdh,Zdj,Zdk,Zdo,Zdp,Zdq,Zdr,Zds,Zdt,Zdu,Zdv,Zdw,Zdx,Zdy,Zd0,Zd1,Zd2,Zeb,Zee,Zeq,Zet,Zev,Zew,Zex,Zez,Ze0,Ze2,Ze5,Zfd,Zfe,Zfh,Zfi,Zfj,Zfl,Zfn,Zfq,Zf0,Zf1,Zgd,Zgg,Zgr,Zgu,Zgw,Zgy,Zg4,Zg6,Zho,Zh6,Zh7,Zjw,Zla,Zlb,Zle,Zll,Zlz,Zmt,Zmv,Zmw,Zmx,Zmz,Zm2,Zm6,Zna,Znb,Zne,Znf,Zng,Zns,Znt,Znv,Znw,Zn5,Zos,Zot,Zo3,Zo4,Zo6,Zo7,Zo8,Zo9,Zpc,Zpi,Zqf,Zqg,Zqh,Zqm,eq_self,true_and,and_true,Nat.add_zero,h,hw,a0,a1,a2,b0,b1,b2,callable_33]
            tactic =>
            and_intros <;> try (first | omega | rfl | assumption | simp only [IN]; omega)
            refine cl none (hs) trivial ?_
            sym =>
            simp [Zaa,Zab,Zac,Zad,Zae,Zaf,Zag,Zah,Zai,Zak,Zal,Zam,Zan,Zao,Zap,Zaq,Zar,Zav,Zaw,Zax,Zay,Zaz,Za0,Za1,Za2,Za3,Za4,Za5,Za9,Zba,Zbb,Zbc,Zbe,Zbf,Zbg,Zbk,Zbu,Zbw,Zb2,Zcn,Zc7,Zc8,Zdf,Zdg,Zdh,Zdj,Zdk,Zdo,Zdp,Zdq,Zdr,Zds,Zdt,Zdu,Zdv,Zdw,Zdx,Zdy,Zd0,Zd1,Zd2,Zeb,Zee,Zeq,Zet,Zev,Zew,Zex,Zez,Ze0,Ze2,Ze5,Zfd,Zfe,Zfh,Zfi,Zfj,Zfl,Zfn,Zfq,Zf0,Zf1,Zgd,Zgg,Zgr,Zgu,Zgw,Zgy,Zg4,Zg6,Zho,Zh6,Zh7,Zjw,Zla,Zlb,Zle,Zll,Zlz,Zmt,Zmv,Zmw,Zmx,Zmz,Zm2,Zm6,Zna,Znb,Zne,Znf,Zng,Zns,Znt,Znv,Znw,Zn5,Zos,Zot,Zo3,Zo4,Zo6,Zo7,Zo8,Zo9,Zpc,Zpi,Zqf,Zqg,Zqh,Zqm,eq_self,true_and,and_true,Nat.add_zero,hw]
            tactic =>
            unfold NextL; refine ⟨(k - 1), [], _, by omega, ⟨i + 1, by omega, htn rfl, rfl⟩, wkA ?_⟩
            sym =>
            simp [Zaa,Zab,Zac,Zad,Zae,Zaf,Zag,Zah,Zai,Zak,Zal,Zam,Zan,Zao,Zap,Zaq,Zar,Zav,Zaw,Zax,Zay,Zaz,Za0,Za1,Za2,Za3,Za4,Za5,Za9,Zba,Zbb,Zbc,Zbe,Zbf,Zbg,Zbk,Zbu,Zbw,Zb2,Zcn,Zc7,Zc8,Zdf,Zdg,Zdh,Zdj,Zdk,Zdo,Zdp,Zdq,Zdr,Zds,Zdt,Zdu,Zdv,Zdw,Zdx,Zdy,Zd0,Zd1,Zd2,Zeb,Zee,Zeq,Zet,Zev,Zew,Zex,Zez,Ze0,Ze2,Ze5,Zfd,Zfe,Zfh,Zfi,Zfj,Zfl,Zfn,Zfq,Zf0,Zf1,Zgd,Zgg,Zgr,Zgu,Zgw,Zgy,Zg4,Zg6,Zho,Zh6,Zh7,Zjw,Zla,Zlb,Zle,Zll,Zlz,Zmt,Zmv,Zmw,Zmx,Zmz,Zm2,Zm6,Zna,Znb,Zne,Znf,Zng,Zns,Znt,Znv,Znw,Zn5,Zos,Zot,Zo3,Zo4,Zo6,Zo7,Zo8,Zo9,Zpc,Zpi,Zqf,Zqg,Zqh,Zqm,eq_self,true_and,and_true,Nat.add_zero]
          · have hab := hne (fun e => e2 (by injection e with e e'; injection e'))
            sym =>
            simp [Zaa,Zab,Zac,Zad,Zae,Zaf,Zag,Zah,Zai,Zak,Zal,Zam,Zan,Zao,Zap,Zaq,Zar,Zav,Zaw,Zax,Zay,Zaz,Za0,Za1,Za2,Za3,Za4,Za5,Za9,Zba,Zbb,Zbc,Zbe,Zbf,Zbg,Zbk,Zbu,Zbw,Zb2,Zcn,Zc7,Zc8,Zdf,Zdg,Zdh,Zdj,Zdk,Zdo,Zdp,Zdq,Zdr,Zds,Zdt,Zdu,Zdv,Zdw,Zdx,Zdy,Zd0,Zd1,Zd2,Zeb,Zee,Zeq,Zet,Zev,Zew,Zex,Zez,Ze0,Ze2,Ze5,Zfd,Zfe,Zfh,Zfi,Zfj,Zfl,Zfn,Zfq,Zf0,Zf1,Zgd,Zgg,Zgr,Zgu,Zgw,Zgy,Zg4,Zg6,Zho,Zh6,Zh7,Zjw,Zla,Zlb,Zle,Zll,Zlz,Zmt,Zmv,Zmw,Zmx,Zmz,Zm2,Zm6,Zna,Znb,Zne,Znf,Zng,Zns,Znt,Znv,Znw,Zn5,Zos,Zot,Zo3,Zo4,Zo6,Zo7,Zo8,Zo9,Zpc,Zpi,Zqf,Zqg,Zqh,Zqm,eq_self,true_and,and_true,Nat.add_zero,h,hw,a0,a1,a2,b0,b1,b2,e0,e1,callable_33]
            tactic =>
            and_intros <;> try (first | omega | rfl | assumption | simp only [IN]; omega)
            refine cl none (hs) trivial ?_
            sym =>
            simp [Zaa,Zab,Zac,Zad,Zae,Zaf,Zag,Zah,Zai,Zak,Zal,Zam,Zan,Zao,Zap,Zaq,Zar,Zav,Zaw,Zax,Zay,Zaz,Za0,Za1,Za2,Za3,Za4,Za5,Za9,Zba,Zbb,Zbc,Zbe,Zbf,Zbg,Zbk,Zbu,Zbw,Zb2,Zcn,Zc7,Zc8,Zdf,Zdg,Zdh,Zdj,Zdk,Zdo,Zdp,Zdq,Zdr,Zds,Zdt,Zdu,Zdv,Zdw,Zdx,Zdy,Zd0,Zd1,Zd2,Zeb,Zee,Zeq,Zet,Zev,Zew,Zex,Zez,Ze0,Ze2,Ze5,Zfd,Zfe,Zfh,Zfi,Zfj,Zfl,Zfn,Zfq,Zf0,Zf1,Zgd,Zgg,Zgr,Zgu,Zgw,Zgy,Zg4,Zg6,Zho,Zh6,Zh7,Zjw,Zla,Zlb,Zle,Zll,Zlz,Zmt,Zmv,Zmw,Zmx,Zmz,Zm2,Zm6,Zna,Znb,Zne,Znf,Zng,Zns,Znt,Znv,Znw,Zn5,Zos,Zot,Zo3,Zo4,Zo6,Zo7,Zo8,Zo9,Zpc,Zpi,Zqf,Zqg,Zqh,Zqm,eq_self,true_and,and_true,Nat.add_zero,hw,e2]
            tactic =>
            refine endA ?_
            sym =>
            simp [Zaa,Zab,Zac,Zad,Zae,Zaf,Zag,Zah,Zai,Zak,Zal,Zam,Zan,Zao,Zap,Zaq,Zar,Zav,Zaw,Zax,Zay,Zaz,Za0,Za1,Za2,Za3,Za4,Za5,Za9,Zba,Zbb,Zbc,Zbe,Zbf,Zbg,Zbk,Zbu,Zbw,Zb2,Zcn,Zc7,Zc8,Zdf,Zdg,Zdh,Zdj,Zdk,Zdo,Zdp,Zdq,Zdr,Zds,Zdt,Zdu,Zdv,Zdw,Zdx,Zdy,Zd0,Zd1,Zd2,Zeb,Zee,Zeq,Zet,Zev,Zew,Zex,Zez,Ze0,Ze2,Ze5,Zfd,Zfe,Zfh,Zfi,Zfj,Zfl,Zfn,Zfq,Zf0,Zf1,Zgd,Zgg,Zgr,Zgu,Zgw,Zgy,Zg4,Zg6,Zho,Zh6,Zh7,Zjw,Zla,Zlb,Zle,Zll,Zlz,Zmt,Zmv,Zmw,Zmx,Zmz,Zm2,Zm6,Zna,Znb,Zne,Znf,Zng,Zns,Znt,Znv,Znw,Zn5,Zos,Zot,Zo3,Zo4,Zo6,Zo7,Zo8,Zo9,Zpc,Zpi,Zqf,Zqg,Zqh,Zqm,eq_self,true_and,and_true,Nat.add_zero,hab]
        · have hab := hne (fun e => e1 (by injection e with e e'; injection e'))
          sym =>
          simp [Zaa,Zab,Zac,Zad,Zae,Zaf,Zag,Zah,Zai,Zak,Zal,Zam,Zan,Zao,Zap,Zaq,Zar,Zav,Zaw,Zax,Zay,Zaz,Za0,Za1,Za2,Za3,Za4,Za5,Za9,Zba,Zbb,Zbc,Zbe,Zbf,Zbg,Zbk,Zbu,Zbw,Zb2,Zcn,Zc7,Zc8,Zdf,Zdg,Zdh,Zdj,Zdk,Zdo,Zdp,Zdq,Zdr,Zds,Zdt,Zdu,Zdv,Zdw,Zdx,Zdy,Zd0,Zd1,Zd2,Zeb,Zee,Zeq,Zet,Zev,Zew,Zex,Zez,Ze0,Ze2,Ze5,Zfd,Zfe,Zfh,Zfi,Zfj,Zfl,Zfn,Zfq,Zf0,Zf1,Zgd,Zgg,Zgr,Zgu,Zgw,Zgy,Zg4,Zg6,Zho,Zh6,Zh7,Zjw,Zla,Zlb,Zle,Zll,Zlz,Zmt,Zmv,Zmw,Zmx,Zmz,Zm2,Zm6,Zna,Znb,Zne,Znf,Zng,Zns,Znt,Znv,Znw,Zn5,Zos,Zot,Zo3,Zo4,Zo6,Zo7,Zo8,Zo9,Zpc,Zpi,Zqf,Zqg,Zqh,Zqm,eq_self,true_and,and_true,Nat.add_zero,h,hw,a0,a1,a2,b0,b1,b2,e0,e1]
          tactic =>
          and_intros <;> try (first | omega | rfl | assumption | simp only [IN]; omega)
          refine endA ?_
          sym =>
          simp [Zaa,Zab,Zac,Zad,Zae,Zaf,Zag,Zah,Zai,Zak,Zal,Zam,Zan,Zao,Zap,Zaq,Zar,Zav,Zaw,Zax,Zay,Zaz,Za0,Za1,Za2,Za3,Za4,Za5,Za9,Zba,Zbb,Zbc,Zbe,Zbf,Zbg,Zbk,Zbu,Zbw,Zb2,Zcn,Zc7,Zc8,Zdf,Zdg,Zdh,Zdj,Zdk,Zdo,Zdp,Zdq,Zdr,Zds,Zdt,Zdu,Zdv,Zdw,Zdx,Zdy,Zd0,Zd1,Zd2,Zeb,Zee,Zeq,Zet,Zev,Zew,Zex,Zez,Ze0,Ze2,Ze5,Zfd,Zfe,Zfh,Zfi,Zfj,Zfl,Zfn,Zfq,Zf0,Zf1,Zgd,Zgg,Zgr,Zgu,Zgw,Zgy,Zg4,Zg6,Zho,Zh6,Zh7,Zjw,Zla,Zlb,Zle,Zll,Zlz,Zmt,Zmv,Zmw,Zmx,Zmz,Zm2,Zm6,Zna,Znb,Zne,Znf,Zng,Zns,Znt,Znv,Znw,Zn5,Zos,Zot,Zo3,Zo4,Zo6,Zo7,Zo8,Zo9,Zpc,Zpi,Zqf,Zqg,Zqh,Zqm,eq_self,true_and,and_true,Nat.add_zero,hab]
      · have hab := hne (fun e => e0 (by injection e))
        sym =>
        simp [Zaa,Zab,Zac,Zad,Zae,Zaf,Zag,Zah,Zai,Zak,Zal,Zam,Zan,Zao,Zap,Zaq,Zar,Zav,Zaw,Zax,Zay,Zaz,Za0,Za1,Za2,Za3,Za4,Za5,Za9,Zba,Zbb,Zbc,Zbe,Zbf,Zbg,Zbk,Zbu,Zbw,Zb2,Zcn,Zc7,Zc8,Zdf,Zdg,Zdh,Zdj,Zdk,Zdo,Zdp,Zdq,Zdr,Zds,Zdt,Zdu,Zdv,Zdw,Zdx,Zdy,Zd0,Zd1,Zd2,Zeb,Zee,Zeq,Zet,Zev,Zew,Zex,Zez,Ze0,Ze2,Ze5,Zfd,Zfe,Zfh,Zfi,Zfj,Zfl,Zfn,Zfq,Zf0,Zf1,Zgd,Zgg,Zgr,Zgu,Zgw,Zgy,Zg4,Zg6,Zho,Zh6,Zh7,Zjw,Zla,Zlb,Zle,Zll,Zlz,Zmt,Zmv,Zmw,Zmx,Zmz,Zm2,Zm6,Zna,Znb,Zne,Znf,Zng,Zns,Znt,Znv,Znw,Zn5,Zos,Zot,Zo3,Zo4,Zo6,Zo7,Zo8,Zo9,Zpc,Zpi,Zqf,Zqg,Zqh,Zqm,eq_self,true_and,and_true,Nat.add_zero,h,hw,a0,a1,a2,b0,b1,b2,e0]
        tactic =>
        and_intros <;> try (first | omega | rfl | assumption | simp only [IN]; omega)
        refine endA ?_
        sym =>
        simp [Zaa,Zab,Zac,Zad,Zae,Zaf,Zag,Zah,Zai,Zak,Zal,Zam,Zan,Zao,Zap,Zaq,Zar,Zav,Zaw,Zax,Zay,Zaz,Za0,Za1,Za2,Za3,Za4,Za5,Za9,Zba,Zbb,Zbc,Zbe,Zbf,Zbg,Zbk,Zbu,Zbw,Zb2,Zcn,Zc7,Zc8,Zdf,Zdg,Zdh,Zdj,Zdk,Zdo,Zdp,Zdq,Zdr,Zds,Zdt,Zdu,Zdv,Zdw,Zdx,Zdy,Zd0,Zd1,Zd2,Zeb,Zee,Zeq,Zet,Zev,Zew,Zex,Zez,Ze0,Ze2,Ze5,Zfd,Zfe,Zfh,Zfi,Zfj,Zfl,Zfn,Zfq,Zf0,Zf1,Zgd,Zgg,Zgr,Zgu,Zgw,Zgy,Zg4,Zg6,Zho,Zh6,Zh7,Zjw,Zla,Zlb,Zle,Zll,Zlz,Zmt,Zmv,Zmw,Zmx,Zmz,Zm2,Zm6,Zna,Znb,Zne,Znf,Zng,Zns,Znt,Znv,Znw,Zn5,Zos,Zot,Zo3,Zo4,Zo6,Zo7,Zo8,Zo9,Zpc,Zpi,Zqf,Zqg,Zqh,Zqm,eq_self,true_and,and_true,Nat.add_zero,hab]
    · have hab : a = b := by
        rw [List.take_of_length_le (by omega), List.take_of_length_le (by omega)] at ht
        exact ht
      sym =>
      simp [Zaa,Zab,Zac,Zad,Zae,Zaf,Zag,Zah,Zai,Zak,Zal,Zam,Zan,Zao,Zap,Zaq,Zar,Zav,Zaw,Zax,Zay,Zaz,Za0,Za1,Za2,Za3,Za4,Za5,Za9,Zba,Zbb,Zbc,Zbe,Zbf,Zbg,Zbk,Zbu,Zbw,Zb2,Zcn,Zc7,Zc8,Zdf,Zdg,Zdh,Zdj,Zdk,Zdo,Zdp,Zdq,Zdr,Zds,Zdt,Zdu,Zdv,Zdw,Zdx,Zdy,Zd0,Zd1,Zd2,Zeb,Zee,Zeq,Zet,Zev,Zew,Zex,Zez,Ze0,Ze2,Ze5,Zfd,Zfe,Zfh,Zfi,Zfj,Zfl,Zfn,Zfq,Zf0,Zf1,Zgd,Zgg,Zgr,Zgu,Zgw,Zgy,Zg4,Zg6,Zho,Zh6,Zh7,Zjw,Zla,Zlb,Zle,Zll,Zlz,Zmt,Zmv,Zmw,Zmx,Zmz,Zm2,Zm6,Zna,Znb,Zne,Znf,Zng,Zns,Znt,Znv,Znw,Zn5,Zos,Zot,Zo3,Zo4,Zo6,Zo7,Zo8,Zo9,Zpc,Zpi,Zqf,Zqg,Zqh,Zqm,eq_self,true_and,and_true,Nat.add_zero,h]
      tactic =>
      refine endA ?_
      sym =>
      simp [Zaa,Zab,Zac,Zad,Zae,Zaf,Zag,Zah,Zai,Zak,Zal,Zam,Zan,Zao,Zap,Zaq,Zar,Zav,Zaw,Zax,Zay,Zaz,Za0,Za1,Za2,Za3,Za4,Za5,Za9,Zba,Zbb,Zbc,Zbe,Zbf,Zbg,Zbk,Zbu,Zbw,Zb2,Zcn,Zc7,Zc8,Zdf,Zdg,Zdh,Zdj,Zdk,Zdo,Zdp,Zdq,Zdr,Zds,Zdt,Zdu,Zdv,Zdw,Zdx,Zdy,Zd0,Zd1,Zd2,Zeb,Zee,Zeq,Zet,Zev,Zew,Zex,Zez,Ze0,Ze2,Ze5,Zfd,Zfe,Zfh,Zfi,Zfj,Zfl,Zfn,Zfq,Zf0,Zf1,Zgd,Zgg,Zgr,Zgu,Zgw,Zgy,Zg4,Zg6,Zho,Zh6,Zh7,Zjw,Zla,Zlb,Zle,Zll,Zlz,Zmt,Zmv,Zmw,Zmx,Zmz,Zm2,Zm6,Zna,Znb,Zne,Znf,Zng,Zns,Znt,Znv,Znw,Zn5,Zos,Zot,Zo3,Zo4,Zo6,Zo7,Zo8,Zo9,Zpc,Zpi,Zqf,Zqg,Zqh,Zqm,eq_self,true_and,and_true,Nat.add_zero,hab]
  · have hab : ¬ a = b := fun e => hl (by rw [e])
    sym =>
    simp [Zaa,Zab,Zac,Zad,Zae,Zaf,Zag,Zah,Zai,Zak,Zal,Zam,Zan,Zao,Zap,Zaq,Zar,Zav,Zaw,Zax,Zay,Zaz,Za0,Za1,Za2,Za3,Za4,Za5,Za9,Zba,Zbb,Zbc,Zbe,Zbf,Zbg,Zbk,Zbu,Zbw,Zb2,Zcn,Zc7,Zc8,Zdf,Zdg,Zdh,Zdj,Zdk,Zdo,Zdp,Zdq,Zdr,Zds,Zdt,Zdu,Zdv,Zdw,Zdx,Zdy,Zd0,Zd1,Zd2,Zeb,Zee,Zeq,Zet,Zev,Zew,Zex,Zez,Ze0,Ze2,Ze5,Zfd,Zfe,Zfh,Zfi,Zfj,Zfl,Zfn,Zfq,Zf0,Zf1,Zgd,Zgg,Zgr,Zgu,Zgw,Zgy,Zg4,Zg6,Zho,Zh6,Zh7,Zjw,Zla,Zlb,Zle,Zll,Zlz,Zmt,Zmv,Zmw,Zmx,Zmz,Zm2,Zm6,Zna,Znb,Zne,Znf,Zng,Zns,Znt,Znv,Znw,Zn5,Zos,Zot,Zo3,Zo4,Zo6,Zo7,Zo8,Zo9,Zpc,Zpi,Zqf,Zqg,Zqh,Zqm,eq_self,true_and,and_true,Nat.add_zero,hl]
    tactic =>
    refine endA ?_
    sym =>
    simp [Zaa,Zab,Zac,Zad,Zae,Zaf,Zag,Zah,Zai,Zak,Zal,Zam,Zan,Zao,Zap,Zaq,Zar,Zav,Zaw,Zax,Zay,Zaz,Za0,Za1,Za2,Za3,Za4,Za5,Za9,Zba,Zbb,Zbc,Zbe,Zbf,Zbg,Zbk,Zbu,Zbw,Zb2,Zcn,Zc7,Zc8,Zdf,Zdg,Zdh,Zdj,Zdk,Zdo,Zdp,Zdq,Zdr,Zds,Zdt,Zdu,Zdv,Zdw,Zdx,Zdy,Zd0,Zd1,Zd2,Zeb,Zee,Zeq,Zet,Zev,Zew,Zex,Zez,Ze0,Ze2,Ze5,Zfd,Zfe,Zfh,Zfi,Zfj,Zfl,Zfn,Zfq,Zf0,Zf1,Zgd,Zgg,Zgr,Zgu,Zgw,Zgy,Zg4,Zg6,Zho,Zh6,Zh7,Zjw,Zla,Zlb,Zle,Zll,Zlz,Zmt,Zmv,Zmw,Zmx,Zmz,Zm2,Zm6,Zna,Znb,Zne,Znf,Zng,Zns,Znt,Znv,Znw,Zn5,Zos,Zot,Zo3,Zo4,Zo6,Zo7,Zo8,Zo9,Zpc,Zpi,Zqf,Zqg,Zqh,Zqm,eq_self,true_and,and_true,Nat.add_zero,hab]
end Go.Proofs.Ytdjjibmjinllnaa.DelC
