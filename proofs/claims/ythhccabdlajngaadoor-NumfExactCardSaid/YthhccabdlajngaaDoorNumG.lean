import Derived.Test.YthhccabdlajngaaDoorNumF
namespace Go.Proofs.YthhccabdlajngaaDoor.NumG
open Go Go.Sim Go.Sim.E Go.RowKit Go.Proofs Go.Proofs.YthhccabdlajngaaDoor.Cod Go.Proofs.YthhccabdlajngaaDoor.Tab Go.Proofs.YthhccabdlajngaaDoor.Bse Go.Proofs.YthhccabdlajngaaDoor.NumA Go.Proofs.YthhccabdlajngaaDoor.NumB Go.Proofs.YthhccabdlajngaaDoor.NumC Go.Proofs.YthhccabdlajngaaDoor.NumD Go.Proofs.YthhccabdlajngaaDoor.NumE Go.Proofs.YthhccabdlajngaaDoor.NumF
set_option linter.unusedVariables false
set_option linter.unusedSimpArgs false
set_option maxRecDepth 100000
set_option maxHeartbeats 4000000
def i18 (b r : List Int) (k : Nat) (s : St) : Prop := ∃ i : Nat, i + k = b.length ∧ (b.drop i).dropWhile (· == 32) = r ∧ s = ⟨[(0, fB b), (6, I (IN i))], [], 0⟩
def j18 (b r : List Int) (i0 : Nat) (Z : Int) (k : Nat) (s : St) : Prop := ∃ (j : Nat) (n : Int), j + k = r.length ∧ r.take j ++ digF (r.drop j) = digF r ∧ numG n (digF (r.drop j)) = Z ∧ 0 ≤ n ∧ n < 8 ^ j ∧ s = ⟨[(0, fB b), (6, I (IN (i0 + j))), (7, I n), (8, I (IN j))], [], 0⟩
def k18 (b t : List Int) (Z : Int) (m : Nat) (k : Nat) (s : St) : Prop := ∃ i : Nat, i + k = b.length ∧ (b.drop i).dropWhile blk = t.dropWhile blk ∧ s = ⟨[(0, fB b), (6, I (IN i)), (7, I Z), (8, I (IN m))], [], 0⟩
theorem rget_con (b : List Int) (hb : byt8 b) (hl : b.length ≤ 100) : Con Tryd.prog 18 [] [fB b] [] (.tu [I (getF b).1, I (getF b).2]) := by
  have hi := rW_con (IN b.length)
  obtain ⟨R, hR⟩ : ∃ R, R = getF b := ⟨_, rfl⟩
  rw [← hR]
  unfold getF at hR
  by_cases h1 : isW b.length = true
  rotate_left
  · rw [if_neg h1] at hR
    have h1' : isW (IN b.length) = false := by cases hh : isW (IN b.length); rfl; exact absurd hh h1
    rw [h1'] at hi
    subst hR
    refine con_j b18 rfl ?_
    sym =>
    simp [Zaa,Zab,Zac,Zad,Zae,Zaf,Zag,Zah,Zai,Zak,Zal,Zam,Zan,Zao,Zap,Zaq,Zav,Zaw,Zay,Zaz,Za0,Za1,Za2,Za3,Za4,Za5,Za6,Za7,Zrh,Za8,Za9,Zba,Zbb,Zbc,Zbd,Zbf,Zbg,Zbj,Zbl,Zbt,Zbu,Zb1,Zb2,Zb8,Zci,Zcn,Zc7,Zc8,Zdc,Zdd,Zde,Zdf,Zdg,Zdh,Zdi,Zdj,Zdk,Zdo,Zdp,Zdt,Zdu,Zdv,Zdw,Zdx,Zdy,Zd0,Zd1,Zd2,Zeb,Zee,Zep,Zeq,Zet,Zev,Zew,Zex,Zez,Ze0,Ze2,Ze5,Zfd,Zfe,Zfh,Zfi,Zfj,Zfk,Zfl,Zfn,Zfq,Zfr,Zfs,Zfz,Zf1,Zf2,Zf4,Zgd,Zgg,Zgh,Zgi,Zgr,Zgu,Zg4,Zg6,Zhb,Zhc,Zhm,Zhn,Zho,Zhs,Zht,Zhu,Zh6,Zh7,Zjq,Zjv,Zjw,Zky,Zkz,Zk0,Zk2,Zla,Zlb,Zle,Zlj,Zll,Zlz,Zmt,Zmv,Zmw,Zmx,Zmz,Zm3,Zm6,Zm9,Zna,Znb,Zne,Znf,Zng,Znh,Zns,Znt,Znu,Znv,Znw,Znx,Zny,Zn5,Zof,Zog,Zrd,Zos,Zot,Zo3,Zo4,Zo6,Zo7,Zo8,Zo9,Zpb,Zpc,Zpi,Zp9,Zqd,Zqe,Zqf,Zqg,Zqh,Zqm,Zqr,List.append_assoc,List.length_drop,eq_self,true_and,and_true,Nat.add_zero,Nat.mul_one,callable_22]
    tactic =>
    refine cl none (hi) trivial ?_
    sym =>
    simp [Zaa,Zab,Zac,Zad,Zae,Zaf,Zag,Zah,Zai,Zak,Zal,Zam,Zan,Zao,Zap,Zaq,Zav,Zaw,Zay,Zaz,Za0,Za1,Za2,Za3,Za4,Za5,Za6,Za7,Zrh,Za8,Za9,Zba,Zbb,Zbc,Zbd,Zbf,Zbg,Zbj,Zbl,Zbt,Zbu,Zb1,Zb2,Zb8,Zci,Zcn,Zc7,Zc8,Zdc,Zdd,Zde,Zdf,Zdg,Zdh,Zdi,Zdj,Zdk,Zdo,Zdp,Zdt,Zdu,Zdv,Zdw,Zdx,Zdy,Zd0,Zd1,Zd2,Zeb,Zee,Zep,Zeq,Zet,Zev,Zew,Zex,Zez,Ze0,Ze2,Ze5,Zfd,Zfe,Zfh,Zfi,Zfj,Zfk,Zfl,Zfn,Zfq,Zfr,Zfs,Zfz,Zf1,Zf2,Zf4,Zgd,Zgg,Zgh,Zgi,Zgr,Zgu,Zg4,Zg6,Zhb,Zhc,Zhm,Zhn,Zho,Zhs,Zht,Zhu,Zh6,Zh7,Zjq,Zjv,Zjw,Zky,Zkz,Zk0,Zk2,Zla,Zlb,Zle,Zlj,Zll,Zlz,Zmt,Zmv,Zmw,Zmx,Zmz,Zm3,Zm6,Zm9,Zna,Znb,Zne,Znf,Zng,Znh,Zns,Znt,Znu,Znv,Znw,Znx,Zny,Zn5,Zof,Zog,Zrd,Zos,Zot,Zo3,Zo4,Zo6,Zo7,Zo8,Zo9,Zpb,Zpc,Zpi,Zp9,Zqd,Zqe,Zqf,Zqg,Zqh,Zqm,Zqr,List.append_assoc,List.length_drop,eq_self,true_and,and_true,Nat.add_zero,Nat.mul_one]
    tactic =>
    refine endA ?_
    sym =>
    simp [Zaa,Zab,Zac,Zad,Zae,Zaf,Zag,Zah,Zai,Zak,Zal,Zam,Zan,Zao,Zap,Zaq,Zav,Zaw,Zay,Zaz,Za0,Za1,Za2,Za3,Za4,Za5,Za6,Za7,Zrh,Za8,Za9,Zba,Zbb,Zbc,Zbd,Zbf,Zbg,Zbj,Zbl,Zbt,Zbu,Zb1,Zb2,Zb8,Zci,Zcn,Zc7,Zc8,Zdc,Zdd,Zde,Zdf,Zdg,Zdh,Zdi,Zdj,Zdk,Zdo,Zdp,Zdt,Zdu,Zdv,Zdw,Zdx,Zdy,Zd0,Zd1,Zd2,Zeb,Zee,Zep,Zeq,Zet,Zev,Zew,Zex,Zez,Ze0,Ze2,Ze5,Zfd,Zfe,Zfh,Zfi,Zfj,Zfk,Zfl,Zfn,Zfq,Zfr,Zfs,Zfz,Zf1,Zf2,Zf4,Zgd,Zgg,Zgh,Zgi,Zgr,Zgu,Zg4,Zg6,Zhb,Zhc,Zhm,Zhn,Zho,Zhs,Zht,Zhu,Zh6,Zh7,Zjq,Zjv,Zjw,Zky,Zkz,Zk0,Zk2,Zla,Zlb,Zle,Zlj,Zll,Zlz,Zmt,Zmv,Zmw,Zmx,Zmz,Zm3,Zm6,Zm9,Zna,Znb,Zne,Znf,Zng,Znh,Zns,Znt,Znu,Znv,Znw,Znx,Zny,Zn5,Zof,Zog,Zrd,Zos,Zot,Zo3,Zo4,Zo6,Zo7,Zo8,Zo9,Zpb,Zpc,Zpi,Zp9,Zqd,Zqe,Zqf,Zqg,Zqh,Zqm,Zqr,List.append_assoc,List.length_drop,eq_self,true_and,and_true,Nat.add_zero,Nat.mul_one]
  rw [if_pos h1] at hR
  rw [show isW (IN b.length) = true from h1] at hi
  have hW := isW_iff h1
  have hW' : b.length = 8 ∨ b.length = 12 := by omega
  have hg := cB_get b 0 (by omega)
  have hq := cB_length b
  have hgt : (0 : Int) < IN b.length := by simp only [IN]; omega
  have h1l : 1 ≤ b.length := by omega
  obtain ⟨x, hx⟩ : ∃ x, x = b.getD 0 0 := ⟨_, rfl⟩
  rw [← hx] at hg hR
  have hdb := byt8_drop hb 1
  obtain ⟨d, hd⟩ : ∃ d, d = b.drop 1 := ⟨_, rfl⟩
  have ed : List.drop 1 (cB b) = cB d := by rw [hd, cB_drop]
  have edl : b.length - 1 = d.length := by rw [hd, List.length_drop]
  have eda := cB_all d
  rw [← hd] at hR hdb
  by_cases h128 : x = 128
  · rw [if_pos h128] at hR
    have hu := rbase_con d false hdb (by omega)
    have hno := ubG_no 0 d 0
    have e : rbF d false = if (ubG 0 0 d).2 = 0 then ((ubG 0 0 d).1, true) else (0, false) := rfl
    rw [e] at hu
    have hR2 : R = ubG 0 0 d := hR
    by_cases hz : (ubG 0 0 d).2 = 0
    · rw [if_pos hz, ← hR2] at hu
      rw [← hR2] at hz
      obtain ⟨n, z⟩ := R
      simp only at hu hz
      subst hz
      refine con_j b18 rfl ?_
      sym =>
      simp [Zaa,Zab,Zac,Zad,Zae,Zaf,Zag,Zah,Zai,Zak,Zal,Zam,Zan,Zao,Zap,Zaq,Zav,Zaw,Zay,Zaz,Za0,Za1,Za2,Za3,Za4,Za5,Za6,Za7,Zrh,Za8,Za9,Zba,Zbb,Zbc,Zbd,Zbf,Zbg,Zbj,Zbl,Zbt,Zbu,Zb1,Zb2,Zb8,Zci,Zcn,Zc7,Zc8,Zdc,Zdd,Zde,Zdf,Zdg,Zdh,Zdi,Zdj,Zdk,Zdo,Zdp,Zdt,Zdu,Zdv,Zdw,Zdx,Zdy,Zd0,Zd1,Zd2,Zeb,Zee,Zep,Zeq,Zet,Zev,Zew,Zex,Zez,Ze0,Ze2,Ze5,Zfd,Zfe,Zfh,Zfi,Zfj,Zfk,Zfl,Zfn,Zfq,Zfr,Zfs,Zfz,Zf1,Zf2,Zf4,Zgd,Zgg,Zgh,Zgi,Zgr,Zgu,Zg4,Zg6,Zhb,Zhc,Zhm,Zhn,Zho,Zhs,Zht,Zhu,Zh6,Zh7,Zjq,Zjv,Zjw,Zky,Zkz,Zk0,Zk2,Zla,Zlb,Zle,Zlj,Zll,Zlz,Zmt,Zmv,Zmw,Zmx,Zmz,Zm3,Zm6,Zm9,Zna,Znb,Zne,Znf,Zng,Znh,Zns,Znt,Znu,Znv,Znw,Znx,Zny,Zn5,Zof,Zog,Zrd,Zos,Zot,Zo3,Zo4,Zo6,Zo7,Zo8,Zo9,Zpb,Zpc,Zpi,Zp9,Zqd,Zqe,Zqf,Zqg,Zqh,Zqm,Zqr,List.append_assoc,List.length_drop,eq_self,true_and,and_true,Nat.add_zero,Nat.mul_one,callable_22]
      tactic =>
      refine cl none (hi) trivial ?_
      sym =>
      simp [Zaa,Zab,Zac,Zad,Zae,Zaf,Zag,Zah,Zai,Zak,Zal,Zam,Zan,Zao,Zap,Zaq,Zav,Zaw,Zay,Zaz,Za0,Za1,Za2,Za3,Za4,Za5,Za6,Za7,Zrh,Za8,Za9,Zba,Zbb,Zbc,Zbd,Zbf,Zbg,Zbj,Zbl,Zbt,Zbu,Zb1,Zb2,Zb8,Zci,Zcn,Zc7,Zc8,Zdc,Zdd,Zde,Zdf,Zdg,Zdh,Zdi,Zdj,Zdk,Zdo,Zdp,Zdt,Zdu,Zdv,Zdw,Zdx,Zdy,Zd0,Zd1,Zd2,Zeb,Zee,Zep,Zeq,Zet,Zev,Zew,Zex,Zez,Ze0,Ze2,Ze5,Zfd,Zfe,Zfh,Zfi,Zfj,Zfk,Zfl,Zfn,Zfq,Zfr,Zfs,Zfz,Zf1,Zf2,Zf4,Zgd,Zgg,Zgh,Zgi,Zgr,Zgu,Zg4,Zg6,Zhb,Zhc,Zhm,Zhn,Zho,Zhs,Zht,Zhu,Zh6,Zh7,Zjq,Zjv,Zjw,Zky,Zkz,Zk0,Zk2,Zla,Zlb,Zle,Zlj,Zll,Zlz,Zmt,Zmv,Zmw,Zmx,Zmz,Zm3,Zm6,Zm9,Zna,Znb,Zne,Znf,Zng,Znh,Zns,Znt,Znu,Znv,Znw,Znx,Zny,Zn5,Zof,Zog,Zrd,Zos,Zot,Zo3,Zo4,Zo6,Zo7,Zo8,Zo9,Zpb,Zpc,Zpi,Zp9,Zqd,Zqe,Zqf,Zqg,Zqh,Zqm,Zqr,List.append_assoc,List.length_drop,eq_self,true_and,and_true,Nat.add_zero,Nat.mul_one,hg,hgt,h1l,h128,ed,edl,eda,callable_29]
      tactic =>
      refine ⟨⟨by omega, by omega⟩, by omega, ⟨by simp only [IN]; omega, Nat.le_refl _⟩, ⟨by omega, by omega⟩, by omega, ?_⟩
      refine cl none (hu) trivial ?_
      sym =>
      simp [Zaa,Zab,Zac,Zad,Zae,Zaf,Zag,Zah,Zai,Zak,Zal,Zam,Zan,Zao,Zap,Zaq,Zav,Zaw,Zay,Zaz,Za0,Za1,Za2,Za3,Za4,Za5,Za6,Za7,Zrh,Za8,Za9,Zba,Zbb,Zbc,Zbd,Zbf,Zbg,Zbj,Zbl,Zbt,Zbu,Zb1,Zb2,Zb8,Zci,Zcn,Zc7,Zc8,Zdc,Zdd,Zde,Zdf,Zdg,Zdh,Zdi,Zdj,Zdk,Zdo,Zdp,Zdt,Zdu,Zdv,Zdw,Zdx,Zdy,Zd0,Zd1,Zd2,Zeb,Zee,Zep,Zeq,Zet,Zev,Zew,Zex,Zez,Ze0,Ze2,Ze5,Zfd,Zfe,Zfh,Zfi,Zfj,Zfk,Zfl,Zfn,Zfq,Zfr,Zfs,Zfz,Zf1,Zf2,Zf4,Zgd,Zgg,Zgh,Zgi,Zgr,Zgu,Zg4,Zg6,Zhb,Zhc,Zhm,Zhn,Zho,Zhs,Zht,Zhu,Zh6,Zh7,Zjq,Zjv,Zjw,Zky,Zkz,Zk0,Zk2,Zla,Zlb,Zle,Zlj,Zll,Zlz,Zmt,Zmv,Zmw,Zmx,Zmz,Zm3,Zm6,Zm9,Zna,Znb,Zne,Znf,Zng,Znh,Zns,Znt,Znu,Znv,Znw,Znx,Zny,Zn5,Zof,Zog,Zrd,Zos,Zot,Zo3,Zo4,Zo6,Zo7,Zo8,Zo9,Zpb,Zpc,Zpi,Zp9,Zqd,Zqe,Zqf,Zqg,Zqh,Zqm,Zqr,List.append_assoc,List.length_drop,eq_self,true_and,and_true,Nat.add_zero,Nat.mul_one]
      tactic =>
      refine endA ?_
      sym =>
      simp [Zaa,Zab,Zac,Zad,Zae,Zaf,Zag,Zah,Zai,Zak,Zal,Zam,Zan,Zao,Zap,Zaq,Zav,Zaw,Zay,Zaz,Za0,Za1,Za2,Za3,Za4,Za5,Za6,Za7,Zrh,Za8,Za9,Zba,Zbb,Zbc,Zbd,Zbf,Zbg,Zbj,Zbl,Zbt,Zbu,Zb1,Zb2,Zb8,Zci,Zcn,Zc7,Zc8,Zdc,Zdd,Zde,Zdf,Zdg,Zdh,Zdi,Zdj,Zdk,Zdo,Zdp,Zdt,Zdu,Zdv,Zdw,Zdx,Zdy,Zd0,Zd1,Zd2,Zeb,Zee,Zep,Zeq,Zet,Zev,Zew,Zex,Zez,Ze0,Ze2,Ze5,Zfd,Zfe,Zfh,Zfi,Zfj,Zfk,Zfl,Zfn,Zfq,Zfr,Zfs,Zfz,Zf1,Zf2,Zf4,Zgd,Zgg,Zgh,Zgi,Zgr,Zgu,Zg4,Zg6,Zhb,Zhc,Zhm,Zhn,Zho,Zhs,Zht,Zhu,Zh6,Zh7,Zjq,Zjv,Zjw,Zky,Zkz,Zk0,Zk2,Zla,Zlb,Zle,Zlj,Zll,Zlz,Zmt,Zmv,Zmw,Zmx,Zmz,Zm3,Zm6,Zm9,Zna,Znb,Zne,Znf,Zng,Znh,Zns,Znt,Znu,Znv,Znw,Znx,Zny,Zn5,Zof,Zog,Zrd,Zos,Zot,Zo3,Zo4,Zo6,Zo7,Zo8,Zo9,Zpb,Zpc,Zpi,Zp9,Zqd,Zqe,Zqf,Zqg,Zqh,Zqm,Zqr,List.append_assoc,List.length_drop,eq_self,true_and,and_true,Nat.add_zero,Nat.mul_one]
    · rw [if_neg hz] at hu
      have hR3 : R = (0, 10) := by rw [hR2]; exact hno hz
      subst hR3
      refine con_j b18 rfl ?_
      sym =>
      simp [Zaa,Zab,Zac,Zad,Zae,Zaf,Zag,Zah,Zai,Zak,Zal,Zam,Zan,Zao,Zap,Zaq,Zav,Zaw,Zay,Zaz,Za0,Za1,Za2,Za3,Za4,Za5,Za6,Za7,Zrh,Za8,Za9,Zba,Zbb,Zbc,Zbd,Zbf,Zbg,Zbj,Zbl,Zbt,Zbu,Zb1,Zb2,Zb8,Zci,Zcn,Zc7,Zc8,Zdc,Zdd,Zde,Zdf,Zdg,Zdh,Zdi,Zdj,Zdk,Zdo,Zdp,Zdt,Zdu,Zdv,Zdw,Zdx,Zdy,Zd0,Zd1,Zd2,Zeb,Zee,Zep,Zeq,Zet,Zev,Zew,Zex,Zez,Ze0,Ze2,Ze5,Zfd,Zfe,Zfh,Zfi,Zfj,Zfk,Zfl,Zfn,Zfq,Zfr,Zfs,Zfz,Zf1,Zf2,Zf4,Zgd,Zgg,Zgh,Zgi,Zgr,Zgu,Zg4,Zg6,Zhb,Zhc,Zhm,Zhn,Zho,Zhs,Zht,Zhu,Zh6,Zh7,Zjq,Zjv,Zjw,Zky,Zkz,Zk0,Zk2,Zla,Zlb,Zle,Zlj,Zll,Zlz,Zmt,Zmv,Zmw,Zmx,Zmz,Zm3,Zm6,Zm9,Zna,Znb,Zne,Znf,Zng,Znh,Zns,Znt,Znu,Znv,Znw,Znx,Zny,Zn5,Zof,Zog,Zrd,Zos,Zot,Zo3,Zo4,Zo6,Zo7,Zo8,Zo9,Zpb,Zpc,Zpi,Zp9,Zqd,Zqe,Zqf,Zqg,Zqh,Zqm,Zqr,List.append_assoc,List.length_drop,eq_self,true_and,and_true,Nat.add_zero,Nat.mul_one,callable_22]
      tactic =>
      refine cl none (hi) trivial ?_
      sym =>
      simp [Zaa,Zab,Zac,Zad,Zae,Zaf,Zag,Zah,Zai,Zak,Zal,Zam,Zan,Zao,Zap,Zaq,Zav,Zaw,Zay,Zaz,Za0,Za1,Za2,Za3,Za4,Za5,Za6,Za7,Zrh,Za8,Za9,Zba,Zbb,Zbc,Zbd,Zbf,Zbg,Zbj,Zbl,Zbt,Zbu,Zb1,Zb2,Zb8,Zci,Zcn,Zc7,Zc8,Zdc,Zdd,Zde,Zdf,Zdg,Zdh,Zdi,Zdj,Zdk,Zdo,Zdp,Zdt,Zdu,Zdv,Zdw,Zdx,Zdy,Zd0,Zd1,Zd2,Zeb,Zee,Zep,Zeq,Zet,Zev,Zew,Zex,Zez,Ze0,Ze2,Ze5,Zfd,Zfe,Zfh,Zfi,Zfj,Zfk,Zfl,Zfn,Zfq,Zfr,Zfs,Zfz,Zf1,Zf2,Zf4,Zgd,Zgg,Zgh,Zgi,Zgr,Zgu,Zg4,Zg6,Zhb,Zhc,Zhm,Zhn,Zho,Zhs,Zht,Zhu,Zh6,Zh7,Zjq,Zjv,Zjw,Zky,Zkz,Zk0,Zk2,Zla,Zlb,Zle,Zlj,Zll,Zlz,Zmt,Zmv,Zmw,Zmx,Zmz,Zm3,Zm6,Zm9,Zna,Znb,Zne,Znf,Zng,Znh,Zns,Znt,Znu,Znv,Znw,Znx,Zny,Zn5,Zof,Zog,Zrd,Zos,Zot,Zo3,Zo4,Zo6,Zo7,Zo8,Zo9,Zpb,Zpc,Zpi,Zp9,Zqd,Zqe,Zqf,Zqg,Zqh,Zqm,Zqr,List.append_assoc,List.length_drop,eq_self,true_and,and_true,Nat.add_zero,Nat.mul_one,hg,hgt,h1l,h128,ed,edl,eda,callable_29]
      tactic =>
      refine ⟨⟨by omega, by omega⟩, by omega, ⟨by simp only [IN]; omega, Nat.le_refl _⟩, ⟨by omega, by omega⟩, by omega, ?_⟩
      refine cl none (hu) trivial ?_
      sym =>
      simp [Zaa,Zab,Zac,Zad,Zae,Zaf,Zag,Zah,Zai,Zak,Zal,Zam,Zan,Zao,Zap,Zaq,Zav,Zaw,Zay,Zaz,Za0,Za1,Za2,Za3,Za4,Za5,Za6,Za7,Zrh,Za8,Za9,Zba,Zbb,Zbc,Zbd,Zbf,Zbg,Zbj,Zbl,Zbt,Zbu,Zb1,Zb2,Zb8,Zci,Zcn,Zc7,Zc8,Zdc,Zdd,Zde,Zdf,Zdg,Zdh,Zdi,Zdj,Zdk,Zdo,Zdp,Zdt,Zdu,Zdv,Zdw,Zdx,Zdy,Zd0,Zd1,Zd2,Zeb,Zee,Zep,Zeq,Zet,Zev,Zew,Zex,Zez,Ze0,Ze2,Ze5,Zfd,Zfe,Zfh,Zfi,Zfj,Zfk,Zfl,Zfn,Zfq,Zfr,Zfs,Zfz,Zf1,Zf2,Zf4,Zgd,Zgg,Zgh,Zgi,Zgr,Zgu,Zg4,Zg6,Zhb,Zhc,Zhm,Zhn,Zho,Zhs,Zht,Zhu,Zh6,Zh7,Zjq,Zjv,Zjw,Zky,Zkz,Zk0,Zk2,Zla,Zlb,Zle,Zlj,Zll,Zlz,Zmt,Zmv,Zmw,Zmx,Zmz,Zm3,Zm6,Zm9,Zna,Znb,Zne,Znf,Zng,Znh,Zns,Znt,Znu,Znv,Znw,Znx,Zny,Zn5,Zof,Zog,Zrd,Zos,Zot,Zo3,Zo4,Zo6,Zo7,Zo8,Zo9,Zpb,Zpc,Zpi,Zp9,Zqd,Zqe,Zqf,Zqg,Zqh,Zqm,Zqr,List.append_assoc,List.length_drop,eq_self,true_and,and_true,Nat.add_zero,Nat.mul_one]
      tactic =>
      refine endA ?_
      sym =>
      simp [Zaa,Zab,Zac,Zad,Zae,Zaf,Zag,Zah,Zai,Zak,Zal,Zam,Zan,Zao,Zap,Zaq,Zav,Zaw,Zay,Zaz,Za0,Za1,Za2,Za3,Za4,Za5,Za6,Za7,Zrh,Za8,Za9,Zba,Zbb,Zbc,Zbd,Zbf,Zbg,Zbj,Zbl,Zbt,Zbu,Zb1,Zb2,Zb8,Zci,Zcn,Zc7,Zc8,Zdc,Zdd,Zde,Zdf,Zdg,Zdh,Zdi,Zdj,Zdk,Zdo,Zdp,Zdt,Zdu,Zdv,Zdw,Zdx,Zdy,Zd0,Zd1,Zd2,Zeb,Zee,Zep,Zeq,Zet,Zev,Zew,Zex,Zez,Ze0,Ze2,Ze5,Zfd,Zfe,Zfh,Zfi,Zfj,Zfk,Zfl,Zfn,Zfq,Zfr,Zfs,Zfz,Zf1,Zf2,Zf4,Zgd,Zgg,Zgh,Zgi,Zgr,Zgu,Zg4,Zg6,Zhb,Zhc,Zhm,Zhn,Zho,Zhs,Zht,Zhu,Zh6,Zh7,Zjq,Zjv,Zjw,Zky,Zkz,Zk0,Zk2,Zla,Zlb,Zle,Zlj,Zll,Zlz,Zmt,Zmv,Zmw,Zmx,Zmz,Zm3,Zm6,Zm9,Zna,Znb,Zne,Znf,Zng,Znh,Zns,Znt,Znu,Znv,Znw,Znx,Zny,Zn5,Zof,Zog,Zrd,Zos,Zot,Zo3,Zo4,Zo6,Zo7,Zo8,Zo9,Zpb,Zpc,Zpi,Zp9,Zqd,Zqe,Zqf,Zqg,Zqh,Zqm,Zqr,List.append_assoc,List.length_drop,eq_self,true_and,and_true,Nat.add_zero,Nat.mul_one]
  rw [if_neg h128] at hR
  by_cases h255 : x = 255
  · rw [if_pos h255] at hR
    have hu := rbase_con d true hdb (by omega)
    have hno := ubG_no 255 d (-1)
    have e : rbF d true = if (ubG 255 (-1) d).2 = 0 then ((ubG 255 (-1) d).1, true) else (0, false) := rfl
    rw [e] at hu
    have hR2 : R = ubG 255 (-1) d := hR
    by_cases hz : (ubG 255 (-1) d).2 = 0
    · rw [if_pos hz, ← hR2] at hu
      rw [← hR2] at hz
      obtain ⟨n, z⟩ := R
      simp only at hu hz
      subst hz
      refine con_j b18 rfl ?_
      sym =>
      simp [Zaa,Zab,Zac,Zad,Zae,Zaf,Zag,Zah,Zai,Zak,Zal,Zam,Zan,Zao,Zap,Zaq,Zav,Zaw,Zay,Zaz,Za0,Za1,Za2,Za3,Za4,Za5,Za6,Za7,Zrh,Za8,Za9,Zba,Zbb,Zbc,Zbd,Zbf,Zbg,Zbj,Zbl,Zbt,Zbu,Zb1,Zb2,Zb8,Zci,Zcn,Zc7,Zc8,Zdc,Zdd,Zde,Zdf,Zdg,Zdh,Zdi,Zdj,Zdk,Zdo,Zdp,Zdt,Zdu,Zdv,Zdw,Zdx,Zdy,Zd0,Zd1,Zd2,Zeb,Zee,Zep,Zeq,Zet,Zev,Zew,Zex,Zez,Ze0,Ze2,Ze5,Zfd,Zfe,Zfh,Zfi,Zfj,Zfk,Zfl,Zfn,Zfq,Zfr,Zfs,Zfz,Zf1,Zf2,Zf4,Zgd,Zgg,Zgh,Zgi,Zgr,Zgu,Zg4,Zg6,Zhb,Zhc,Zhm,Zhn,Zho,Zhs,Zht,Zhu,Zh6,Zh7,Zjq,Zjv,Zjw,Zky,Zkz,Zk0,Zk2,Zla,Zlb,Zle,Zlj,Zll,Zlz,Zmt,Zmv,Zmw,Zmx,Zmz,Zm3,Zm6,Zm9,Zna,Znb,Zne,Znf,Zng,Znh,Zns,Znt,Znu,Znv,Znw,Znx,Zny,Zn5,Zof,Zog,Zrd,Zos,Zot,Zo3,Zo4,Zo6,Zo7,Zo8,Zo9,Zpb,Zpc,Zpi,Zp9,Zqd,Zqe,Zqf,Zqg,Zqh,Zqm,Zqr,List.append_assoc,List.length_drop,eq_self,true_and,and_true,Nat.add_zero,Nat.mul_one,callable_22]
      tactic =>
      refine cl none (hi) trivial ?_
      sym =>
      simp [Zaa,Zab,Zac,Zad,Zae,Zaf,Zag,Zah,Zai,Zak,Zal,Zam,Zan,Zao,Zap,Zaq,Zav,Zaw,Zay,Zaz,Za0,Za1,Za2,Za3,Za4,Za5,Za6,Za7,Zrh,Za8,Za9,Zba,Zbb,Zbc,Zbd,Zbf,Zbg,Zbj,Zbl,Zbt,Zbu,Zb1,Zb2,Zb8,Zci,Zcn,Zc7,Zc8,Zdc,Zdd,Zde,Zdf,Zdg,Zdh,Zdi,Zdj,Zdk,Zdo,Zdp,Zdt,Zdu,Zdv,Zdw,Zdx,Zdy,Zd0,Zd1,Zd2,Zeb,Zee,Zep,Zeq,Zet,Zev,Zew,Zex,Zez,Ze0,Ze2,Ze5,Zfd,Zfe,Zfh,Zfi,Zfj,Zfk,Zfl,Zfn,Zfq,Zfr,Zfs,Zfz,Zf1,Zf2,Zf4,Zgd,Zgg,Zgh,Zgi,Zgr,Zgu,Zg4,Zg6,Zhb,Zhc,Zhm,Zhn,Zho,Zhs,Zht,Zhu,Zh6,Zh7,Zjq,Zjv,Zjw,Zky,Zkz,Zk0,Zk2,Zla,Zlb,Zle,Zlj,Zll,Zlz,Zmt,Zmv,Zmw,Zmx,Zmz,Zm3,Zm6,Zm9,Zna,Znb,Zne,Znf,Zng,Znh,Zns,Znt,Znu,Znv,Znw,Znx,Zny,Zn5,Zof,Zog,Zrd,Zos,Zot,Zo3,Zo4,Zo6,Zo7,Zo8,Zo9,Zpb,Zpc,Zpi,Zp9,Zqd,Zqe,Zqf,Zqg,Zqh,Zqm,Zqr,List.append_assoc,List.length_drop,eq_self,true_and,and_true,Nat.add_zero,Nat.mul_one,hg,hgt,h1l,h128,h255,ed,edl,eda,callable_29]
      tactic =>
      refine ⟨⟨by omega, by omega⟩, by omega, ⟨by omega, by omega⟩, by omega, ⟨by simp only [IN]; omega, Nat.le_refl _⟩, ⟨by omega, by omega⟩, by omega, ?_⟩
      refine cl none (hu) trivial ?_
      sym =>
      simp [Zaa,Zab,Zac,Zad,Zae,Zaf,Zag,Zah,Zai,Zak,Zal,Zam,Zan,Zao,Zap,Zaq,Zav,Zaw,Zay,Zaz,Za0,Za1,Za2,Za3,Za4,Za5,Za6,Za7,Zrh,Za8,Za9,Zba,Zbb,Zbc,Zbd,Zbf,Zbg,Zbj,Zbl,Zbt,Zbu,Zb1,Zb2,Zb8,Zci,Zcn,Zc7,Zc8,Zdc,Zdd,Zde,Zdf,Zdg,Zdh,Zdi,Zdj,Zdk,Zdo,Zdp,Zdt,Zdu,Zdv,Zdw,Zdx,Zdy,Zd0,Zd1,Zd2,Zeb,Zee,Zep,Zeq,Zet,Zev,Zew,Zex,Zez,Ze0,Ze2,Ze5,Zfd,Zfe,Zfh,Zfi,Zfj,Zfk,Zfl,Zfn,Zfq,Zfr,Zfs,Zfz,Zf1,Zf2,Zf4,Zgd,Zgg,Zgh,Zgi,Zgr,Zgu,Zg4,Zg6,Zhb,Zhc,Zhm,Zhn,Zho,Zhs,Zht,Zhu,Zh6,Zh7,Zjq,Zjv,Zjw,Zky,Zkz,Zk0,Zk2,Zla,Zlb,Zle,Zlj,Zll,Zlz,Zmt,Zmv,Zmw,Zmx,Zmz,Zm3,Zm6,Zm9,Zna,Znb,Zne,Znf,Zng,Znh,Zns,Znt,Znu,Znv,Znw,Znx,Zny,Zn5,Zof,Zog,Zrd,Zos,Zot,Zo3,Zo4,Zo6,Zo7,Zo8,Zo9,Zpb,Zpc,Zpi,Zp9,Zqd,Zqe,Zqf,Zqg,Zqh,Zqm,Zqr,List.append_assoc,List.length_drop,eq_self,true_and,and_true,Nat.add_zero,Nat.mul_one]
      tactic =>
      refine endA ?_
      sym =>
      simp [Zaa,Zab,Zac,Zad,Zae,Zaf,Zag,Zah,Zai,Zak,Zal,Zam,Zan,Zao,Zap,Zaq,Zav,Zaw,Zay,Zaz,Za0,Za1,Za2,Za3,Za4,Za5,Za6,Za7,Zrh,Za8,Za9,Zba,Zbb,Zbc,Zbd,Zbf,Zbg,Zbj,Zbl,Zbt,Zbu,Zb1,Zb2,Zb8,Zci,Zcn,Zc7,Zc8,Zdc,Zdd,Zde,Zdf,Zdg,Zdh,Zdi,Zdj,Zdk,Zdo,Zdp,Zdt,Zdu,Zdv,Zdw,Zdx,Zdy,Zd0,Zd1,Zd2,Zeb,Zee,Zep,Zeq,Zet,Zev,Zew,Zex,Zez,Ze0,Ze2,Ze5,Zfd,Zfe,Zfh,Zfi,Zfj,Zfk,Zfl,Zfn,Zfq,Zfr,Zfs,Zfz,Zf1,Zf2,Zf4,Zgd,Zgg,Zgh,Zgi,Zgr,Zgu,Zg4,Zg6,Zhb,Zhc,Zhm,Zhn,Zho,Zhs,Zht,Zhu,Zh6,Zh7,Zjq,Zjv,Zjw,Zky,Zkz,Zk0,Zk2,Zla,Zlb,Zle,Zlj,Zll,Zlz,Zmt,Zmv,Zmw,Zmx,Zmz,Zm3,Zm6,Zm9,Zna,Znb,Zne,Znf,Zng,Znh,Zns,Znt,Znu,Znv,Znw,Znx,Zny,Zn5,Zof,Zog,Zrd,Zos,Zot,Zo3,Zo4,Zo6,Zo7,Zo8,Zo9,Zpb,Zpc,Zpi,Zp9,Zqd,Zqe,Zqf,Zqg,Zqh,Zqm,Zqr,List.append_assoc,List.length_drop,eq_self,true_and,and_true,Nat.add_zero,Nat.mul_one]
    · rw [if_neg hz] at hu
      have hR3 : R = (0, 10) := by rw [hR2]; exact hno hz
      subst hR3
      refine con_j b18 rfl ?_
      sym =>
      simp [Zaa,Zab,Zac,Zad,Zae,Zaf,Zag,Zah,Zai,Zak,Zal,Zam,Zan,Zao,Zap,Zaq,Zav,Zaw,Zay,Zaz,Za0,Za1,Za2,Za3,Za4,Za5,Za6,Za7,Zrh,Za8,Za9,Zba,Zbb,Zbc,Zbd,Zbf,Zbg,Zbj,Zbl,Zbt,Zbu,Zb1,Zb2,Zb8,Zci,Zcn,Zc7,Zc8,Zdc,Zdd,Zde,Zdf,Zdg,Zdh,Zdi,Zdj,Zdk,Zdo,Zdp,Zdt,Zdu,Zdv,Zdw,Zdx,Zdy,Zd0,Zd1,Zd2,Zeb,Zee,Zep,Zeq,Zet,Zev,Zew,Zex,Zez,Ze0,Ze2,Ze5,Zfd,Zfe,Zfh,Zfi,Zfj,Zfk,Zfl,Zfn,Zfq,Zfr,Zfs,Zfz,Zf1,Zf2,Zf4,Zgd,Zgg,Zgh,Zgi,Zgr,Zgu,Zg4,Zg6,Zhb,Zhc,Zhm,Zhn,Zho,Zhs,Zht,Zhu,Zh6,Zh7,Zjq,Zjv,Zjw,Zky,Zkz,Zk0,Zk2,Zla,Zlb,Zle,Zlj,Zll,Zlz,Zmt,Zmv,Zmw,Zmx,Zmz,Zm3,Zm6,Zm9,Zna,Znb,Zne,Znf,Zng,Znh,Zns,Znt,Znu,Znv,Znw,Znx,Zny,Zn5,Zof,Zog,Zrd,Zos,Zot,Zo3,Zo4,Zo6,Zo7,Zo8,Zo9,Zpb,Zpc,Zpi,Zp9,Zqd,Zqe,Zqf,Zqg,Zqh,Zqm,Zqr,List.append_assoc,List.length_drop,eq_self,true_and,and_true,Nat.add_zero,Nat.mul_one,callable_22]
      tactic =>
      refine cl none (hi) trivial ?_
      sym =>
      simp [Zaa,Zab,Zac,Zad,Zae,Zaf,Zag,Zah,Zai,Zak,Zal,Zam,Zan,Zao,Zap,Zaq,Zav,Zaw,Zay,Zaz,Za0,Za1,Za2,Za3,Za4,Za5,Za6,Za7,Zrh,Za8,Za9,Zba,Zbb,Zbc,Zbd,Zbf,Zbg,Zbj,Zbl,Zbt,Zbu,Zb1,Zb2,Zb8,Zci,Zcn,Zc7,Zc8,Zdc,Zdd,Zde,Zdf,Zdg,Zdh,Zdi,Zdj,Zdk,Zdo,Zdp,Zdt,Zdu,Zdv,Zdw,Zdx,Zdy,Zd0,Zd1,Zd2,Zeb,Zee,Zep,Zeq,Zet,Zev,Zew,Zex,Zez,Ze0,Ze2,Ze5,Zfd,Zfe,Zfh,Zfi,Zfj,Zfk,Zfl,Zfn,Zfq,Zfr,Zfs,Zfz,Zf1,Zf2,Zf4,Zgd,Zgg,Zgh,Zgi,Zgr,Zgu,Zg4,Zg6,Zhb,Zhc,Zhm,Zhn,Zho,Zhs,Zht,Zhu,Zh6,Zh7,Zjq,Zjv,Zjw,Zky,Zkz,Zk0,Zk2,Zla,Zlb,Zle,Zlj,Zll,Zlz,Zmt,Zmv,Zmw,Zmx,Zmz,Zm3,Zm6,Zm9,Zna,Znb,Zne,Znf,Zng,Znh,Zns,Znt,Znu,Znv,Znw,Znx,Zny,Zn5,Zof,Zog,Zrd,Zos,Zot,Zo3,Zo4,Zo6,Zo7,Zo8,Zo9,Zpb,Zpc,Zpi,Zp9,Zqd,Zqe,Zqf,Zqg,Zqh,Zqm,Zqr,List.append_assoc,List.length_drop,eq_self,true_and,and_true,Nat.add_zero,Nat.mul_one,hg,hgt,h1l,h128,h255,ed,edl,eda,callable_29]
      tactic =>
      refine ⟨⟨by omega, by omega⟩, by omega, ⟨by omega, by omega⟩, by omega, ⟨by simp only [IN]; omega, Nat.le_refl _⟩, ⟨by omega, by omega⟩, by omega, ?_⟩
      refine cl none (hu) trivial ?_
      sym =>
      simp [Zaa,Zab,Zac,Zad,Zae,Zaf,Zag,Zah,Zai,Zak,Zal,Zam,Zan,Zao,Zap,Zaq,Zav,Zaw,Zay,Zaz,Za0,Za1,Za2,Za3,Za4,Za5,Za6,Za7,Zrh,Za8,Za9,Zba,Zbb,Zbc,Zbd,Zbf,Zbg,Zbj,Zbl,Zbt,Zbu,Zb1,Zb2,Zb8,Zci,Zcn,Zc7,Zc8,Zdc,Zdd,Zde,Zdf,Zdg,Zdh,Zdi,Zdj,Zdk,Zdo,Zdp,Zdt,Zdu,Zdv,Zdw,Zdx,Zdy,Zd0,Zd1,Zd2,Zeb,Zee,Zep,Zeq,Zet,Zev,Zew,Zex,Zez,Ze0,Ze2,Ze5,Zfd,Zfe,Zfh,Zfi,Zfj,Zfk,Zfl,Zfn,Zfq,Zfr,Zfs,Zfz,Zf1,Zf2,Zf4,Zgd,Zgg,Zgh,Zgi,Zgr,Zgu,Zg4,Zg6,Zhb,Zhc,Zhm,Zhn,Zho,Zhs,Zht,Zhu,Zh6,Zh7,Zjq,Zjv,Zjw,Zky,Zkz,Zk0,Zk2,Zla,Zlb,Zle,Zlj,Zll,Zlz,Zmt,Zmv,Zmw,Zmx,Zmz,Zm3,Zm6,Zm9,Zna,Znb,Zne,Znf,Zng,Znh,Zns,Znt,Znu,Znv,Znw,Znx,Zny,Zn5,Zof,Zog,Zrd,Zos,Zot,Zo3,Zo4,Zo6,Zo7,Zo8,Zo9,Zpb,Zpc,Zpi,Zp9,Zqd,Zqe,Zqf,Zqg,Zqh,Zqm,Zqr,List.append_assoc,List.length_drop,eq_self,true_and,and_true,Nat.add_zero,Nat.mul_one]
      tactic =>
      refine endA ?_
      sym =>
      simp [Zaa,Zab,Zac,Zad,Zae,Zaf,Zag,Zah,Zai,Zak,Zal,Zam,Zan,Zao,Zap,Zaq,Zav,Zaw,Zay,Zaz,Za0,Za1,Za2,Za3,Za4,Za5,Za6,Za7,Zrh,Za8,Za9,Zba,Zbb,Zbc,Zbd,Zbf,Zbg,Zbj,Zbl,Zbt,Zbu,Zb1,Zb2,Zb8,Zci,Zcn,Zc7,Zc8,Zdc,Zdd,Zde,Zdf,Zdg,Zdh,Zdi,Zdj,Zdk,Zdo,Zdp,Zdt,Zdu,Zdv,Zdw,Zdx,Zdy,Zd0,Zd1,Zd2,Zeb,Zee,Zep,Zeq,Zet,Zev,Zew,Zex,Zez,Ze0,Ze2,Ze5,Zfd,Zfe,Zfh,Zfi,Zfj,Zfk,Zfl,Zfn,Zfq,Zfr,Zfs,Zfz,Zf1,Zf2,Zf4,Zgd,Zgg,Zgh,Zgi,Zgr,Zgu,Zg4,Zg6,Zhb,Zhc,Zhm,Zhn,Zho,Zhs,Zht,Zhu,Zh6,Zh7,Zjq,Zjv,Zjw,Zky,Zkz,Zk0,Zk2,Zla,Zlb,Zle,Zlj,Zll,Zlz,Zmt,Zmv,Zmw,Zmx,Zmz,Zm3,Zm6,Zm9,Zna,Znb,Zne,Znf,Zng,Znh,Zns,Znt,Znu,Znv,Znw,Znx,Zny,Zn5,Zof,Zog,Zrd,Zos,Zot,Zo3,Zo4,Zo6,Zo7,Zo8,Zo9,Zpb,Zpc,Zpi,Zp9,Zqd,Zqe,Zqf,Zqg,Zqh,Zqm,Zqr,List.append_assoc,List.length_drop,eq_self,true_and,and_true,Nat.add_zero,Nat.mul_one]
  rw [if_neg h255] at hR
  have hrl := drop_le b (· == 32)
  obtain ⟨r, hr⟩ : ∃ r, r = b.dropWhile (· == 32) := ⟨_, rfl⟩
  rw [← hr] at hrl hR
  have hdl := digF_le r
  have hdd := digF_dig r
  obtain ⟨Z, hZ⟩ : ∃ Z, Z = numG 0 (digF r) := ⟨_, rfl⟩
  rw [numF_is, ← hZ] at hR
  refine con_j b18 rfl ?_
  sym =>
  simp [Zaa,Zab,Zac,Zad,Zae,Zaf,Zag,Zah,Zai,Zak,Zal,Zam,Zan,Zao,Zap,Zaq,Zav,Zaw,Zay,Zaz,Za0,Za1,Za2,Za3,Za4,Za5,Za6,Za7,Zrh,Za8,Za9,Zba,Zbb,Zbc,Zbd,Zbf,Zbg,Zbj,Zbl,Zbt,Zbu,Zb1,Zb2,Zb8,Zci,Zcn,Zc7,Zc8,Zdc,Zdd,Zde,Zdf,Zdg,Zdh,Zdi,Zdj,Zdk,Zdo,Zdp,Zdt,Zdu,Zdv,Zdw,Zdx,Zdy,Zd0,Zd1,Zd2,Zeb,Zee,Zep,Zeq,Zet,Zev,Zew,Zex,Zez,Ze0,Ze2,Ze5,Zfd,Zfe,Zfh,Zfi,Zfj,Zfk,Zfl,Zfn,Zfq,Zfr,Zfs,Zfz,Zf1,Zf2,Zf4,Zgd,Zgg,Zgh,Zgi,Zgr,Zgu,Zg4,Zg6,Zhb,Zhc,Zhm,Zhn,Zho,Zhs,Zht,Zhu,Zh6,Zh7,Zjq,Zjv,Zjw,Zky,Zkz,Zk0,Zk2,Zla,Zlb,Zle,Zlj,Zll,Zlz,Zmt,Zmv,Zmw,Zmx,Zmz,Zm3,Zm6,Zm9,Zna,Znb,Zne,Znf,Zng,Znh,Zns,Znt,Znu,Znv,Znw,Znx,Zny,Zn5,Zof,Zog,Zrd,Zos,Zot,Zo3,Zo4,Zo6,Zo7,Zo8,Zo9,Zpb,Zpc,Zpi,Zp9,Zqd,Zqe,Zqf,Zqg,Zqh,Zqm,Zqr,List.append_assoc,List.length_drop,eq_self,true_and,and_true,Nat.add_zero,Nat.mul_one,callable_22]
  tactic =>
  refine cl none (hi) trivial ?_
  sym =>
  simp [Zaa,Zab,Zac,Zad,Zae,Zaf,Zag,Zah,Zai,Zak,Zal,Zam,Zan,Zao,Zap,Zaq,Zav,Zaw,Zay,Zaz,Za0,Za1,Za2,Za3,Za4,Za5,Za6,Za7,Zrh,Za8,Za9,Zba,Zbb,Zbc,Zbd,Zbf,Zbg,Zbj,Zbl,Zbt,Zbu,Zb1,Zb2,Zb8,Zci,Zcn,Zc7,Zc8,Zdc,Zdd,Zde,Zdf,Zdg,Zdh,Zdi,Zdj,Zdk,Zdo,Zdp,Zdt,Zdu,Zdv,Zdw,Zdx,Zdy,Zd0,Zd1,Zd2,Zeb,Zee,Zep,Zeq,Zet,Zev,Zew,Zex,Zez,Ze0,Ze2,Ze5,Zfd,Zfe,Zfh,Zfi,Zfj,Zfk,Zfl,Zfn,Zfq,Zfr,Zfs,Zfz,Zf1,Zf2,Zf4,Zgd,Zgg,Zgh,Zgi,Zgr,Zgu,Zg4,Zg6,Zhb,Zhc,Zhm,Zhn,Zho,Zhs,Zht,Zhu,Zh6,Zh7,Zjq,Zjv,Zjw,Zky,Zkz,Zk0,Zk2,Zla,Zlb,Zle,Zlj,Zll,Zlz,Zmt,Zmv,Zmw,Zmx,Zmz,Zm3,Zm6,Zm9,Zna,Znb,Zne,Znf,Zng,Znh,Zns,Znt,Znu,Znv,Znw,Znx,Zny,Zn5,Zof,Zog,Zrd,Zos,Zot,Zo3,Zo4,Zo6,Zo7,Zo8,Zo9,Zpb,Zpc,Zpi,Zp9,Zqd,Zqe,Zqf,Zqg,Zqh,Zqm,Zqr,List.append_assoc,List.length_drop,eq_self,true_and,and_true,Nat.add_zero,Nat.mul_one,hg,hgt,h1l,h128,h255]
  tactic =>
  refine ⟨⟨by omega, by omega⟩, by omega, ⟨by omega, by omega⟩, by omega, ?_⟩
  refine lpA (i18 b r) b.length [] _ ⟨0, by omega, hr.symm, rfl⟩ (wkA ?_) ?_
  · sym =>
    simp [Zaa,Zab,Zac,Zad,Zae,Zaf,Zag,Zah,Zai,Zak,Zal,Zam,Zan,Zao,Zap,Zaq,Zav,Zaw,Zay,Zaz,Za0,Za1,Za2,Za3,Za4,Za5,Za6,Za7,Zrh,Za8,Za9,Zba,Zbb,Zbc,Zbd,Zbf,Zbg,Zbj,Zbl,Zbt,Zbu,Zb1,Zb2,Zb8,Zci,Zcn,Zc7,Zc8,Zdc,Zdd,Zde,Zdf,Zdg,Zdh,Zdi,Zdj,Zdk,Zdo,Zdp,Zdt,Zdu,Zdv,Zdw,Zdx,Zdy,Zd0,Zd1,Zd2,Zeb,Zee,Zep,Zeq,Zet,Zev,Zew,Zex,Zez,Ze0,Ze2,Ze5,Zfd,Zfe,Zfh,Zfi,Zfj,Zfk,Zfl,Zfn,Zfq,Zfr,Zfs,Zfz,Zf1,Zf2,Zf4,Zgd,Zgg,Zgh,Zgi,Zgr,Zgu,Zg4,Zg6,Zhb,Zhc,Zhm,Zhn,Zho,Zhs,Zht,Zhu,Zh6,Zh7,Zjq,Zjv,Zjw,Zky,Zkz,Zk0,Zk2,Zla,Zlb,Zle,Zlj,Zll,Zlz,Zmt,Zmv,Zmw,Zmx,Zmz,Zm3,Zm6,Zm9,Zna,Znb,Zne,Znf,Zng,Znh,Zns,Znt,Znu,Znv,Znw,Znx,Zny,Zn5,Zof,Zog,Zrd,Zos,Zot,Zo3,Zo4,Zo6,Zo7,Zo8,Zo9,Zpb,Zpc,Zpi,Zp9,Zqd,Zqe,Zqf,Zqg,Zqh,Zqm,Zqr,List.append_assoc,List.length_drop,eq_self,true_and,and_true,Nat.add_zero,Nat.mul_one]
  rintro k s ⟨i, hki, hu, rfl⟩
  by_cases h : i < b.length
  · have hw := w64s i (by omega)
    have hge := cB_get b i h
    have hds := drop_stepD b i h
    obtain ⟨c, hc0⟩ : ∃ c, c = b.getD i 0 := ⟨_, rfl⟩
    rw [← hc0] at hge hds
    rw [hds] at hu
    by_cases hc : c = 32
    · have hu2 : (b.drop (i + 1)).dropWhile (· == 32) = r := by rw [← hu, List.dropWhile_cons_of_pos (by rw [hc]; rfl)]
      sym =>
      simp [Zaa,Zab,Zac,Zad,Zae,Zaf,Zag,Zah,Zai,Zak,Zal,Zam,Zan,Zao,Zap,Zaq,Zav,Zaw,Zay,Zaz,Za0,Za1,Za2,Za3,Za4,Za5,Za6,Za7,Zrh,Za8,Za9,Zba,Zbb,Zbc,Zbd,Zbf,Zbg,Zbj,Zbl,Zbt,Zbu,Zb1,Zb2,Zb8,Zci,Zcn,Zc7,Zc8,Zdc,Zdd,Zde,Zdf,Zdg,Zdh,Zdi,Zdj,Zdk,Zdo,Zdp,Zdt,Zdu,Zdv,Zdw,Zdx,Zdy,Zd0,Zd1,Zd2,Zeb,Zee,Zep,Zeq,Zet,Zev,Zew,Zex,Zez,Ze0,Ze2,Ze5,Zfd,Zfe,Zfh,Zfi,Zfj,Zfk,Zfl,Zfn,Zfq,Zfr,Zfs,Zfz,Zf1,Zf2,Zf4,Zgd,Zgg,Zgh,Zgi,Zgr,Zgu,Zg4,Zg6,Zhb,Zhc,Zhm,Zhn,Zho,Zhs,Zht,Zhu,Zh6,Zh7,Zjq,Zjv,Zjw,Zky,Zkz,Zk0,Zk2,Zla,Zlb,Zle,Zlj,Zll,Zlz,Zmt,Zmv,Zmw,Zmx,Zmz,Zm3,Zm6,Zm9,Zna,Znb,Zne,Znf,Zng,Znh,Zns,Znt,Znu,Znv,Znw,Znx,Zny,Zn5,Zof,Zog,Zrd,Zos,Zot,Zo3,Zo4,Zo6,Zo7,Zo8,Zo9,Zpb,Zpc,Zpi,Zp9,Zqd,Zqe,Zqf,Zqg,Zqh,Zqm,Zqr,List.append_assoc,List.length_drop,eq_self,true_and,and_true,Nat.add_zero,Nat.mul_one,h,hw,hge,hc]
      tactic =>
      refine ⟨by omega, by omega, ?_⟩
      unfold NextL; refine ⟨(k - 1), [], _, by omega, ⟨i + 1, by omega, hu2, rfl⟩, wkA ?_⟩
      sym =>
      simp [Zaa,Zab,Zac,Zad,Zae,Zaf,Zag,Zah,Zai,Zak,Zal,Zam,Zan,Zao,Zap,Zaq,Zav,Zaw,Zay,Zaz,Za0,Za1,Za2,Za3,Za4,Za5,Za6,Za7,Zrh,Za8,Za9,Zba,Zbb,Zbc,Zbd,Zbf,Zbg,Zbj,Zbl,Zbt,Zbu,Zb1,Zb2,Zb8,Zci,Zcn,Zc7,Zc8,Zdc,Zdd,Zde,Zdf,Zdg,Zdh,Zdi,Zdj,Zdk,Zdo,Zdp,Zdt,Zdu,Zdv,Zdw,Zdx,Zdy,Zd0,Zd1,Zd2,Zeb,Zee,Zep,Zeq,Zet,Zev,Zew,Zex,Zez,Ze0,Ze2,Ze5,Zfd,Zfe,Zfh,Zfi,Zfj,Zfk,Zfl,Zfn,Zfq,Zfr,Zfs,Zfz,Zf1,Zf2,Zf4,Zgd,Zgg,Zgh,Zgi,Zgr,Zgu,Zg4,Zg6,Zhb,Zhc,Zhm,Zhn,Zho,Zhs,Zht,Zhu,Zh6,Zh7,Zjq,Zjv,Zjw,Zky,Zkz,Zk0,Zk2,Zla,Zlb,Zle,Zlj,Zll,Zlz,Zmt,Zmv,Zmw,Zmx,Zmz,Zm3,Zm6,Zm9,Zna,Znb,Zne,Znf,Zng,Znh,Zns,Znt,Znu,Znv,Znw,Znx,Zny,Zn5,Zof,Zog,Zrd,Zos,Zot,Zo3,Zo4,Zo6,Zo7,Zo8,Zo9,Zpb,Zpc,Zpi,Zp9,Zqd,Zqe,Zqf,Zqg,Zqh,Zqm,Zqr,List.append_assoc,List.length_drop,eq_self,true_and,and_true,Nat.add_zero,Nat.mul_one]
    · have hcc : ¬ (c == 32) = true := by rw [beq_iff_eq]; exact hc
      have hu2 : b.drop i = r := by rw [hds, ← hu, List.dropWhile_cons_of_neg (p := (· == 32)) hcc]
      sym =>
      simp [Zaa,Zab,Zac,Zad,Zae,Zaf,Zag,Zah,Zai,Zak,Zal,Zam,Zan,Zao,Zap,Zaq,Zav,Zaw,Zay,Zaz,Za0,Za1,Za2,Za3,Za4,Za5,Za6,Za7,Zrh,Za8,Za9,Zba,Zbb,Zbc,Zbd,Zbf,Zbg,Zbj,Zbl,Zbt,Zbu,Zb1,Zb2,Zb8,Zci,Zcn,Zc7,Zc8,Zdc,Zdd,Zde,Zdf,Zdg,Zdh,Zdi,Zdj,Zdk,Zdo,Zdp,Zdt,Zdu,Zdv,Zdw,Zdx,Zdy,Zd0,Zd1,Zd2,Zeb,Zee,Zep,Zeq,Zet,Zev,Zew,Zex,Zez,Ze0,Ze2,Ze5,Zfd,Zfe,Zfh,Zfi,Zfj,Zfk,Zfl,Zfn,Zfq,Zfr,Zfs,Zfz,Zf1,Zf2,Zf4,Zgd,Zgg,Zgh,Zgi,Zgr,Zgu,Zg4,Zg6,Zhb,Zhc,Zhm,Zhn,Zho,Zhs,Zht,Zhu,Zh6,Zh7,Zjq,Zjv,Zjw,Zky,Zkz,Zk0,Zk2,Zla,Zlb,Zle,Zlj,Zll,Zlz,Zmt,Zmv,Zmw,Zmx,Zmz,Zm3,Zm6,Zm9,Zna,Znb,Zne,Znf,Zng,Znh,Zns,Znt,Znu,Znv,Znw,Znx,Zny,Zn5,Zof,Zog,Zrd,Zos,Zot,Zo3,Zo4,Zo6,Zo7,Zo8,Zo9,Zpb,Zpc,Zpi,Zp9,Zqd,Zqe,Zqf,Zqg,Zqh,Zqm,Zqr,List.append_assoc,List.length_drop,eq_self,true_and,and_true,Nat.add_zero,Nat.mul_one,h,hge,hc]
      tactic =>
      refine ⟨by omega, by omega, ?_⟩
      have hi0 : i ≤ b.length := by omega
      have hrl2 : r.length = b.length - i := by rw [← hu2, List.length_drop]
      refine lpA (j18 b r i Z) r.length [] _ ⟨0, 0, by omega, rfl, hZ.symm, by omega, by decide, rfl⟩ (wkA ?_) ?_
      · sym =>
        simp [Zaa,Zab,Zac,Zad,Zae,Zaf,Zag,Zah,Zai,Zak,Zal,Zam,Zan,Zao,Zap,Zaq,Zav,Zaw,Zay,Zaz,Za0,Za1,Za2,Za3,Za4,Za5,Za6,Za7,Zrh,Za8,Za9,Zba,Zbb,Zbc,Zbd,Zbf,Zbg,Zbj,Zbl,Zbt,Zbu,Zb1,Zb2,Zb8,Zci,Zcn,Zc7,Zc8,Zdc,Zdd,Zde,Zdf,Zdg,Zdh,Zdi,Zdj,Zdk,Zdo,Zdp,Zdt,Zdu,Zdv,Zdw,Zdx,Zdy,Zd0,Zd1,Zd2,Zeb,Zee,Zep,Zeq,Zet,Zev,Zew,Zex,Zez,Ze0,Ze2,Ze5,Zfd,Zfe,Zfh,Zfi,Zfj,Zfk,Zfl,Zfn,Zfq,Zfr,Zfs,Zfz,Zf1,Zf2,Zf4,Zgd,Zgg,Zgh,Zgi,Zgr,Zgu,Zg4,Zg6,Zhb,Zhc,Zhm,Zhn,Zho,Zhs,Zht,Zhu,Zh6,Zh7,Zjq,Zjv,Zjw,Zky,Zkz,Zk0,Zk2,Zla,Zlb,Zle,Zlj,Zll,Zlz,Zmt,Zmv,Zmw,Zmx,Zmz,Zm3,Zm6,Zm9,Zna,Znb,Zne,Znf,Zng,Znh,Zns,Znt,Znu,Znv,Znw,Znx,Zny,Zn5,Zof,Zog,Zrd,Zos,Zot,Zo3,Zo4,Zo6,Zo7,Zo8,Zo9,Zpb,Zpc,Zpi,Zp9,Zqd,Zqe,Zqf,Zqg,Zqh,Zqm,Zqr,List.append_assoc,List.length_drop,eq_self,true_and,and_true,Nat.add_zero,Nat.mul_one]
      rintro k s ⟨j, n, hkj, hu, hv, hn0, hn8, rfl⟩
      by_cases hj : j < r.length
      · have hw := w64s (i + j) (by omega)
        have hw2 := w64s j (by omega)
        have hlt : i + j < b.length := by omega
        have hge := cB_get b (i + j) hlt
        have hds := drop_stepD r j hj
        have hrg : r.getD j 0 = b.getD (i + j) 0 := by rw [← hu2, getD_drop]
        have hst := take_stepD r j hj
        rw [hrg] at hds hst
        obtain ⟨c, hc0⟩ : ∃ c, c = b.getD (i + j) 0 := ⟨_, rfl⟩
        rw [← hc0] at hge hds hst
        rw [hds] at hu hv
        have hp := p8 j (by omega)
        have hs8 : (8 : Int) ^ (j + 1) = 8 ^ j * 8 := Int.pow_succ ..
        obtain ⟨X, hX⟩ : ∃ X : Int, X = 8 ^ j := ⟨_, rfl⟩
        rw [← hX] at hp hs8 hn8
        by_cases h48 : 48 ≤ c ∧ c ≤ 55
        · have g1 : c ≥ 48 := h48.1
          have g2 := h48.2
          have ho : octd c = true := by unfold octd; rw [decide_eq_true h48.1, decide_eq_true h48.2]; rfl
          have ht : digF (c :: r.drop (j + 1)) = c :: digF (r.drop (j + 1)) := List.takeWhile_cons_of_pos (p := octd) ho
          rw [ht] at hu hv
          have hu4 : r.take (j + 1) ++ digF (r.drop (j + 1)) = digF r := by rw [← hu, hst, List.append_assoc]; rfl
          have q1 : IntKind.i64.wrap (IntKind.u8.wrap (c - 48)) = c - 48 := by rw [w8u, w64 _ (by omega)]; omega
          have q2 : IntKind.i64.wrap (8 * n) = 8 * n := w64 _ (by omega)
          have q3 : IntKind.i64.wrap (8 * n + (c - 48)) = 8 * n + (c - 48) := w64 _ (by omega)
          sym =>
          simp [Zaa,Zab,Zac,Zad,Zae,Zaf,Zag,Zah,Zai,Zak,Zal,Zam,Zan,Zao,Zap,Zaq,Zav,Zaw,Zay,Zaz,Za0,Za1,Za2,Za3,Za4,Za5,Za6,Za7,Zrh,Za8,Za9,Zba,Zbb,Zbc,Zbd,Zbf,Zbg,Zbj,Zbl,Zbt,Zbu,Zb1,Zb2,Zb8,Zci,Zcn,Zc7,Zc8,Zdc,Zdd,Zde,Zdf,Zdg,Zdh,Zdi,Zdj,Zdk,Zdo,Zdp,Zdt,Zdu,Zdv,Zdw,Zdx,Zdy,Zd0,Zd1,Zd2,Zeb,Zee,Zep,Zeq,Zet,Zev,Zew,Zex,Zez,Ze0,Ze2,Ze5,Zfd,Zfe,Zfh,Zfi,Zfj,Zfk,Zfl,Zfn,Zfq,Zfr,Zfs,Zfz,Zf1,Zf2,Zf4,Zgd,Zgg,Zgh,Zgi,Zgr,Zgu,Zg4,Zg6,Zhb,Zhc,Zhm,Zhn,Zho,Zhs,Zht,Zhu,Zh6,Zh7,Zjq,Zjv,Zjw,Zky,Zkz,Zk0,Zk2,Zla,Zlb,Zle,Zlj,Zll,Zlz,Zmt,Zmv,Zmw,Zmx,Zmz,Zm3,Zm6,Zm9,Zna,Znb,Zne,Znf,Zng,Znh,Zns,Znt,Znu,Znv,Znw,Znx,Zny,Zn5,Zof,Zog,Zrd,Zos,Zot,Zo3,Zo4,Zo6,Zo7,Zo8,Zo9,Zpb,Zpc,Zpi,Zp9,Zqd,Zqe,Zqf,Zqg,Zqh,Zqm,Zqr,List.append_assoc,List.length_drop,eq_self,true_and,and_true,Nat.add_zero,Nat.mul_one,hlt,hw,hw2,hge,g1,g2,q1,q2,q3]
          tactic =>
          refine ⟨by omega, by omega, by omega, by omega, by omega, by omega, ?_⟩
          unfold NextL; refine ⟨(k - 1), [], _, by omega, ⟨j + 1, 8 * n + (c - 48), by omega, hu4, hv, by omega, by rw [hs8]; omega, rfl⟩, wkA ?_⟩
          sym =>
          simp [Zaa,Zab,Zac,Zad,Zae,Zaf,Zag,Zah,Zai,Zak,Zal,Zam,Zan,Zao,Zap,Zaq,Zav,Zaw,Zay,Zaz,Za0,Za1,Za2,Za3,Za4,Za5,Za6,Za7,Zrh,Za8,Za9,Zba,Zbb,Zbc,Zbd,Zbf,Zbg,Zbj,Zbl,Zbt,Zbu,Zb1,Zb2,Zb8,Zci,Zcn,Zc7,Zc8,Zdc,Zdd,Zde,Zdf,Zdg,Zdh,Zdi,Zdj,Zdk,Zdo,Zdp,Zdt,Zdu,Zdv,Zdw,Zdx,Zdy,Zd0,Zd1,Zd2,Zeb,Zee,Zep,Zeq,Zet,Zev,Zew,Zex,Zez,Ze0,Ze2,Ze5,Zfd,Zfe,Zfh,Zfi,Zfj,Zfk,Zfl,Zfn,Zfq,Zfr,Zfs,Zfz,Zf1,Zf2,Zf4,Zgd,Zgg,Zgh,Zgi,Zgr,Zgu,Zg4,Zg6,Zhb,Zhc,Zhm,Zhn,Zho,Zhs,Zht,Zhu,Zh6,Zh7,Zjq,Zjv,Zjw,Zky,Zkz,Zk0,Zk2,Zla,Zlb,Zle,Zlj,Zll,Zlz,Zmt,Zmv,Zmw,Zmx,Zmz,Zm3,Zm6,Zm9,Zna,Znb,Zne,Znf,Zng,Znh,Zns,Znt,Znu,Znv,Znw,Znx,Zny,Zn5,Zof,Zog,Zrd,Zos,Zot,Zo3,Zo4,Zo6,Zo7,Zo8,Zo9,Zpb,Zpc,Zpi,Zp9,Zqd,Zqe,Zqf,Zqg,Zqh,Zqm,Zqr,List.append_assoc,List.length_drop,eq_self,true_and,and_true,Nat.add_zero,Nat.mul_one]
          tactic =>
          omega
        · have ho : ¬ octd c = true := by
            intro ho
            unfold octd at ho
            rw [Bool.and_eq_true] at ho
            exact h48 ⟨of_decide_eq_true ho.1, of_decide_eq_true ho.2⟩
          have ht : digF (c :: r.drop (j + 1)) = [] := List.takeWhile_cons_of_neg (p := octd) ho
          rw [ht] at hu hv
          have hE : digF r = r.take j := by rw [← hu, List.append_nil]
          have hZn : n = Z := hv
          by_cases h48a : 48 ≤ c
          · have g1 : c ≥ 48 := h48a
            have g2 : ¬ c ≤ 55 := fun e => h48 ⟨h48a, e⟩
            sym =>
            simp [Zaa,Zab,Zac,Zad,Zae,Zaf,Zag,Zah,Zai,Zak,Zal,Zam,Zan,Zao,Zap,Zaq,Zav,Zaw,Zay,Zaz,Za0,Za1,Za2,Za3,Za4,Za5,Za6,Za7,Zrh,Za8,Za9,Zba,Zbb,Zbc,Zbd,Zbf,Zbg,Zbj,Zbl,Zbt,Zbu,Zb1,Zb2,Zb8,Zci,Zcn,Zc7,Zc8,Zdc,Zdd,Zde,Zdf,Zdg,Zdh,Zdi,Zdj,Zdk,Zdo,Zdp,Zdt,Zdu,Zdv,Zdw,Zdx,Zdy,Zd0,Zd1,Zd2,Zeb,Zee,Zep,Zeq,Zet,Zev,Zew,Zex,Zez,Ze0,Ze2,Ze5,Zfd,Zfe,Zfh,Zfi,Zfj,Zfk,Zfl,Zfn,Zfq,Zfr,Zfs,Zfz,Zf1,Zf2,Zf4,Zgd,Zgg,Zgh,Zgi,Zgr,Zgu,Zg4,Zg6,Zhb,Zhc,Zhm,Zhn,Zho,Zhs,Zht,Zhu,Zh6,Zh7,Zjq,Zjv,Zjw,Zky,Zkz,Zk0,Zk2,Zla,Zlb,Zle,Zlj,Zll,Zlz,Zmt,Zmv,Zmw,Zmx,Zmz,Zm3,Zm6,Zm9,Zna,Znb,Zne,Znf,Zng,Znh,Zns,Znt,Znu,Znv,Znw,Znx,Zny,Zn5,Zof,Zog,Zrd,Zos,Zot,Zo3,Zo4,Zo6,Zo7,Zo8,Zo9,Zpb,Zpc,Zpi,Zp9,Zqd,Zqe,Zqf,Zqg,Zqh,Zqm,Zqr,List.append_assoc,List.length_drop,eq_self,true_and,and_true,Nat.add_zero,Nat.mul_one,hlt,hge,g1,g2]
            tactic =>
            refine ⟨by omega, by omega, by omega, by omega, ?_⟩
            have hjl : (digF r).length = j := by rw [hE, List.length_take]; omega
            have htd : b.drop (i + j) = r.drop j := by rw [← hu2, List.drop_drop]
            rw [hE, List.length_take, Nat.min_eq_left (show j ≤ r.length by omega)] at hR
            subst hZn
            refine lpA (k18 b (r.drop j) n j) (b.length - (i + j)) [] _ ⟨i + j, by omega, by rw [htd], rfl⟩ (wkA ?_) ?_
            · sym =>
              simp [Zaa,Zab,Zac,Zad,Zae,Zaf,Zag,Zah,Zai,Zak,Zal,Zam,Zan,Zao,Zap,Zaq,Zav,Zaw,Zay,Zaz,Za0,Za1,Za2,Za3,Za4,Za5,Za6,Za7,Zrh,Za8,Za9,Zba,Zbb,Zbc,Zbd,Zbf,Zbg,Zbj,Zbl,Zbt,Zbu,Zb1,Zb2,Zb8,Zci,Zcn,Zc7,Zc8,Zdc,Zdd,Zde,Zdf,Zdg,Zdh,Zdi,Zdj,Zdk,Zdo,Zdp,Zdt,Zdu,Zdv,Zdw,Zdx,Zdy,Zd0,Zd1,Zd2,Zeb,Zee,Zep,Zeq,Zet,Zev,Zew,Zex,Zez,Ze0,Ze2,Ze5,Zfd,Zfe,Zfh,Zfi,Zfj,Zfk,Zfl,Zfn,Zfq,Zfr,Zfs,Zfz,Zf1,Zf2,Zf4,Zgd,Zgg,Zgh,Zgi,Zgr,Zgu,Zg4,Zg6,Zhb,Zhc,Zhm,Zhn,Zho,Zhs,Zht,Zhu,Zh6,Zh7,Zjq,Zjv,Zjw,Zky,Zkz,Zk0,Zk2,Zla,Zlb,Zle,Zlj,Zll,Zlz,Zmt,Zmv,Zmw,Zmx,Zmz,Zm3,Zm6,Zm9,Zna,Znb,Zne,Znf,Zng,Znh,Zns,Znt,Znu,Znv,Znw,Znx,Zny,Zn5,Zof,Zog,Zrd,Zos,Zot,Zo3,Zo4,Zo6,Zo7,Zo8,Zo9,Zpb,Zpc,Zpi,Zp9,Zqd,Zqe,Zqf,Zqg,Zqh,Zqm,Zqr,List.append_assoc,List.length_drop,eq_self,true_and,and_true,Nat.add_zero,Nat.mul_one]
            rintro k s ⟨i2, hk2, hu3, rfl⟩
            by_cases h2 : i2 < b.length
            · have hw := w64s i2 (by omega)
              have hge := cB_get b i2 h2
              have hds := drop_stepD b i2 h2
              obtain ⟨c, hc0⟩ : ∃ c, c = b.getD i2 0 := ⟨_, rfl⟩
              rw [← hc0] at hge hds
              rw [hds] at hu3
              by_cases hc : c = 0
              · have hbk : blk c = true := by rw [hc]; rfl
                have hu4 : (b.drop (i2 + 1)).dropWhile blk = (r.drop j).dropWhile blk := by rw [← hu3, List.dropWhile_cons_of_pos hbk]
                sym =>
                simp [Zaa,Zab,Zac,Zad,Zae,Zaf,Zag,Zah,Zai,Zak,Zal,Zam,Zan,Zao,Zap,Zaq,Zav,Zaw,Zay,Zaz,Za0,Za1,Za2,Za3,Za4,Za5,Za6,Za7,Zrh,Za8,Za9,Zba,Zbb,Zbc,Zbd,Zbf,Zbg,Zbj,Zbl,Zbt,Zbu,Zb1,Zb2,Zb8,Zci,Zcn,Zc7,Zc8,Zdc,Zdd,Zde,Zdf,Zdg,Zdh,Zdi,Zdj,Zdk,Zdo,Zdp,Zdt,Zdu,Zdv,Zdw,Zdx,Zdy,Zd0,Zd1,Zd2,Zeb,Zee,Zep,Zeq,Zet,Zev,Zew,Zex,Zez,Ze0,Ze2,Ze5,Zfd,Zfe,Zfh,Zfi,Zfj,Zfk,Zfl,Zfn,Zfq,Zfr,Zfs,Zfz,Zf1,Zf2,Zf4,Zgd,Zgg,Zgh,Zgi,Zgr,Zgu,Zg4,Zg6,Zhb,Zhc,Zhm,Zhn,Zho,Zhs,Zht,Zhu,Zh6,Zh7,Zjq,Zjv,Zjw,Zky,Zkz,Zk0,Zk2,Zla,Zlb,Zle,Zlj,Zll,Zlz,Zmt,Zmv,Zmw,Zmx,Zmz,Zm3,Zm6,Zm9,Zna,Znb,Zne,Znf,Zng,Znh,Zns,Znt,Znu,Znv,Znw,Znx,Zny,Zn5,Zof,Zog,Zrd,Zos,Zot,Zo3,Zo4,Zo6,Zo7,Zo8,Zo9,Zpb,Zpc,Zpi,Zp9,Zqd,Zqe,Zqf,Zqg,Zqh,Zqm,Zqr,List.append_assoc,List.length_drop,eq_self,true_and,and_true,Nat.add_zero,Nat.mul_one,h2,hw,hge,hc]
                tactic =>
                all_goals
                  refine ⟨by omega, by omega, ?_⟩
                  unfold NextL; refine ⟨(k - 1), [], _, by omega, ⟨i2 + 1, by omega, hu4, rfl⟩, wkA ?_⟩
                  sym =>
                  simp [Zaa,Zab,Zac,Zad,Zae,Zaf,Zag,Zah,Zai,Zak,Zal,Zam,Zan,Zao,Zap,Zaq,Zav,Zaw,Zay,Zaz,Za0,Za1,Za2,Za3,Za4,Za5,Za6,Za7,Zrh,Za8,Za9,Zba,Zbb,Zbc,Zbd,Zbf,Zbg,Zbj,Zbl,Zbt,Zbu,Zb1,Zb2,Zb8,Zci,Zcn,Zc7,Zc8,Zdc,Zdd,Zde,Zdf,Zdg,Zdh,Zdi,Zdj,Zdk,Zdo,Zdp,Zdt,Zdu,Zdv,Zdw,Zdx,Zdy,Zd0,Zd1,Zd2,Zeb,Zee,Zep,Zeq,Zet,Zev,Zew,Zex,Zez,Ze0,Ze2,Ze5,Zfd,Zfe,Zfh,Zfi,Zfj,Zfk,Zfl,Zfn,Zfq,Zfr,Zfs,Zfz,Zf1,Zf2,Zf4,Zgd,Zgg,Zgh,Zgi,Zgr,Zgu,Zg4,Zg6,Zhb,Zhc,Zhm,Zhn,Zho,Zhs,Zht,Zhu,Zh6,Zh7,Zjq,Zjv,Zjw,Zky,Zkz,Zk0,Zk2,Zla,Zlb,Zle,Zlj,Zll,Zlz,Zmt,Zmv,Zmw,Zmx,Zmz,Zm3,Zm6,Zm9,Zna,Znb,Zne,Znf,Zng,Znh,Zns,Znt,Znu,Znv,Znw,Znx,Zny,Zn5,Zof,Zog,Zrd,Zos,Zot,Zo3,Zo4,Zo6,Zo7,Zo8,Zo9,Zpb,Zpc,Zpi,Zp9,Zqd,Zqe,Zqf,Zqg,Zqh,Zqm,Zqr,List.append_assoc,List.length_drop,eq_self,true_and,and_true,Nat.add_zero,Nat.mul_one]
              · by_cases hc2 : c = 32
                · have hbk : blk c = true := by rw [hc2]; rfl
                  have hu4 : (b.drop (i2 + 1)).dropWhile blk = (r.drop j).dropWhile blk := by rw [← hu3, List.dropWhile_cons_of_pos hbk]
                  sym =>
                  simp [Zaa,Zab,Zac,Zad,Zae,Zaf,Zag,Zah,Zai,Zak,Zal,Zam,Zan,Zao,Zap,Zaq,Zav,Zaw,Zay,Zaz,Za0,Za1,Za2,Za3,Za4,Za5,Za6,Za7,Zrh,Za8,Za9,Zba,Zbb,Zbc,Zbd,Zbf,Zbg,Zbj,Zbl,Zbt,Zbu,Zb1,Zb2,Zb8,Zci,Zcn,Zc7,Zc8,Zdc,Zdd,Zde,Zdf,Zdg,Zdh,Zdi,Zdj,Zdk,Zdo,Zdp,Zdt,Zdu,Zdv,Zdw,Zdx,Zdy,Zd0,Zd1,Zd2,Zeb,Zee,Zep,Zeq,Zet,Zev,Zew,Zex,Zez,Ze0,Ze2,Ze5,Zfd,Zfe,Zfh,Zfi,Zfj,Zfk,Zfl,Zfn,Zfq,Zfr,Zfs,Zfz,Zf1,Zf2,Zf4,Zgd,Zgg,Zgh,Zgi,Zgr,Zgu,Zg4,Zg6,Zhb,Zhc,Zhm,Zhn,Zho,Zhs,Zht,Zhu,Zh6,Zh7,Zjq,Zjv,Zjw,Zky,Zkz,Zk0,Zk2,Zla,Zlb,Zle,Zlj,Zll,Zlz,Zmt,Zmv,Zmw,Zmx,Zmz,Zm3,Zm6,Zm9,Zna,Znb,Zne,Znf,Zng,Znh,Zns,Znt,Znu,Znv,Znw,Znx,Zny,Zn5,Zof,Zog,Zrd,Zos,Zot,Zo3,Zo4,Zo6,Zo7,Zo8,Zo9,Zpb,Zpc,Zpi,Zp9,Zqd,Zqe,Zqf,Zqg,Zqh,Zqm,Zqr,List.append_assoc,List.length_drop,eq_self,true_and,and_true,Nat.add_zero,Nat.mul_one,h2,hw,hge,hc,hc2]
                  tactic =>
                  all_goals
                    refine ⟨by omega, by omega, by omega, by omega, ?_⟩
                    unfold NextL; refine ⟨(k - 1), [], _, by omega, ⟨i2 + 1, by omega, hu4, rfl⟩, wkA ?_⟩
                    sym =>
                    simp [Zaa,Zab,Zac,Zad,Zae,Zaf,Zag,Zah,Zai,Zak,Zal,Zam,Zan,Zao,Zap,Zaq,Zav,Zaw,Zay,Zaz,Za0,Za1,Za2,Za3,Za4,Za5,Za6,Za7,Zrh,Za8,Za9,Zba,Zbb,Zbc,Zbd,Zbf,Zbg,Zbj,Zbl,Zbt,Zbu,Zb1,Zb2,Zb8,Zci,Zcn,Zc7,Zc8,Zdc,Zdd,Zde,Zdf,Zdg,Zdh,Zdi,Zdj,Zdk,Zdo,Zdp,Zdt,Zdu,Zdv,Zdw,Zdx,Zdy,Zd0,Zd1,Zd2,Zeb,Zee,Zep,Zeq,Zet,Zev,Zew,Zex,Zez,Ze0,Ze2,Ze5,Zfd,Zfe,Zfh,Zfi,Zfj,Zfk,Zfl,Zfn,Zfq,Zfr,Zfs,Zfz,Zf1,Zf2,Zf4,Zgd,Zgg,Zgh,Zgi,Zgr,Zgu,Zg4,Zg6,Zhb,Zhc,Zhm,Zhn,Zho,Zhs,Zht,Zhu,Zh6,Zh7,Zjq,Zjv,Zjw,Zky,Zkz,Zk0,Zk2,Zla,Zlb,Zle,Zlj,Zll,Zlz,Zmt,Zmv,Zmw,Zmx,Zmz,Zm3,Zm6,Zm9,Zna,Znb,Zne,Znf,Zng,Znh,Zns,Znt,Znu,Znv,Znw,Znx,Zny,Zn5,Zof,Zog,Zrd,Zos,Zot,Zo3,Zo4,Zo6,Zo7,Zo8,Zo9,Zpb,Zpc,Zpi,Zp9,Zqd,Zqe,Zqf,Zqg,Zqh,Zqm,Zqr,List.append_assoc,List.length_drop,eq_self,true_and,and_true,Nat.add_zero,Nat.mul_one]
                · have hbk : ¬ blk c = true := by
                    show ¬ NumA.blank c = true
                    unfold NumA.blank
                    rw [if_neg hc2, decide_eq_false hc]
                    decide
                  have hna : ¬ (r.drop j).all blk = true := by
                    intro ha
                    rw [List.dropWhile_cons_of_neg hbk] at hu3
                    have := (dw_nil blk (r.drop j)).2 (List.all_eq_true.1 ha)
                    rw [this] at hu3
                    cases hu3
                  by_cases hj0 : j = 0
                  · have hR' : R = (0, 3) := by rw [hR, if_pos hj0]
                    subst hR'
                    first | (exfalso; omega) | skip
                    all_goals
                      sym =>
                      simp [Zaa,Zab,Zac,Zad,Zae,Zaf,Zag,Zah,Zai,Zak,Zal,Zam,Zan,Zao,Zap,Zaq,Zav,Zaw,Zay,Zaz,Za0,Za1,Za2,Za3,Za4,Za5,Za6,Za7,Zrh,Za8,Za9,Zba,Zbb,Zbc,Zbd,Zbf,Zbg,Zbj,Zbl,Zbt,Zbu,Zb1,Zb2,Zb8,Zci,Zcn,Zc7,Zc8,Zdc,Zdd,Zde,Zdf,Zdg,Zdh,Zdi,Zdj,Zdk,Zdo,Zdp,Zdt,Zdu,Zdv,Zdw,Zdx,Zdy,Zd0,Zd1,Zd2,Zeb,Zee,Zep,Zeq,Zet,Zev,Zew,Zex,Zez,Ze0,Ze2,Ze5,Zfd,Zfe,Zfh,Zfi,Zfj,Zfk,Zfl,Zfn,Zfq,Zfr,Zfs,Zfz,Zf1,Zf2,Zf4,Zgd,Zgg,Zgh,Zgi,Zgr,Zgu,Zg4,Zg6,Zhb,Zhc,Zhm,Zhn,Zho,Zhs,Zht,Zhu,Zh6,Zh7,Zjq,Zjv,Zjw,Zky,Zkz,Zk0,Zk2,Zla,Zlb,Zle,Zlj,Zll,Zlz,Zmt,Zmv,Zmw,Zmx,Zmz,Zm3,Zm6,Zm9,Zna,Znb,Zne,Znf,Zng,Znh,Zns,Znt,Znu,Znv,Znw,Znx,Zny,Zn5,Zof,Zog,Zrd,Zos,Zot,Zo3,Zo4,Zo6,Zo7,Zo8,Zo9,Zpb,Zpc,Zpi,Zp9,Zqd,Zqe,Zqf,Zqg,Zqh,Zqm,Zqr,List.append_assoc,List.length_drop,eq_self,true_and,and_true,Nat.add_zero,Nat.mul_one,h2,hge,hc,hc2,hj0]
                      tactic =>
                    all_goals
                      refine ⟨by omega, by omega, by omega, by omega, endA ?_⟩
                      sym =>
                      simp [Zaa,Zab,Zac,Zad,Zae,Zaf,Zag,Zah,Zai,Zak,Zal,Zam,Zan,Zao,Zap,Zaq,Zav,Zaw,Zay,Zaz,Za0,Za1,Za2,Za3,Za4,Za5,Za6,Za7,Zrh,Za8,Za9,Zba,Zbb,Zbc,Zbd,Zbf,Zbg,Zbj,Zbl,Zbt,Zbu,Zb1,Zb2,Zb8,Zci,Zcn,Zc7,Zc8,Zdc,Zdd,Zde,Zdf,Zdg,Zdh,Zdi,Zdj,Zdk,Zdo,Zdp,Zdt,Zdu,Zdv,Zdw,Zdx,Zdy,Zd0,Zd1,Zd2,Zeb,Zee,Zep,Zeq,Zet,Zev,Zew,Zex,Zez,Ze0,Ze2,Ze5,Zfd,Zfe,Zfh,Zfi,Zfj,Zfk,Zfl,Zfn,Zfq,Zfr,Zfs,Zfz,Zf1,Zf2,Zf4,Zgd,Zgg,Zgh,Zgi,Zgr,Zgu,Zg4,Zg6,Zhb,Zhc,Zhm,Zhn,Zho,Zhs,Zht,Zhu,Zh6,Zh7,Zjq,Zjv,Zjw,Zky,Zkz,Zk0,Zk2,Zla,Zlb,Zle,Zlj,Zll,Zlz,Zmt,Zmv,Zmw,Zmx,Zmz,Zm3,Zm6,Zm9,Zna,Znb,Zne,Znf,Zng,Znh,Zns,Znt,Znu,Znv,Znw,Znx,Zny,Zn5,Zof,Zog,Zrd,Zos,Zot,Zo3,Zo4,Zo6,Zo7,Zo8,Zo9,Zpb,Zpc,Zpi,Zp9,Zqd,Zqe,Zqf,Zqg,Zqh,Zqm,Zqr,List.append_assoc,List.length_drop,eq_self,true_and,and_true,Nat.add_zero,Nat.mul_one]
                  · have hR' : R = (0, 3) := by rw [hR, if_neg hj0]; exact if_neg hna
                    subst hR'
                    first | (exfalso; omega) | skip
                    all_goals
                      sym =>
                      simp [Zaa,Zab,Zac,Zad,Zae,Zaf,Zag,Zah,Zai,Zak,Zal,Zam,Zan,Zao,Zap,Zaq,Zav,Zaw,Zay,Zaz,Za0,Za1,Za2,Za3,Za4,Za5,Za6,Za7,Zrh,Za8,Za9,Zba,Zbb,Zbc,Zbd,Zbf,Zbg,Zbj,Zbl,Zbt,Zbu,Zb1,Zb2,Zb8,Zci,Zcn,Zc7,Zc8,Zdc,Zdd,Zde,Zdf,Zdg,Zdh,Zdi,Zdj,Zdk,Zdo,Zdp,Zdt,Zdu,Zdv,Zdw,Zdx,Zdy,Zd0,Zd1,Zd2,Zeb,Zee,Zep,Zeq,Zet,Zev,Zew,Zex,Zez,Ze0,Ze2,Ze5,Zfd,Zfe,Zfh,Zfi,Zfj,Zfk,Zfl,Zfn,Zfq,Zfr,Zfs,Zfz,Zf1,Zf2,Zf4,Zgd,Zgg,Zgh,Zgi,Zgr,Zgu,Zg4,Zg6,Zhb,Zhc,Zhm,Zhn,Zho,Zhs,Zht,Zhu,Zh6,Zh7,Zjq,Zjv,Zjw,Zky,Zkz,Zk0,Zk2,Zla,Zlb,Zle,Zlj,Zll,Zlz,Zmt,Zmv,Zmw,Zmx,Zmz,Zm3,Zm6,Zm9,Zna,Znb,Zne,Znf,Zng,Znh,Zns,Znt,Znu,Znv,Znw,Znx,Zny,Zn5,Zof,Zog,Zrd,Zos,Zot,Zo3,Zo4,Zo6,Zo7,Zo8,Zo9,Zpb,Zpc,Zpi,Zp9,Zqd,Zqe,Zqf,Zqg,Zqh,Zqm,Zqr,List.append_assoc,List.length_drop,eq_self,true_and,and_true,Nat.add_zero,Nat.mul_one,h2,hge,hc,hc2,hj0]
                      tactic =>
                    all_goals
                      refine ⟨by omega, by omega, by omega, by omega, endA ?_⟩
                      sym =>
                      simp [Zaa,Zab,Zac,Zad,Zae,Zaf,Zag,Zah,Zai,Zak,Zal,Zam,Zan,Zao,Zap,Zaq,Zav,Zaw,Zay,Zaz,Za0,Za1,Za2,Za3,Za4,Za5,Za6,Za7,Zrh,Za8,Za9,Zba,Zbb,Zbc,Zbd,Zbf,Zbg,Zbj,Zbl,Zbt,Zbu,Zb1,Zb2,Zb8,Zci,Zcn,Zc7,Zc8,Zdc,Zdd,Zde,Zdf,Zdg,Zdh,Zdi,Zdj,Zdk,Zdo,Zdp,Zdt,Zdu,Zdv,Zdw,Zdx,Zdy,Zd0,Zd1,Zd2,Zeb,Zee,Zep,Zeq,Zet,Zev,Zew,Zex,Zez,Ze0,Ze2,Ze5,Zfd,Zfe,Zfh,Zfi,Zfj,Zfk,Zfl,Zfn,Zfq,Zfr,Zfs,Zfz,Zf1,Zf2,Zf4,Zgd,Zgg,Zgh,Zgi,Zgr,Zgu,Zg4,Zg6,Zhb,Zhc,Zhm,Zhn,Zho,Zhs,Zht,Zhu,Zh6,Zh7,Zjq,Zjv,Zjw,Zky,Zkz,Zk0,Zk2,Zla,Zlb,Zle,Zlj,Zll,Zlz,Zmt,Zmv,Zmw,Zmx,Zmz,Zm3,Zm6,Zm9,Zna,Znb,Zne,Znf,Zng,Znh,Zns,Znt,Znu,Znv,Znw,Znx,Zny,Zn5,Zof,Zog,Zrd,Zos,Zot,Zo3,Zo4,Zo6,Zo7,Zo8,Zo9,Zpb,Zpc,Zpi,Zp9,Zqd,Zqe,Zqf,Zqg,Zqh,Zqm,Zqr,List.append_assoc,List.length_drop,eq_self,true_and,and_true,Nat.add_zero,Nat.mul_one]
            · obtain rfl : i2 = b.length := by omega
              rw [List.drop_of_length_le (Nat.le_refl _)] at hu3
              have hall : (r.drop j).all blk = true := List.all_eq_true.2 ((dw_nil blk (r.drop j)).1 hu3.symm)
              by_cases hj0 : j = 0
              · have hR' : R = (0, 3) := by rw [hR, if_pos hj0]
                subst hR'
                first | (exfalso; omega) | skip
                all_goals
                  sym =>
                  simp [Zaa,Zab,Zac,Zad,Zae,Zaf,Zag,Zah,Zai,Zak,Zal,Zam,Zan,Zao,Zap,Zaq,Zav,Zaw,Zay,Zaz,Za0,Za1,Za2,Za3,Za4,Za5,Za6,Za7,Zrh,Za8,Za9,Zba,Zbb,Zbc,Zbd,Zbf,Zbg,Zbj,Zbl,Zbt,Zbu,Zb1,Zb2,Zb8,Zci,Zcn,Zc7,Zc8,Zdc,Zdd,Zde,Zdf,Zdg,Zdh,Zdi,Zdj,Zdk,Zdo,Zdp,Zdt,Zdu,Zdv,Zdw,Zdx,Zdy,Zd0,Zd1,Zd2,Zeb,Zee,Zep,Zeq,Zet,Zev,Zew,Zex,Zez,Ze0,Ze2,Ze5,Zfd,Zfe,Zfh,Zfi,Zfj,Zfk,Zfl,Zfn,Zfq,Zfr,Zfs,Zfz,Zf1,Zf2,Zf4,Zgd,Zgg,Zgh,Zgi,Zgr,Zgu,Zg4,Zg6,Zhb,Zhc,Zhm,Zhn,Zho,Zhs,Zht,Zhu,Zh6,Zh7,Zjq,Zjv,Zjw,Zky,Zkz,Zk0,Zk2,Zla,Zlb,Zle,Zlj,Zll,Zlz,Zmt,Zmv,Zmw,Zmx,Zmz,Zm3,Zm6,Zm9,Zna,Znb,Zne,Znf,Zng,Znh,Zns,Znt,Znu,Znv,Znw,Znx,Zny,Zn5,Zof,Zog,Zrd,Zos,Zot,Zo3,Zo4,Zo6,Zo7,Zo8,Zo9,Zpb,Zpc,Zpi,Zp9,Zqd,Zqe,Zqf,Zqg,Zqh,Zqm,Zqr,List.append_assoc,List.length_drop,eq_self,true_and,and_true,Nat.add_zero,Nat.mul_one,h2,hj0]
                  tactic =>
                all_goals
                  refine endA ?_
                  sym =>
                  simp [Zaa,Zab,Zac,Zad,Zae,Zaf,Zag,Zah,Zai,Zak,Zal,Zam,Zan,Zao,Zap,Zaq,Zav,Zaw,Zay,Zaz,Za0,Za1,Za2,Za3,Za4,Za5,Za6,Za7,Zrh,Za8,Za9,Zba,Zbb,Zbc,Zbd,Zbf,Zbg,Zbj,Zbl,Zbt,Zbu,Zb1,Zb2,Zb8,Zci,Zcn,Zc7,Zc8,Zdc,Zdd,Zde,Zdf,Zdg,Zdh,Zdi,Zdj,Zdk,Zdo,Zdp,Zdt,Zdu,Zdv,Zdw,Zdx,Zdy,Zd0,Zd1,Zd2,Zeb,Zee,Zep,Zeq,Zet,Zev,Zew,Zex,Zez,Ze0,Ze2,Ze5,Zfd,Zfe,Zfh,Zfi,Zfj,Zfk,Zfl,Zfn,Zfq,Zfr,Zfs,Zfz,Zf1,Zf2,Zf4,Zgd,Zgg,Zgh,Zgi,Zgr,Zgu,Zg4,Zg6,Zhb,Zhc,Zhm,Zhn,Zho,Zhs,Zht,Zhu,Zh6,Zh7,Zjq,Zjv,Zjw,Zky,Zkz,Zk0,Zk2,Zla,Zlb,Zle,Zlj,Zll,Zlz,Zmt,Zmv,Zmw,Zmx,Zmz,Zm3,Zm6,Zm9,Zna,Znb,Zne,Znf,Zng,Znh,Zns,Znt,Znu,Znv,Znw,Znx,Zny,Zn5,Zof,Zog,Zrd,Zos,Zot,Zo3,Zo4,Zo6,Zo7,Zo8,Zo9,Zpb,Zpc,Zpi,Zp9,Zqd,Zqe,Zqf,Zqg,Zqh,Zqm,Zqr,List.append_assoc,List.length_drop,eq_self,true_and,and_true,Nat.add_zero,Nat.mul_one]
              · have hR' : R = (n, 0) := by rw [hR, if_neg hj0]; exact if_pos hall
                subst hR'
                first | (exfalso; omega) | skip
                all_goals
                  sym =>
                  simp [Zaa,Zab,Zac,Zad,Zae,Zaf,Zag,Zah,Zai,Zak,Zal,Zam,Zan,Zao,Zap,Zaq,Zav,Zaw,Zay,Zaz,Za0,Za1,Za2,Za3,Za4,Za5,Za6,Za7,Zrh,Za8,Za9,Zba,Zbb,Zbc,Zbd,Zbf,Zbg,Zbj,Zbl,Zbt,Zbu,Zb1,Zb2,Zb8,Zci,Zcn,Zc7,Zc8,Zdc,Zdd,Zde,Zdf,Zdg,Zdh,Zdi,Zdj,Zdk,Zdo,Zdp,Zdt,Zdu,Zdv,Zdw,Zdx,Zdy,Zd0,Zd1,Zd2,Zeb,Zee,Zep,Zeq,Zet,Zev,Zew,Zex,Zez,Ze0,Ze2,Ze5,Zfd,Zfe,Zfh,Zfi,Zfj,Zfk,Zfl,Zfn,Zfq,Zfr,Zfs,Zfz,Zf1,Zf2,Zf4,Zgd,Zgg,Zgh,Zgi,Zgr,Zgu,Zg4,Zg6,Zhb,Zhc,Zhm,Zhn,Zho,Zhs,Zht,Zhu,Zh6,Zh7,Zjq,Zjv,Zjw,Zky,Zkz,Zk0,Zk2,Zla,Zlb,Zle,Zlj,Zll,Zlz,Zmt,Zmv,Zmw,Zmx,Zmz,Zm3,Zm6,Zm9,Zna,Znb,Zne,Znf,Zng,Znh,Zns,Znt,Znu,Znv,Znw,Znx,Zny,Zn5,Zof,Zog,Zrd,Zos,Zot,Zo3,Zo4,Zo6,Zo7,Zo8,Zo9,Zpb,Zpc,Zpi,Zp9,Zqd,Zqe,Zqf,Zqg,Zqh,Zqm,Zqr,List.append_assoc,List.length_drop,eq_self,true_and,and_true,Nat.add_zero,Nat.mul_one,h2,hj0]
                  tactic =>
                all_goals
                  refine endA ?_
                  sym =>
                  simp [Zaa,Zab,Zac,Zad,Zae,Zaf,Zag,Zah,Zai,Zak,Zal,Zam,Zan,Zao,Zap,Zaq,Zav,Zaw,Zay,Zaz,Za0,Za1,Za2,Za3,Za4,Za5,Za6,Za7,Zrh,Za8,Za9,Zba,Zbb,Zbc,Zbd,Zbf,Zbg,Zbj,Zbl,Zbt,Zbu,Zb1,Zb2,Zb8,Zci,Zcn,Zc7,Zc8,Zdc,Zdd,Zde,Zdf,Zdg,Zdh,Zdi,Zdj,Zdk,Zdo,Zdp,Zdt,Zdu,Zdv,Zdw,Zdx,Zdy,Zd0,Zd1,Zd2,Zeb,Zee,Zep,Zeq,Zet,Zev,Zew,Zex,Zez,Ze0,Ze2,Ze5,Zfd,Zfe,Zfh,Zfi,Zfj,Zfk,Zfl,Zfn,Zfq,Zfr,Zfs,Zfz,Zf1,Zf2,Zf4,Zgd,Zgg,Zgh,Zgi,Zgr,Zgu,Zg4,Zg6,Zhb,Zhc,Zhm,Zhn,Zho,Zhs,Zht,Zhu,Zh6,Zh7,Zjq,Zjv,Zjw,Zky,Zkz,Zk0,Zk2,Zla,Zlb,Zle,Zlj,Zll,Zlz,Zmt,Zmv,Zmw,Zmx,Zmz,Zm3,Zm6,Zm9,Zna,Znb,Zne,Znf,Zng,Znh,Zns,Znt,Znu,Znv,Znw,Znx,Zny,Zn5,Zof,Zog,Zrd,Zos,Zot,Zo3,Zo4,Zo6,Zo7,Zo8,Zo9,Zpb,Zpc,Zpi,Zp9,Zqd,Zqe,Zqf,Zqg,Zqh,Zqm,Zqr,List.append_assoc,List.length_drop,eq_self,true_and,and_true,Nat.add_zero,Nat.mul_one]
          · have g1 : ¬ c ≥ 48 := h48a
            sym =>
            simp [Zaa,Zab,Zac,Zad,Zae,Zaf,Zag,Zah,Zai,Zak,Zal,Zam,Zan,Zao,Zap,Zaq,Zav,Zaw,Zay,Zaz,Za0,Za1,Za2,Za3,Za4,Za5,Za6,Za7,Zrh,Za8,Za9,Zba,Zbb,Zbc,Zbd,Zbf,Zbg,Zbj,Zbl,Zbt,Zbu,Zb1,Zb2,Zb8,Zci,Zcn,Zc7,Zc8,Zdc,Zdd,Zde,Zdf,Zdg,Zdh,Zdi,Zdj,Zdk,Zdo,Zdp,Zdt,Zdu,Zdv,Zdw,Zdx,Zdy,Zd0,Zd1,Zd2,Zeb,Zee,Zep,Zeq,Zet,Zev,Zew,Zex,Zez,Ze0,Ze2,Ze5,Zfd,Zfe,Zfh,Zfi,Zfj,Zfk,Zfl,Zfn,Zfq,Zfr,Zfs,Zfz,Zf1,Zf2,Zf4,Zgd,Zgg,Zgh,Zgi,Zgr,Zgu,Zg4,Zg6,Zhb,Zhc,Zhm,Zhn,Zho,Zhs,Zht,Zhu,Zh6,Zh7,Zjq,Zjv,Zjw,Zky,Zkz,Zk0,Zk2,Zla,Zlb,Zle,Zlj,Zll,Zlz,Zmt,Zmv,Zmw,Zmx,Zmz,Zm3,Zm6,Zm9,Zna,Znb,Zne,Znf,Zng,Znh,Zns,Znt,Znu,Znv,Znw,Znx,Zny,Zn5,Zof,Zog,Zrd,Zos,Zot,Zo3,Zo4,Zo6,Zo7,Zo8,Zo9,Zpb,Zpc,Zpi,Zp9,Zqd,Zqe,Zqf,Zqg,Zqh,Zqm,Zqr,List.append_assoc,List.length_drop,eq_self,true_and,and_true,Nat.add_zero,Nat.mul_one,hlt,hge,g1]
            tactic =>
            refine ⟨by omega, by omega, ?_⟩
            have hjl : (digF r).length = j := by rw [hE, List.length_take]; omega
            have htd : b.drop (i + j) = r.drop j := by rw [← hu2, List.drop_drop]
            rw [hE, List.length_take, Nat.min_eq_left (show j ≤ r.length by omega)] at hR
            subst hZn
            refine lpA (k18 b (r.drop j) n j) (b.length - (i + j)) [] _ ⟨i + j, by omega, by rw [htd], rfl⟩ (wkA ?_) ?_
            · sym =>
              simp [Zaa,Zab,Zac,Zad,Zae,Zaf,Zag,Zah,Zai,Zak,Zal,Zam,Zan,Zao,Zap,Zaq,Zav,Zaw,Zay,Zaz,Za0,Za1,Za2,Za3,Za4,Za5,Za6,Za7,Zrh,Za8,Za9,Zba,Zbb,Zbc,Zbd,Zbf,Zbg,Zbj,Zbl,Zbt,Zbu,Zb1,Zb2,Zb8,Zci,Zcn,Zc7,Zc8,Zdc,Zdd,Zde,Zdf,Zdg,Zdh,Zdi,Zdj,Zdk,Zdo,Zdp,Zdt,Zdu,Zdv,Zdw,Zdx,Zdy,Zd0,Zd1,Zd2,Zeb,Zee,Zep,Zeq,Zet,Zev,Zew,Zex,Zez,Ze0,Ze2,Ze5,Zfd,Zfe,Zfh,Zfi,Zfj,Zfk,Zfl,Zfn,Zfq,Zfr,Zfs,Zfz,Zf1,Zf2,Zf4,Zgd,Zgg,Zgh,Zgi,Zgr,Zgu,Zg4,Zg6,Zhb,Zhc,Zhm,Zhn,Zho,Zhs,Zht,Zhu,Zh6,Zh7,Zjq,Zjv,Zjw,Zky,Zkz,Zk0,Zk2,Zla,Zlb,Zle,Zlj,Zll,Zlz,Zmt,Zmv,Zmw,Zmx,Zmz,Zm3,Zm6,Zm9,Zna,Znb,Zne,Znf,Zng,Znh,Zns,Znt,Znu,Znv,Znw,Znx,Zny,Zn5,Zof,Zog,Zrd,Zos,Zot,Zo3,Zo4,Zo6,Zo7,Zo8,Zo9,Zpb,Zpc,Zpi,Zp9,Zqd,Zqe,Zqf,Zqg,Zqh,Zqm,Zqr,List.append_assoc,List.length_drop,eq_self,true_and,and_true,Nat.add_zero,Nat.mul_one]
            rintro k s ⟨i2, hk2, hu3, rfl⟩
            by_cases h2 : i2 < b.length
            · have hw := w64s i2 (by omega)
              have hge := cB_get b i2 h2
              have hds := drop_stepD b i2 h2
              obtain ⟨c, hc0⟩ : ∃ c, c = b.getD i2 0 := ⟨_, rfl⟩
              rw [← hc0] at hge hds
              rw [hds] at hu3
              by_cases hc : c = 0
              · have hbk : blk c = true := by rw [hc]; rfl
                have hu4 : (b.drop (i2 + 1)).dropWhile blk = (r.drop j).dropWhile blk := by rw [← hu3, List.dropWhile_cons_of_pos hbk]
                sym =>
                simp [Zaa,Zab,Zac,Zad,Zae,Zaf,Zag,Zah,Zai,Zak,Zal,Zam,Zan,Zao,Zap,Zaq,Zav,Zaw,Zay,Zaz,Za0,Za1,Za2,Za3,Za4,Za5,Za6,Za7,Zrh,Za8,Za9,Zba,Zbb,Zbc,Zbd,Zbf,Zbg,Zbj,Zbl,Zbt,Zbu,Zb1,Zb2,Zb8,Zci,Zcn,Zc7,Zc8,Zdc,Zdd,Zde,Zdf,Zdg,Zdh,Zdi,Zdj,Zdk,Zdo,Zdp,Zdt,Zdu,Zdv,Zdw,Zdx,Zdy,Zd0,Zd1,Zd2,Zeb,Zee,Zep,Zeq,Zet,Zev,Zew,Zex,Zez,Ze0,Ze2,Ze5,Zfd,Zfe,Zfh,Zfi,Zfj,Zfk,Zfl,Zfn,Zfq,Zfr,Zfs,Zfz,Zf1,Zf2,Zf4,Zgd,Zgg,Zgh,Zgi,Zgr,Zgu,Zg4,Zg6,Zhb,Zhc,Zhm,Zhn,Zho,Zhs,Zht,Zhu,Zh6,Zh7,Zjq,Zjv,Zjw,Zky,Zkz,Zk0,Zk2,Zla,Zlb,Zle,Zlj,Zll,Zlz,Zmt,Zmv,Zmw,Zmx,Zmz,Zm3,Zm6,Zm9,Zna,Znb,Zne,Znf,Zng,Znh,Zns,Znt,Znu,Znv,Znw,Znx,Zny,Zn5,Zof,Zog,Zrd,Zos,Zot,Zo3,Zo4,Zo6,Zo7,Zo8,Zo9,Zpb,Zpc,Zpi,Zp9,Zqd,Zqe,Zqf,Zqg,Zqh,Zqm,Zqr,List.append_assoc,List.length_drop,eq_self,true_and,and_true,Nat.add_zero,Nat.mul_one,h2,hw,hge,hc]
                tactic =>
                all_goals
                  refine ⟨by omega, by omega, ?_⟩
                  unfold NextL; refine ⟨(k - 1), [], _, by omega, ⟨i2 + 1, by omega, hu4, rfl⟩, wkA ?_⟩
                  sym =>
                  simp [Zaa,Zab,Zac,Zad,Zae,Zaf,Zag,Zah,Zai,Zak,Zal,Zam,Zan,Zao,Zap,Zaq,Zav,Zaw,Zay,Zaz,Za0,Za1,Za2,Za3,Za4,Za5,Za6,Za7,Zrh,Za8,Za9,Zba,Zbb,Zbc,Zbd,Zbf,Zbg,Zbj,Zbl,Zbt,Zbu,Zb1,Zb2,Zb8,Zci,Zcn,Zc7,Zc8,Zdc,Zdd,Zde,Zdf,Zdg,Zdh,Zdi,Zdj,Zdk,Zdo,Zdp,Zdt,Zdu,Zdv,Zdw,Zdx,Zdy,Zd0,Zd1,Zd2,Zeb,Zee,Zep,Zeq,Zet,Zev,Zew,Zex,Zez,Ze0,Ze2,Ze5,Zfd,Zfe,Zfh,Zfi,Zfj,Zfk,Zfl,Zfn,Zfq,Zfr,Zfs,Zfz,Zf1,Zf2,Zf4,Zgd,Zgg,Zgh,Zgi,Zgr,Zgu,Zg4,Zg6,Zhb,Zhc,Zhm,Zhn,Zho,Zhs,Zht,Zhu,Zh6,Zh7,Zjq,Zjv,Zjw,Zky,Zkz,Zk0,Zk2,Zla,Zlb,Zle,Zlj,Zll,Zlz,Zmt,Zmv,Zmw,Zmx,Zmz,Zm3,Zm6,Zm9,Zna,Znb,Zne,Znf,Zng,Znh,Zns,Znt,Znu,Znv,Znw,Znx,Zny,Zn5,Zof,Zog,Zrd,Zos,Zot,Zo3,Zo4,Zo6,Zo7,Zo8,Zo9,Zpb,Zpc,Zpi,Zp9,Zqd,Zqe,Zqf,Zqg,Zqh,Zqm,Zqr,List.append_assoc,List.length_drop,eq_self,true_and,and_true,Nat.add_zero,Nat.mul_one]
              · by_cases hc2 : c = 32
                · have hbk : blk c = true := by rw [hc2]; rfl
                  have hu4 : (b.drop (i2 + 1)).dropWhile blk = (r.drop j).dropWhile blk := by rw [← hu3, List.dropWhile_cons_of_pos hbk]
                  sym =>
                  simp [Zaa,Zab,Zac,Zad,Zae,Zaf,Zag,Zah,Zai,Zak,Zal,Zam,Zan,Zao,Zap,Zaq,Zav,Zaw,Zay,Zaz,Za0,Za1,Za2,Za3,Za4,Za5,Za6,Za7,Zrh,Za8,Za9,Zba,Zbb,Zbc,Zbd,Zbf,Zbg,Zbj,Zbl,Zbt,Zbu,Zb1,Zb2,Zb8,Zci,Zcn,Zc7,Zc8,Zdc,Zdd,Zde,Zdf,Zdg,Zdh,Zdi,Zdj,Zdk,Zdo,Zdp,Zdt,Zdu,Zdv,Zdw,Zdx,Zdy,Zd0,Zd1,Zd2,Zeb,Zee,Zep,Zeq,Zet,Zev,Zew,Zex,Zez,Ze0,Ze2,Ze5,Zfd,Zfe,Zfh,Zfi,Zfj,Zfk,Zfl,Zfn,Zfq,Zfr,Zfs,Zfz,Zf1,Zf2,Zf4,Zgd,Zgg,Zgh,Zgi,Zgr,Zgu,Zg4,Zg6,Zhb,Zhc,Zhm,Zhn,Zho,Zhs,Zht,Zhu,Zh6,Zh7,Zjq,Zjv,Zjw,Zky,Zkz,Zk0,Zk2,Zla,Zlb,Zle,Zlj,Zll,Zlz,Zmt,Zmv,Zmw,Zmx,Zmz,Zm3,Zm6,Zm9,Zna,Znb,Zne,Znf,Zng,Znh,Zns,Znt,Znu,Znv,Znw,Znx,Zny,Zn5,Zof,Zog,Zrd,Zos,Zot,Zo3,Zo4,Zo6,Zo7,Zo8,Zo9,Zpb,Zpc,Zpi,Zp9,Zqd,Zqe,Zqf,Zqg,Zqh,Zqm,Zqr,List.append_assoc,List.length_drop,eq_self,true_and,and_true,Nat.add_zero,Nat.mul_one,h2,hw,hge,hc,hc2]
                  tactic =>
                  all_goals
                    refine ⟨by omega, by omega, by omega, by omega, ?_⟩
                    unfold NextL; refine ⟨(k - 1), [], _, by omega, ⟨i2 + 1, by omega, hu4, rfl⟩, wkA ?_⟩
                    sym =>
                    simp [Zaa,Zab,Zac,Zad,Zae,Zaf,Zag,Zah,Zai,Zak,Zal,Zam,Zan,Zao,Zap,Zaq,Zav,Zaw,Zay,Zaz,Za0,Za1,Za2,Za3,Za4,Za5,Za6,Za7,Zrh,Za8,Za9,Zba,Zbb,Zbc,Zbd,Zbf,Zbg,Zbj,Zbl,Zbt,Zbu,Zb1,Zb2,Zb8,Zci,Zcn,Zc7,Zc8,Zdc,Zdd,Zde,Zdf,Zdg,Zdh,Zdi,Zdj,Zdk,Zdo,Zdp,Zdt,Zdu,Zdv,Zdw,Zdx,Zdy,Zd0,Zd1,Zd2,Zeb,Zee,Zep,Zeq,Zet,Zev,Zew,Zex,Zez,Ze0,Ze2,Ze5,Zfd,Zfe,Zfh,Zfi,Zfj,Zfk,Zfl,Zfn,Zfq,Zfr,Zfs,Zfz,Zf1,Zf2,Zf4,Zgd,Zgg,Zgh,Zgi,Zgr,Zgu,Zg4,Zg6,Zhb,Zhc,Zhm,Zhn,Zho,Zhs,Zht,Zhu,Zh6,Zh7,Zjq,Zjv,Zjw,Zky,Zkz,Zk0,Zk2,Zla,Zlb,Zle,Zlj,Zll,Zlz,Zmt,Zmv,Zmw,Zmx,Zmz,Zm3,Zm6,Zm9,Zna,Znb,Zne,Znf,Zng,Znh,Zns,Znt,Znu,Znv,Znw,Znx,Zny,Zn5,Zof,Zog,Zrd,Zos,Zot,Zo3,Zo4,Zo6,Zo7,Zo8,Zo9,Zpb,Zpc,Zpi,Zp9,Zqd,Zqe,Zqf,Zqg,Zqh,Zqm,Zqr,List.append_assoc,List.length_drop,eq_self,true_and,and_true,Nat.add_zero,Nat.mul_one]
                · have hbk : ¬ blk c = true := by
                    show ¬ NumA.blank c = true
                    unfold NumA.blank
                    rw [if_neg hc2, decide_eq_false hc]
                    decide
                  have hna : ¬ (r.drop j).all blk = true := by
                    intro ha
                    rw [List.dropWhile_cons_of_neg hbk] at hu3
                    have := (dw_nil blk (r.drop j)).2 (List.all_eq_true.1 ha)
                    rw [this] at hu3
                    cases hu3
                  by_cases hj0 : j = 0
                  · have hR' : R = (0, 3) := by rw [hR, if_pos hj0]
                    subst hR'
                    first | (exfalso; omega) | skip
                    all_goals
                      sym =>
                      simp [Zaa,Zab,Zac,Zad,Zae,Zaf,Zag,Zah,Zai,Zak,Zal,Zam,Zan,Zao,Zap,Zaq,Zav,Zaw,Zay,Zaz,Za0,Za1,Za2,Za3,Za4,Za5,Za6,Za7,Zrh,Za8,Za9,Zba,Zbb,Zbc,Zbd,Zbf,Zbg,Zbj,Zbl,Zbt,Zbu,Zb1,Zb2,Zb8,Zci,Zcn,Zc7,Zc8,Zdc,Zdd,Zde,Zdf,Zdg,Zdh,Zdi,Zdj,Zdk,Zdo,Zdp,Zdt,Zdu,Zdv,Zdw,Zdx,Zdy,Zd0,Zd1,Zd2,Zeb,Zee,Zep,Zeq,Zet,Zev,Zew,Zex,Zez,Ze0,Ze2,Ze5,Zfd,Zfe,Zfh,Zfi,Zfj,Zfk,Zfl,Zfn,Zfq,Zfr,Zfs,Zfz,Zf1,Zf2,Zf4,Zgd,Zgg,Zgh,Zgi,Zgr,Zgu,Zg4,Zg6,Zhb,Zhc,Zhm,Zhn,Zho,Zhs,Zht,Zhu,Zh6,Zh7,Zjq,Zjv,Zjw,Zky,Zkz,Zk0,Zk2,Zla,Zlb,Zle,Zlj,Zll,Zlz,Zmt,Zmv,Zmw,Zmx,Zmz,Zm3,Zm6,Zm9,Zna,Znb,Zne,Znf,Zng,Znh,Zns,Znt,Znu,Znv,Znw,Znx,Zny,Zn5,Zof,Zog,Zrd,Zos,Zot,Zo3,Zo4,Zo6,Zo7,Zo8,Zo9,Zpb,Zpc,Zpi,Zp9,Zqd,Zqe,Zqf,Zqg,Zqh,Zqm,Zqr,List.append_assoc,List.length_drop,eq_self,true_and,and_true,Nat.add_zero,Nat.mul_one,h2,hge,hc,hc2,hj0]
                      tactic =>
                    all_goals
                      refine ⟨by omega, by omega, by omega, by omega, endA ?_⟩
                      sym =>
                      simp [Zaa,Zab,Zac,Zad,Zae,Zaf,Zag,Zah,Zai,Zak,Zal,Zam,Zan,Zao,Zap,Zaq,Zav,Zaw,Zay,Zaz,Za0,Za1,Za2,Za3,Za4,Za5,Za6,Za7,Zrh,Za8,Za9,Zba,Zbb,Zbc,Zbd,Zbf,Zbg,Zbj,Zbl,Zbt,Zbu,Zb1,Zb2,Zb8,Zci,Zcn,Zc7,Zc8,Zdc,Zdd,Zde,Zdf,Zdg,Zdh,Zdi,Zdj,Zdk,Zdo,Zdp,Zdt,Zdu,Zdv,Zdw,Zdx,Zdy,Zd0,Zd1,Zd2,Zeb,Zee,Zep,Zeq,Zet,Zev,Zew,Zex,Zez,Ze0,Ze2,Ze5,Zfd,Zfe,Zfh,Zfi,Zfj,Zfk,Zfl,Zfn,Zfq,Zfr,Zfs,Zfz,Zf1,Zf2,Zf4,Zgd,Zgg,Zgh,Zgi,Zgr,Zgu,Zg4,Zg6,Zhb,Zhc,Zhm,Zhn,Zho,Zhs,Zht,Zhu,Zh6,Zh7,Zjq,Zjv,Zjw,Zky,Zkz,Zk0,Zk2,Zla,Zlb,Zle,Zlj,Zll,Zlz,Zmt,Zmv,Zmw,Zmx,Zmz,Zm3,Zm6,Zm9,Zna,Znb,Zne,Znf,Zng,Znh,Zns,Znt,Znu,Znv,Znw,Znx,Zny,Zn5,Zof,Zog,Zrd,Zos,Zot,Zo3,Zo4,Zo6,Zo7,Zo8,Zo9,Zpb,Zpc,Zpi,Zp9,Zqd,Zqe,Zqf,Zqg,Zqh,Zqm,Zqr,List.append_assoc,List.length_drop,eq_self,true_and,and_true,Nat.add_zero,Nat.mul_one]
                  · have hR' : R = (0, 3) := by rw [hR, if_neg hj0]; exact if_neg hna
                    subst hR'
                    first | (exfalso; omega) | skip
                    all_goals
                      sym =>
                      simp [Zaa,Zab,Zac,Zad,Zae,Zaf,Zag,Zah,Zai,Zak,Zal,Zam,Zan,Zao,Zap,Zaq,Zav,Zaw,Zay,Zaz,Za0,Za1,Za2,Za3,Za4,Za5,Za6,Za7,Zrh,Za8,Za9,Zba,Zbb,Zbc,Zbd,Zbf,Zbg,Zbj,Zbl,Zbt,Zbu,Zb1,Zb2,Zb8,Zci,Zcn,Zc7,Zc8,Zdc,Zdd,Zde,Zdf,Zdg,Zdh,Zdi,Zdj,Zdk,Zdo,Zdp,Zdt,Zdu,Zdv,Zdw,Zdx,Zdy,Zd0,Zd1,Zd2,Zeb,Zee,Zep,Zeq,Zet,Zev,Zew,Zex,Zez,Ze0,Ze2,Ze5,Zfd,Zfe,Zfh,Zfi,Zfj,Zfk,Zfl,Zfn,Zfq,Zfr,Zfs,Zfz,Zf1,Zf2,Zf4,Zgd,Zgg,Zgh,Zgi,Zgr,Zgu,Zg4,Zg6,Zhb,Zhc,Zhm,Zhn,Zho,Zhs,Zht,Zhu,Zh6,Zh7,Zjq,Zjv,Zjw,Zky,Zkz,Zk0,Zk2,Zla,Zlb,Zle,Zlj,Zll,Zlz,Zmt,Zmv,Zmw,Zmx,Zmz,Zm3,Zm6,Zm9,Zna,Znb,Zne,Znf,Zng,Znh,Zns,Znt,Znu,Znv,Znw,Znx,Zny,Zn5,Zof,Zog,Zrd,Zos,Zot,Zo3,Zo4,Zo6,Zo7,Zo8,Zo9,Zpb,Zpc,Zpi,Zp9,Zqd,Zqe,Zqf,Zqg,Zqh,Zqm,Zqr,List.append_assoc,List.length_drop,eq_self,true_and,and_true,Nat.add_zero,Nat.mul_one,h2,hge,hc,hc2,hj0]
                      tactic =>
                    all_goals
                      refine ⟨by omega, by omega, by omega, by omega, endA ?_⟩
                      sym =>
                      simp [Zaa,Zab,Zac,Zad,Zae,Zaf,Zag,Zah,Zai,Zak,Zal,Zam,Zan,Zao,Zap,Zaq,Zav,Zaw,Zay,Zaz,Za0,Za1,Za2,Za3,Za4,Za5,Za6,Za7,Zrh,Za8,Za9,Zba,Zbb,Zbc,Zbd,Zbf,Zbg,Zbj,Zbl,Zbt,Zbu,Zb1,Zb2,Zb8,Zci,Zcn,Zc7,Zc8,Zdc,Zdd,Zde,Zdf,Zdg,Zdh,Zdi,Zdj,Zdk,Zdo,Zdp,Zdt,Zdu,Zdv,Zdw,Zdx,Zdy,Zd0,Zd1,Zd2,Zeb,Zee,Zep,Zeq,Zet,Zev,Zew,Zex,Zez,Ze0,Ze2,Ze5,Zfd,Zfe,Zfh,Zfi,Zfj,Zfk,Zfl,Zfn,Zfq,Zfr,Zfs,Zfz,Zf1,Zf2,Zf4,Zgd,Zgg,Zgh,Zgi,Zgr,Zgu,Zg4,Zg6,Zhb,Zhc,Zhm,Zhn,Zho,Zhs,Zht,Zhu,Zh6,Zh7,Zjq,Zjv,Zjw,Zky,Zkz,Zk0,Zk2,Zla,Zlb,Zle,Zlj,Zll,Zlz,Zmt,Zmv,Zmw,Zmx,Zmz,Zm3,Zm6,Zm9,Zna,Znb,Zne,Znf,Zng,Znh,Zns,Znt,Znu,Znv,Znw,Znx,Zny,Zn5,Zof,Zog,Zrd,Zos,Zot,Zo3,Zo4,Zo6,Zo7,Zo8,Zo9,Zpb,Zpc,Zpi,Zp9,Zqd,Zqe,Zqf,Zqg,Zqh,Zqm,Zqr,List.append_assoc,List.length_drop,eq_self,true_and,and_true,Nat.add_zero,Nat.mul_one]
            · obtain rfl : i2 = b.length := by omega
              rw [List.drop_of_length_le (Nat.le_refl _)] at hu3
              have hall : (r.drop j).all blk = true := List.all_eq_true.2 ((dw_nil blk (r.drop j)).1 hu3.symm)
              by_cases hj0 : j = 0
              · have hR' : R = (0, 3) := by rw [hR, if_pos hj0]
                subst hR'
                first | (exfalso; omega) | skip
                all_goals
                  sym =>
                  simp [Zaa,Zab,Zac,Zad,Zae,Zaf,Zag,Zah,Zai,Zak,Zal,Zam,Zan,Zao,Zap,Zaq,Zav,Zaw,Zay,Zaz,Za0,Za1,Za2,Za3,Za4,Za5,Za6,Za7,Zrh,Za8,Za9,Zba,Zbb,Zbc,Zbd,Zbf,Zbg,Zbj,Zbl,Zbt,Zbu,Zb1,Zb2,Zb8,Zci,Zcn,Zc7,Zc8,Zdc,Zdd,Zde,Zdf,Zdg,Zdh,Zdi,Zdj,Zdk,Zdo,Zdp,Zdt,Zdu,Zdv,Zdw,Zdx,Zdy,Zd0,Zd1,Zd2,Zeb,Zee,Zep,Zeq,Zet,Zev,Zew,Zex,Zez,Ze0,Ze2,Ze5,Zfd,Zfe,Zfh,Zfi,Zfj,Zfk,Zfl,Zfn,Zfq,Zfr,Zfs,Zfz,Zf1,Zf2,Zf4,Zgd,Zgg,Zgh,Zgi,Zgr,Zgu,Zg4,Zg6,Zhb,Zhc,Zhm,Zhn,Zho,Zhs,Zht,Zhu,Zh6,Zh7,Zjq,Zjv,Zjw,Zky,Zkz,Zk0,Zk2,Zla,Zlb,Zle,Zlj,Zll,Zlz,Zmt,Zmv,Zmw,Zmx,Zmz,Zm3,Zm6,Zm9,Zna,Znb,Zne,Znf,Zng,Znh,Zns,Znt,Znu,Znv,Znw,Znx,Zny,Zn5,Zof,Zog,Zrd,Zos,Zot,Zo3,Zo4,Zo6,Zo7,Zo8,Zo9,Zpb,Zpc,Zpi,Zp9,Zqd,Zqe,Zqf,Zqg,Zqh,Zqm,Zqr,List.append_assoc,List.length_drop,eq_self,true_and,and_true,Nat.add_zero,Nat.mul_one,h2,hj0]
                  tactic =>
                all_goals
                  refine endA ?_
                  sym =>
                  simp [Zaa,Zab,Zac,Zad,Zae,Zaf,Zag,Zah,Zai,Zak,Zal,Zam,Zan,Zao,Zap,Zaq,Zav,Zaw,Zay,Zaz,Za0,Za1,Za2,Za3,Za4,Za5,Za6,Za7,Zrh,Za8,Za9,Zba,Zbb,Zbc,Zbd,Zbf,Zbg,Zbj,Zbl,Zbt,Zbu,Zb1,Zb2,Zb8,Zci,Zcn,Zc7,Zc8,Zdc,Zdd,Zde,Zdf,Zdg,Zdh,Zdi,Zdj,Zdk,Zdo,Zdp,Zdt,Zdu,Zdv,Zdw,Zdx,Zdy,Zd0,Zd1,Zd2,Zeb,Zee,Zep,Zeq,Zet,Zev,Zew,Zex,Zez,Ze0,Ze2,Ze5,Zfd,Zfe,Zfh,Zfi,Zfj,Zfk,Zfl,Zfn,Zfq,Zfr,Zfs,Zfz,Zf1,Zf2,Zf4,Zgd,Zgg,Zgh,Zgi,Zgr,Zgu,Zg4,Zg6,Zhb,Zhc,Zhm,Zhn,Zho,Zhs,Zht,Zhu,Zh6,Zh7,Zjq,Zjv,Zjw,Zky,Zkz,Zk0,Zk2,Zla,Zlb,Zle,Zlj,Zll,Zlz,Zmt,Zmv,Zmw,Zmx,Zmz,Zm3,Zm6,Zm9,Zna,Znb,Zne,Znf,Zng,Znh,Zns,Znt,Znu,Znv,Znw,Znx,Zny,Zn5,Zof,Zog,Zrd,Zos,Zot,Zo3,Zo4,Zo6,Zo7,Zo8,Zo9,Zpb,Zpc,Zpi,Zp9,Zqd,Zqe,Zqf,Zqg,Zqh,Zqm,Zqr,List.append_assoc,List.length_drop,eq_self,true_and,and_true,Nat.add_zero,Nat.mul_one]
              · have hR' : R = (n, 0) := by rw [hR, if_neg hj0]; exact if_pos hall
                subst hR'
                first | (exfalso; omega) | skip
                all_goals
                  sym =>
                  simp [Zaa,Zab,Zac,Zad,Zae,Zaf,Zag,Zah,Zai,Zak,Zal,Zam,Zan,Zao,Zap,Zaq,Zav,Zaw,Zay,Zaz,Za0,Za1,Za2,Za3,Za4,Za5,Za6,Za7,Zrh,Za8,Za9,Zba,Zbb,Zbc,Zbd,Zbf,Zbg,Zbj,Zbl,Zbt,Zbu,Zb1,Zb2,Zb8,Zci,Zcn,Zc7,Zc8,Zdc,Zdd,Zde,Zdf,Zdg,Zdh,Zdi,Zdj,Zdk,Zdo,Zdp,Zdt,Zdu,Zdv,Zdw,Zdx,Zdy,Zd0,Zd1,Zd2,Zeb,Zee,Zep,Zeq,Zet,Zev,Zew,Zex,Zez,Ze0,Ze2,Ze5,Zfd,Zfe,Zfh,Zfi,Zfj,Zfk,Zfl,Zfn,Zfq,Zfr,Zfs,Zfz,Zf1,Zf2,Zf4,Zgd,Zgg,Zgh,Zgi,Zgr,Zgu,Zg4,Zg6,Zhb,Zhc,Zhm,Zhn,Zho,Zhs,Zht,Zhu,Zh6,Zh7,Zjq,Zjv,Zjw,Zky,Zkz,Zk0,Zk2,Zla,Zlb,Zle,Zlj,Zll,Zlz,Zmt,Zmv,Zmw,Zmx,Zmz,Zm3,Zm6,Zm9,Zna,Znb,Zne,Znf,Zng,Znh,Zns,Znt,Znu,Znv,Znw,Znx,Zny,Zn5,Zof,Zog,Zrd,Zos,Zot,Zo3,Zo4,Zo6,Zo7,Zo8,Zo9,Zpb,Zpc,Zpi,Zp9,Zqd,Zqe,Zqf,Zqg,Zqh,Zqm,Zqr,List.append_assoc,List.length_drop,eq_self,true_and,and_true,Nat.add_zero,Nat.mul_one,h2,hj0]
                  tactic =>
                all_goals
                  refine endA ?_
                  sym =>
                  simp [Zaa,Zab,Zac,Zad,Zae,Zaf,Zag,Zah,Zai,Zak,Zal,Zam,Zan,Zao,Zap,Zaq,Zav,Zaw,Zay,Zaz,Za0,Za1,Za2,Za3,Za4,Za5,Za6,Za7,Zrh,Za8,Za9,Zba,Zbb,Zbc,Zbd,Zbf,Zbg,Zbj,Zbl,Zbt,Zbu,Zb1,Zb2,Zb8,Zci,Zcn,Zc7,Zc8,Zdc,Zdd,Zde,Zdf,Zdg,Zdh,Zdi,Zdj,Zdk,Zdo,Zdp,Zdt,Zdu,Zdv,Zdw,Zdx,Zdy,Zd0,Zd1,Zd2,Zeb,Zee,Zep,Zeq,Zet,Zev,Zew,Zex,Zez,Ze0,Ze2,Ze5,Zfd,Zfe,Zfh,Zfi,Zfj,Zfk,Zfl,Zfn,Zfq,Zfr,Zfs,Zfz,Zf1,Zf2,Zf4,Zgd,Zgg,Zgh,Zgi,Zgr,Zgu,Zg4,Zg6,Zhb,Zhc,Zhm,Zhn,Zho,Zhs,Zht,Zhu,Zh6,Zh7,Zjq,Zjv,Zjw,Zky,Zkz,Zk0,Zk2,Zla,Zlb,Zle,Zlj,Zll,Zlz,Zmt,Zmv,Zmw,Zmx,Zmz,Zm3,Zm6,Zm9,Zna,Znb,Zne,Znf,Zng,Znh,Zns,Znt,Znu,Znv,Znw,Znx,Zny,Zn5,Zof,Zog,Zrd,Zos,Zot,Zo3,Zo4,Zo6,Zo7,Zo8,Zo9,Zpb,Zpc,Zpi,Zp9,Zqd,Zqe,Zqf,Zqg,Zqh,Zqm,Zqr,List.append_assoc,List.length_drop,eq_self,true_and,and_true,Nat.add_zero,Nat.mul_one]
      · have hE : digF r = r.take j := by
          rw [List.drop_of_length_le (by omega)] at hu
          rw [← hu]; exact List.append_nil _
        have hZn : n = Z := by
          rw [List.drop_of_length_le (by omega)] at hv
          exact hv
        have hnl : ¬ i + j < b.length := by omega
        sym =>
        simp [Zaa,Zab,Zac,Zad,Zae,Zaf,Zag,Zah,Zai,Zak,Zal,Zam,Zan,Zao,Zap,Zaq,Zav,Zaw,Zay,Zaz,Za0,Za1,Za2,Za3,Za4,Za5,Za6,Za7,Zrh,Za8,Za9,Zba,Zbb,Zbc,Zbd,Zbf,Zbg,Zbj,Zbl,Zbt,Zbu,Zb1,Zb2,Zb8,Zci,Zcn,Zc7,Zc8,Zdc,Zdd,Zde,Zdf,Zdg,Zdh,Zdi,Zdj,Zdk,Zdo,Zdp,Zdt,Zdu,Zdv,Zdw,Zdx,Zdy,Zd0,Zd1,Zd2,Zeb,Zee,Zep,Zeq,Zet,Zev,Zew,Zex,Zez,Ze0,Ze2,Ze5,Zfd,Zfe,Zfh,Zfi,Zfj,Zfk,Zfl,Zfn,Zfq,Zfr,Zfs,Zfz,Zf1,Zf2,Zf4,Zgd,Zgg,Zgh,Zgi,Zgr,Zgu,Zg4,Zg6,Zhb,Zhc,Zhm,Zhn,Zho,Zhs,Zht,Zhu,Zh6,Zh7,Zjq,Zjv,Zjw,Zky,Zkz,Zk0,Zk2,Zla,Zlb,Zle,Zlj,Zll,Zlz,Zmt,Zmv,Zmw,Zmx,Zmz,Zm3,Zm6,Zm9,Zna,Znb,Zne,Znf,Zng,Znh,Zns,Znt,Znu,Znv,Znw,Znx,Zny,Zn5,Zof,Zog,Zrd,Zos,Zot,Zo3,Zo4,Zo6,Zo7,Zo8,Zo9,Zpb,Zpc,Zpi,Zp9,Zqd,Zqe,Zqf,Zqg,Zqh,Zqm,Zqr,List.append_assoc,List.length_drop,eq_self,true_and,and_true,Nat.add_zero,Nat.mul_one,hnl]
        tactic =>
        have hjl : (digF r).length = j := by rw [hE, List.length_take]; omega
        have htd : b.drop (i + j) = r.drop j := by rw [← hu2, List.drop_drop]
        rw [hE, List.length_take, Nat.min_eq_left (show j ≤ r.length by omega)] at hR
        subst hZn
        refine lpA (k18 b (r.drop j) n j) (b.length - (i + j)) [] _ ⟨i + j, by omega, by rw [htd], rfl⟩ (wkA ?_) ?_
        · sym =>
          simp [Zaa,Zab,Zac,Zad,Zae,Zaf,Zag,Zah,Zai,Zak,Zal,Zam,Zan,Zao,Zap,Zaq,Zav,Zaw,Zay,Zaz,Za0,Za1,Za2,Za3,Za4,Za5,Za6,Za7,Zrh,Za8,Za9,Zba,Zbb,Zbc,Zbd,Zbf,Zbg,Zbj,Zbl,Zbt,Zbu,Zb1,Zb2,Zb8,Zci,Zcn,Zc7,Zc8,Zdc,Zdd,Zde,Zdf,Zdg,Zdh,Zdi,Zdj,Zdk,Zdo,Zdp,Zdt,Zdu,Zdv,Zdw,Zdx,Zdy,Zd0,Zd1,Zd2,Zeb,Zee,Zep,Zeq,Zet,Zev,Zew,Zex,Zez,Ze0,Ze2,Ze5,Zfd,Zfe,Zfh,Zfi,Zfj,Zfk,Zfl,Zfn,Zfq,Zfr,Zfs,Zfz,Zf1,Zf2,Zf4,Zgd,Zgg,Zgh,Zgi,Zgr,Zgu,Zg4,Zg6,Zhb,Zhc,Zhm,Zhn,Zho,Zhs,Zht,Zhu,Zh6,Zh7,Zjq,Zjv,Zjw,Zky,Zkz,Zk0,Zk2,Zla,Zlb,Zle,Zlj,Zll,Zlz,Zmt,Zmv,Zmw,Zmx,Zmz,Zm3,Zm6,Zm9,Zna,Znb,Zne,Znf,Zng,Znh,Zns,Znt,Znu,Znv,Znw,Znx,Zny,Zn5,Zof,Zog,Zrd,Zos,Zot,Zo3,Zo4,Zo6,Zo7,Zo8,Zo9,Zpb,Zpc,Zpi,Zp9,Zqd,Zqe,Zqf,Zqg,Zqh,Zqm,Zqr,List.append_assoc,List.length_drop,eq_self,true_and,and_true,Nat.add_zero,Nat.mul_one]
        rintro k s ⟨i2, hk2, hu3, rfl⟩
        by_cases h2 : i2 < b.length
        · have hw := w64s i2 (by omega)
          have hge := cB_get b i2 h2
          have hds := drop_stepD b i2 h2
          obtain ⟨c, hc0⟩ : ∃ c, c = b.getD i2 0 := ⟨_, rfl⟩
          rw [← hc0] at hge hds
          rw [hds] at hu3
          by_cases hc : c = 0
          · have hbk : blk c = true := by rw [hc]; rfl
            have hu4 : (b.drop (i2 + 1)).dropWhile blk = (r.drop j).dropWhile blk := by rw [← hu3, List.dropWhile_cons_of_pos hbk]
            sym =>
            simp [Zaa,Zab,Zac,Zad,Zae,Zaf,Zag,Zah,Zai,Zak,Zal,Zam,Zan,Zao,Zap,Zaq,Zav,Zaw,Zay,Zaz,Za0,Za1,Za2,Za3,Za4,Za5,Za6,Za7,Zrh,Za8,Za9,Zba,Zbb,Zbc,Zbd,Zbf,Zbg,Zbj,Zbl,Zbt,Zbu,Zb1,Zb2,Zb8,Zci,Zcn,Zc7,Zc8,Zdc,Zdd,Zde,Zdf,Zdg,Zdh,Zdi,Zdj,Zdk,Zdo,Zdp,Zdt,Zdu,Zdv,Zdw,Zdx,Zdy,Zd0,Zd1,Zd2,Zeb,Zee,Zep,Zeq,Zet,Zev,Zew,Zex,Zez,Ze0,Ze2,Ze5,Zfd,Zfe,Zfh,Zfi,Zfj,Zfk,Zfl,Zfn,Zfq,Zfr,Zfs,Zfz,Zf1,Zf2,Zf4,Zgd,Zgg,Zgh,Zgi,Zgr,Zgu,Zg4,Zg6,Zhb,Zhc,Zhm,Zhn,Zho,Zhs,Zht,Zhu,Zh6,Zh7,Zjq,Zjv,Zjw,Zky,Zkz,Zk0,Zk2,Zla,Zlb,Zle,Zlj,Zll,Zlz,Zmt,Zmv,Zmw,Zmx,Zmz,Zm3,Zm6,Zm9,Zna,Znb,Zne,Znf,Zng,Znh,Zns,Znt,Znu,Znv,Znw,Znx,Zny,Zn5,Zof,Zog,Zrd,Zos,Zot,Zo3,Zo4,Zo6,Zo7,Zo8,Zo9,Zpb,Zpc,Zpi,Zp9,Zqd,Zqe,Zqf,Zqg,Zqh,Zqm,Zqr,List.append_assoc,List.length_drop,eq_self,true_and,and_true,Nat.add_zero,Nat.mul_one,h2,hw,hge,hc]
            tactic =>
            all_goals
              refine ⟨by omega, by omega, ?_⟩
              unfold NextL; refine ⟨(k - 1), [], _, by omega, ⟨i2 + 1, by omega, hu4, rfl⟩, wkA ?_⟩
              sym =>
              simp [Zaa,Zab,Zac,Zad,Zae,Zaf,Zag,Zah,Zai,Zak,Zal,Zam,Zan,Zao,Zap,Zaq,Zav,Zaw,Zay,Zaz,Za0,Za1,Za2,Za3,Za4,Za5,Za6,Za7,Zrh,Za8,Za9,Zba,Zbb,Zbc,Zbd,Zbf,Zbg,Zbj,Zbl,Zbt,Zbu,Zb1,Zb2,Zb8,Zci,Zcn,Zc7,Zc8,Zdc,Zdd,Zde,Zdf,Zdg,Zdh,Zdi,Zdj,Zdk,Zdo,Zdp,Zdt,Zdu,Zdv,Zdw,Zdx,Zdy,Zd0,Zd1,Zd2,Zeb,Zee,Zep,Zeq,Zet,Zev,Zew,Zex,Zez,Ze0,Ze2,Ze5,Zfd,Zfe,Zfh,Zfi,Zfj,Zfk,Zfl,Zfn,Zfq,Zfr,Zfs,Zfz,Zf1,Zf2,Zf4,Zgd,Zgg,Zgh,Zgi,Zgr,Zgu,Zg4,Zg6,Zhb,Zhc,Zhm,Zhn,Zho,Zhs,Zht,Zhu,Zh6,Zh7,Zjq,Zjv,Zjw,Zky,Zkz,Zk0,Zk2,Zla,Zlb,Zle,Zlj,Zll,Zlz,Zmt,Zmv,Zmw,Zmx,Zmz,Zm3,Zm6,Zm9,Zna,Znb,Zne,Znf,Zng,Znh,Zns,Znt,Znu,Znv,Znw,Znx,Zny,Zn5,Zof,Zog,Zrd,Zos,Zot,Zo3,Zo4,Zo6,Zo7,Zo8,Zo9,Zpb,Zpc,Zpi,Zp9,Zqd,Zqe,Zqf,Zqg,Zqh,Zqm,Zqr,List.append_assoc,List.length_drop,eq_self,true_and,and_true,Nat.add_zero,Nat.mul_one]
          · by_cases hc2 : c = 32
            · have hbk : blk c = true := by rw [hc2]; rfl
              have hu4 : (b.drop (i2 + 1)).dropWhile blk = (r.drop j).dropWhile blk := by rw [← hu3, List.dropWhile_cons_of_pos hbk]
              sym =>
              simp [Zaa,Zab,Zac,Zad,Zae,Zaf,Zag,Zah,Zai,Zak,Zal,Zam,Zan,Zao,Zap,Zaq,Zav,Zaw,Zay,Zaz,Za0,Za1,Za2,Za3,Za4,Za5,Za6,Za7,Zrh,Za8,Za9,Zba,Zbb,Zbc,Zbd,Zbf,Zbg,Zbj,Zbl,Zbt,Zbu,Zb1,Zb2,Zb8,Zci,Zcn,Zc7,Zc8,Zdc,Zdd,Zde,Zdf,Zdg,Zdh,Zdi,Zdj,Zdk,Zdo,Zdp,Zdt,Zdu,Zdv,Zdw,Zdx,Zdy,Zd0,Zd1,Zd2,Zeb,Zee,Zep,Zeq,Zet,Zev,Zew,Zex,Zez,Ze0,Ze2,Ze5,Zfd,Zfe,Zfh,Zfi,Zfj,Zfk,Zfl,Zfn,Zfq,Zfr,Zfs,Zfz,Zf1,Zf2,Zf4,Zgd,Zgg,Zgh,Zgi,Zgr,Zgu,Zg4,Zg6,Zhb,Zhc,Zhm,Zhn,Zho,Zhs,Zht,Zhu,Zh6,Zh7,Zjq,Zjv,Zjw,Zky,Zkz,Zk0,Zk2,Zla,Zlb,Zle,Zlj,Zll,Zlz,Zmt,Zmv,Zmw,Zmx,Zmz,Zm3,Zm6,Zm9,Zna,Znb,Zne,Znf,Zng,Znh,Zns,Znt,Znu,Znv,Znw,Znx,Zny,Zn5,Zof,Zog,Zrd,Zos,Zot,Zo3,Zo4,Zo6,Zo7,Zo8,Zo9,Zpb,Zpc,Zpi,Zp9,Zqd,Zqe,Zqf,Zqg,Zqh,Zqm,Zqr,List.append_assoc,List.length_drop,eq_self,true_and,and_true,Nat.add_zero,Nat.mul_one,h2,hw,hge,hc,hc2]
              tactic =>
              all_goals
                refine ⟨by omega, by omega, by omega, by omega, ?_⟩
                unfold NextL; refine ⟨(k - 1), [], _, by omega, ⟨i2 + 1, by omega, hu4, rfl⟩, wkA ?_⟩
                sym =>
                simp [Zaa,Zab,Zac,Zad,Zae,Zaf,Zag,Zah,Zai,Zak,Zal,Zam,Zan,Zao,Zap,Zaq,Zav,Zaw,Zay,Zaz,Za0,Za1,Za2,Za3,Za4,Za5,Za6,Za7,Zrh,Za8,Za9,Zba,Zbb,Zbc,Zbd,Zbf,Zbg,Zbj,Zbl,Zbt,Zbu,Zb1,Zb2,Zb8,Zci,Zcn,Zc7,Zc8,Zdc,Zdd,Zde,Zdf,Zdg,Zdh,Zdi,Zdj,Zdk,Zdo,Zdp,Zdt,Zdu,Zdv,Zdw,Zdx,Zdy,Zd0,Zd1,Zd2,Zeb,Zee,Zep,Zeq,Zet,Zev,Zew,Zex,Zez,Ze0,Ze2,Ze5,Zfd,Zfe,Zfh,Zfi,Zfj,Zfk,Zfl,Zfn,Zfq,Zfr,Zfs,Zfz,Zf1,Zf2,Zf4,Zgd,Zgg,Zgh,Zgi,Zgr,Zgu,Zg4,Zg6,Zhb,Zhc,Zhm,Zhn,Zho,Zhs,Zht,Zhu,Zh6,Zh7,Zjq,Zjv,Zjw,Zky,Zkz,Zk0,Zk2,Zla,Zlb,Zle,Zlj,Zll,Zlz,Zmt,Zmv,Zmw,Zmx,Zmz,Zm3,Zm6,Zm9,Zna,Znb,Zne,Znf,Zng,Znh,Zns,Znt,Znu,Znv,Znw,Znx,Zny,Zn5,Zof,Zog,Zrd,Zos,Zot,Zo3,Zo4,Zo6,Zo7,Zo8,Zo9,Zpb,Zpc,Zpi,Zp9,Zqd,Zqe,Zqf,Zqg,Zqh,Zqm,Zqr,List.append_assoc,List.length_drop,eq_self,true_and,and_true,Nat.add_zero,Nat.mul_one]
            · have hbk : ¬ blk c = true := by
                show ¬ NumA.blank c = true
                unfold NumA.blank
                rw [if_neg hc2, decide_eq_false hc]
                decide
              have hna : ¬ (r.drop j).all blk = true := by
                intro ha
                rw [List.dropWhile_cons_of_neg hbk] at hu3
                have := (dw_nil blk (r.drop j)).2 (List.all_eq_true.1 ha)
                rw [this] at hu3
                cases hu3
              by_cases hj0 : j = 0
              · have hR' : R = (0, 3) := by rw [hR, if_pos hj0]
                subst hR'
                first | (exfalso; omega) | skip
                all_goals
                  sym =>
                  simp [Zaa,Zab,Zac,Zad,Zae,Zaf,Zag,Zah,Zai,Zak,Zal,Zam,Zan,Zao,Zap,Zaq,Zav,Zaw,Zay,Zaz,Za0,Za1,Za2,Za3,Za4,Za5,Za6,Za7,Zrh,Za8,Za9,Zba,Zbb,Zbc,Zbd,Zbf,Zbg,Zbj,Zbl,Zbt,Zbu,Zb1,Zb2,Zb8,Zci,Zcn,Zc7,Zc8,Zdc,Zdd,Zde,Zdf,Zdg,Zdh,Zdi,Zdj,Zdk,Zdo,Zdp,Zdt,Zdu,Zdv,Zdw,Zdx,Zdy,Zd0,Zd1,Zd2,Zeb,Zee,Zep,Zeq,Zet,Zev,Zew,Zex,Zez,Ze0,Ze2,Ze5,Zfd,Zfe,Zfh,Zfi,Zfj,Zfk,Zfl,Zfn,Zfq,Zfr,Zfs,Zfz,Zf1,Zf2,Zf4,Zgd,Zgg,Zgh,Zgi,Zgr,Zgu,Zg4,Zg6,Zhb,Zhc,Zhm,Zhn,Zho,Zhs,Zht,Zhu,Zh6,Zh7,Zjq,Zjv,Zjw,Zky,Zkz,Zk0,Zk2,Zla,Zlb,Zle,Zlj,Zll,Zlz,Zmt,Zmv,Zmw,Zmx,Zmz,Zm3,Zm6,Zm9,Zna,Znb,Zne,Znf,Zng,Znh,Zns,Znt,Znu,Znv,Znw,Znx,Zny,Zn5,Zof,Zog,Zrd,Zos,Zot,Zo3,Zo4,Zo6,Zo7,Zo8,Zo9,Zpb,Zpc,Zpi,Zp9,Zqd,Zqe,Zqf,Zqg,Zqh,Zqm,Zqr,List.append_assoc,List.length_drop,eq_self,true_and,and_true,Nat.add_zero,Nat.mul_one,h2,hge,hc,hc2,hj0]
                  tactic =>
                all_goals
                  refine ⟨by omega, by omega, by omega, by omega, endA ?_⟩
                  sym =>
                  simp [Zaa,Zab,Zac,Zad,Zae,Zaf,Zag,Zah,Zai,Zak,Zal,Zam,Zan,Zao,Zap,Zaq,Zav,Zaw,Zay,Zaz,Za0,Za1,Za2,Za3,Za4,Za5,Za6,Za7,Zrh,Za8,Za9,Zba,Zbb,Zbc,Zbd,Zbf,Zbg,Zbj,Zbl,Zbt,Zbu,Zb1,Zb2,Zb8,Zci,Zcn,Zc7,Zc8,Zdc,Zdd,Zde,Zdf,Zdg,Zdh,Zdi,Zdj,Zdk,Zdo,Zdp,Zdt,Zdu,Zdv,Zdw,Zdx,Zdy,Zd0,Zd1,Zd2,Zeb,Zee,Zep,Zeq,Zet,Zev,Zew,Zex,Zez,Ze0,Ze2,Ze5,Zfd,Zfe,Zfh,Zfi,Zfj,Zfk,Zfl,Zfn,Zfq,Zfr,Zfs,Zfz,Zf1,Zf2,Zf4,Zgd,Zgg,Zgh,Zgi,Zgr,Zgu,Zg4,Zg6,Zhb,Zhc,Zhm,Zhn,Zho,Zhs,Zht,Zhu,Zh6,Zh7,Zjq,Zjv,Zjw,Zky,Zkz,Zk0,Zk2,Zla,Zlb,Zle,Zlj,Zll,Zlz,Zmt,Zmv,Zmw,Zmx,Zmz,Zm3,Zm6,Zm9,Zna,Znb,Zne,Znf,Zng,Znh,Zns,Znt,Znu,Znv,Znw,Znx,Zny,Zn5,Zof,Zog,Zrd,Zos,Zot,Zo3,Zo4,Zo6,Zo7,Zo8,Zo9,Zpb,Zpc,Zpi,Zp9,Zqd,Zqe,Zqf,Zqg,Zqh,Zqm,Zqr,List.append_assoc,List.length_drop,eq_self,true_and,and_true,Nat.add_zero,Nat.mul_one]
              · have hR' : R = (0, 3) := by rw [hR, if_neg hj0]; exact if_neg hna
                subst hR'
                first | (exfalso; omega) | skip
                all_goals
                  sym =>
                  simp [Zaa,Zab,Zac,Zad,Zae,Zaf,Zag,Zah,Zai,Zak,Zal,Zam,Zan,Zao,Zap,Zaq,Zav,Zaw,Zay,Zaz,Za0,Za1,Za2,Za3,Za4,Za5,Za6,Za7,Zrh,Za8,Za9,Zba,Zbb,Zbc,Zbd,Zbf,Zbg,Zbj,Zbl,Zbt,Zbu,Zb1,Zb2,Zb8,Zci,Zcn,Zc7,Zc8,Zdc,Zdd,Zde,Zdf,Zdg,Zdh,Zdi,Zdj,Zdk,Zdo,Zdp,Zdt,Zdu,Zdv,Zdw,Zdx,Zdy,Zd0,Zd1,Zd2,Zeb,Zee,Zep,Zeq,Zet,Zev,Zew,Zex,Zez,Ze0,Ze2,Ze5,Zfd,Zfe,Zfh,Zfi,Zfj,Zfk,Zfl,Zfn,Zfq,Zfr,Zfs,Zfz,Zf1,Zf2,Zf4,Zgd,Zgg,Zgh,Zgi,Zgr,Zgu,Zg4,Zg6,Zhb,Zhc,Zhm,Zhn,Zho,Zhs,Zht,Zhu,Zh6,Zh7,Zjq,Zjv,Zjw,Zky,Zkz,Zk0,Zk2,Zla,Zlb,Zle,Zlj,Zll,Zlz,Zmt,Zmv,Zmw,Zmx,Zmz,Zm3,Zm6,Zm9,Zna,Znb,Zne,Znf,Zng,Znh,Zns,Znt,Znu,Znv,Znw,Znx,Zny,Zn5,Zof,Zog,Zrd,Zos,Zot,Zo3,Zo4,Zo6,Zo7,Zo8,Zo9,Zpb,Zpc,Zpi,Zp9,Zqd,Zqe,Zqf,Zqg,Zqh,Zqm,Zqr,List.append_assoc,List.length_drop,eq_self,true_and,and_true,Nat.add_zero,Nat.mul_one,h2,hge,hc,hc2,hj0]
                  tactic =>
                all_goals
                  refine ⟨by omega, by omega, by omega, by omega, endA ?_⟩
                  sym =>
                  simp [Zaa,Zab,Zac,Zad,Zae,Zaf,Zag,Zah,Zai,Zak,Zal,Zam,Zan,Zao,Zap,Zaq,Zav,Zaw,Zay,Zaz,Za0,Za1,Za2,Za3,Za4,Za5,Za6,Za7,Zrh,Za8,Za9,Zba,Zbb,Zbc,Zbd,Zbf,Zbg,Zbj,Zbl,Zbt,Zbu,Zb1,Zb2,Zb8,Zci,Zcn,Zc7,Zc8,Zdc,Zdd,Zde,Zdf,Zdg,Zdh,Zdi,Zdj,Zdk,Zdo,Zdp,Zdt,Zdu,Zdv,Zdw,Zdx,Zdy,Zd0,Zd1,Zd2,Zeb,Zee,Zep,Zeq,Zet,Zev,Zew,Zex,Zez,Ze0,Ze2,Ze5,Zfd,Zfe,Zfh,Zfi,Zfj,Zfk,Zfl,Zfn,Zfq,Zfr,Zfs,Zfz,Zf1,Zf2,Zf4,Zgd,Zgg,Zgh,Zgi,Zgr,Zgu,Zg4,Zg6,Zhb,Zhc,Zhm,Zhn,Zho,Zhs,Zht,Zhu,Zh6,Zh7,Zjq,Zjv,Zjw,Zky,Zkz,Zk0,Zk2,Zla,Zlb,Zle,Zlj,Zll,Zlz,Zmt,Zmv,Zmw,Zmx,Zmz,Zm3,Zm6,Zm9,Zna,Znb,Zne,Znf,Zng,Znh,Zns,Znt,Znu,Znv,Znw,Znx,Zny,Zn5,Zof,Zog,Zrd,Zos,Zot,Zo3,Zo4,Zo6,Zo7,Zo8,Zo9,Zpb,Zpc,Zpi,Zp9,Zqd,Zqe,Zqf,Zqg,Zqh,Zqm,Zqr,List.append_assoc,List.length_drop,eq_self,true_and,and_true,Nat.add_zero,Nat.mul_one]
        · obtain rfl : i2 = b.length := by omega
          rw [List.drop_of_length_le (Nat.le_refl _)] at hu3
          have hall : (r.drop j).all blk = true := List.all_eq_true.2 ((dw_nil blk (r.drop j)).1 hu3.symm)
          by_cases hj0 : j = 0
          · have hR' : R = (0, 3) := by rw [hR, if_pos hj0]
            subst hR'
            first | (exfalso; omega) | skip
            all_goals
              sym =>
              simp [Zaa,Zab,Zac,Zad,Zae,Zaf,Zag,Zah,Zai,Zak,Zal,Zam,Zan,Zao,Zap,Zaq,Zav,Zaw,Zay,Zaz,Za0,Za1,Za2,Za3,Za4,Za5,Za6,Za7,Zrh,Za8,Za9,Zba,Zbb,Zbc,Zbd,Zbf,Zbg,Zbj,Zbl,Zbt,Zbu,Zb1,Zb2,Zb8,Zci,Zcn,Zc7,Zc8,Zdc,Zdd,Zde,Zdf,Zdg,Zdh,Zdi,Zdj,Zdk,Zdo,Zdp,Zdt,Zdu,Zdv,Zdw,Zdx,Zdy,Zd0,Zd1,Zd2,Zeb,Zee,Zep,Zeq,Zet,Zev,Zew,Zex,Zez,Ze0,Ze2,Ze5,Zfd,Zfe,Zfh,Zfi,Zfj,Zfk,Zfl,Zfn,Zfq,Zfr,Zfs,Zfz,Zf1,Zf2,Zf4,Zgd,Zgg,Zgh,Zgi,Zgr,Zgu,Zg4,Zg6,Zhb,Zhc,Zhm,Zhn,Zho,Zhs,Zht,Zhu,Zh6,Zh7,Zjq,Zjv,Zjw,Zky,Zkz,Zk0,Zk2,Zla,Zlb,Zle,Zlj,Zll,Zlz,Zmt,Zmv,Zmw,Zmx,Zmz,Zm3,Zm6,Zm9,Zna,Znb,Zne,Znf,Zng,Znh,Zns,Znt,Znu,Znv,Znw,Znx,Zny,Zn5,Zof,Zog,Zrd,Zos,Zot,Zo3,Zo4,Zo6,Zo7,Zo8,Zo9,Zpb,Zpc,Zpi,Zp9,Zqd,Zqe,Zqf,Zqg,Zqh,Zqm,Zqr,List.append_assoc,List.length_drop,eq_self,true_and,and_true,Nat.add_zero,Nat.mul_one,h2,hj0]
              tactic =>
            all_goals
              refine endA ?_
              sym =>
              simp [Zaa,Zab,Zac,Zad,Zae,Zaf,Zag,Zah,Zai,Zak,Zal,Zam,Zan,Zao,Zap,Zaq,Zav,Zaw,Zay,Zaz,Za0,Za1,Za2,Za3,Za4,Za5,Za6,Za7,Zrh,Za8,Za9,Zba,Zbb,Zbc,Zbd,Zbf,Zbg,Zbj,Zbl,Zbt,Zbu,Zb1,Zb2,Zb8,Zci,Zcn,Zc7,Zc8,Zdc,Zdd,Zde,Zdf,Zdg,Zdh,Zdi,Zdj,Zdk,Zdo,Zdp,Zdt,Zdu,Zdv,Zdw,Zdx,Zdy,Zd0,Zd1,Zd2,Zeb,Zee,Zep,Zeq,Zet,Zev,Zew,Zex,Zez,Ze0,Ze2,Ze5,Zfd,Zfe,Zfh,Zfi,Zfj,Zfk,Zfl,Zfn,Zfq,Zfr,Zfs,Zfz,Zf1,Zf2,Zf4,Zgd,Zgg,Zgh,Zgi,Zgr,Zgu,Zg4,Zg6,Zhb,Zhc,Zhm,Zhn,Zho,Zhs,Zht,Zhu,Zh6,Zh7,Zjq,Zjv,Zjw,Zky,Zkz,Zk0,Zk2,Zla,Zlb,Zle,Zlj,Zll,Zlz,Zmt,Zmv,Zmw,Zmx,Zmz,Zm3,Zm6,Zm9,Zna,Znb,Zne,Znf,Zng,Znh,Zns,Znt,Znu,Znv,Znw,Znx,Zny,Zn5,Zof,Zog,Zrd,Zos,Zot,Zo3,Zo4,Zo6,Zo7,Zo8,Zo9,Zpb,Zpc,Zpi,Zp9,Zqd,Zqe,Zqf,Zqg,Zqh,Zqm,Zqr,List.append_assoc,List.length_drop,eq_self,true_and,and_true,Nat.add_zero,Nat.mul_one]
          · have hR' : R = (n, 0) := by rw [hR, if_neg hj0]; exact if_pos hall
            subst hR'
            first | (exfalso; omega) | skip
            all_goals
              sym =>
              simp [Zaa,Zab,Zac,Zad,Zae,Zaf,Zag,Zah,Zai,Zak,Zal,Zam,Zan,Zao,Zap,Zaq,Zav,Zaw,Zay,Zaz,Za0,Za1,Za2,Za3,Za4,Za5,Za6,Za7,Zrh,Za8,Za9,Zba,Zbb,Zbc,Zbd,Zbf,Zbg,Zbj,Zbl,Zbt,Zbu,Zb1,Zb2,Zb8,Zci,Zcn,Zc7,Zc8,Zdc,Zdd,Zde,Zdf,Zdg,Zdh,Zdi,Zdj,Zdk,Zdo,Zdp,Zdt,Zdu,Zdv,Zdw,Zdx,Zdy,Zd0,Zd1,Zd2,Zeb,Zee,Zep,Zeq,Zet,Zev,Zew,Zex,Zez,Ze0,Ze2,Ze5,Zfd,Zfe,Zfh,Zfi,Zfj,Zfk,Zfl,Zfn,Zfq,Zfr,Zfs,Zfz,Zf1,Zf2,Zf4,Zgd,Zgg,Zgh,Zgi,Zgr,Zgu,Zg4,Zg6,Zhb,Zhc,Zhm,Zhn,Zho,Zhs,Zht,Zhu,Zh6,Zh7,Zjq,Zjv,Zjw,Zky,Zkz,Zk0,Zk2,Zla,Zlb,Zle,Zlj,Zll,Zlz,Zmt,Zmv,Zmw,Zmx,Zmz,Zm3,Zm6,Zm9,Zna,Znb,Zne,Znf,Zng,Znh,Zns,Znt,Znu,Znv,Znw,Znx,Zny,Zn5,Zof,Zog,Zrd,Zos,Zot,Zo3,Zo4,Zo6,Zo7,Zo8,Zo9,Zpb,Zpc,Zpi,Zp9,Zqd,Zqe,Zqf,Zqg,Zqh,Zqm,Zqr,List.append_assoc,List.length_drop,eq_self,true_and,and_true,Nat.add_zero,Nat.mul_one,h2,hj0]
              tactic =>
            all_goals
              refine endA ?_
              sym =>
              simp [Zaa,Zab,Zac,Zad,Zae,Zaf,Zag,Zah,Zai,Zak,Zal,Zam,Zan,Zao,Zap,Zaq,Zav,Zaw,Zay,Zaz,Za0,Za1,Za2,Za3,Za4,Za5,Za6,Za7,Zrh,Za8,Za9,Zba,Zbb,Zbc,Zbd,Zbf,Zbg,Zbj,Zbl,Zbt,Zbu,Zb1,Zb2,Zb8,Zci,Zcn,Zc7,Zc8,Zdc,Zdd,Zde,Zdf,Zdg,Zdh,Zdi,Zdj,Zdk,Zdo,Zdp,Zdt,Zdu,Zdv,Zdw,Zdx,Zdy,Zd0,Zd1,Zd2,Zeb,Zee,Zep,Zeq,Zet,Zev,Zew,Zex,Zez,Ze0,Ze2,Ze5,Zfd,Zfe,Zfh,Zfi,Zfj,Zfk,Zfl,Zfn,Zfq,Zfr,Zfs,Zfz,Zf1,Zf2,Zf4,Zgd,Zgg,Zgh,Zgi,Zgr,Zgu,Zg4,Zg6,Zhb,Zhc,Zhm,Zhn,Zho,Zhs,Zht,Zhu,Zh6,Zh7,Zjq,Zjv,Zjw,Zky,Zkz,Zk0,Zk2,Zla,Zlb,Zle,Zlj,Zll,Zlz,Zmt,Zmv,Zmw,Zmx,Zmz,Zm3,Zm6,Zm9,Zna,Znb,Zne,Znf,Zng,Znh,Zns,Znt,Znu,Znv,Znw,Znx,Zny,Zn5,Zof,Zog,Zrd,Zos,Zot,Zo3,Zo4,Zo6,Zo7,Zo8,Zo9,Zpb,Zpc,Zpi,Zp9,Zqd,Zqe,Zqf,Zqg,Zqh,Zqm,Zqr,List.append_assoc,List.length_drop,eq_self,true_and,and_true,Nat.add_zero,Nat.mul_one]
  · obtain rfl : i = b.length := by omega
    have hu2 : b.drop b.length = r := by rw [← hu, List.drop_of_length_le (Nat.le_refl _)]; rfl
    sym =>
    simp [Zaa,Zab,Zac,Zad,Zae,Zaf,Zag,Zah,Zai,Zak,Zal,Zam,Zan,Zao,Zap,Zaq,Zav,Zaw,Zay,Zaz,Za0,Za1,Za2,Za3,Za4,Za5,Za6,Za7,Zrh,Za8,Za9,Zba,Zbb,Zbc,Zbd,Zbf,Zbg,Zbj,Zbl,Zbt,Zbu,Zb1,Zb2,Zb8,Zci,Zcn,Zc7,Zc8,Zdc,Zdd,Zde,Zdf,Zdg,Zdh,Zdi,Zdj,Zdk,Zdo,Zdp,Zdt,Zdu,Zdv,Zdw,Zdx,Zdy,Zd0,Zd1,Zd2,Zeb,Zee,Zep,Zeq,Zet,Zev,Zew,Zex,Zez,Ze0,Ze2,Ze5,Zfd,Zfe,Zfh,Zfi,Zfj,Zfk,Zfl,Zfn,Zfq,Zfr,Zfs,Zfz,Zf1,Zf2,Zf4,Zgd,Zgg,Zgh,Zgi,Zgr,Zgu,Zg4,Zg6,Zhb,Zhc,Zhm,Zhn,Zho,Zhs,Zht,Zhu,Zh6,Zh7,Zjq,Zjv,Zjw,Zky,Zkz,Zk0,Zk2,Zla,Zlb,Zle,Zlj,Zll,Zlz,Zmt,Zmv,Zmw,Zmx,Zmz,Zm3,Zm6,Zm9,Zna,Znb,Zne,Znf,Zng,Znh,Zns,Znt,Znu,Znv,Znw,Znx,Zny,Zn5,Zof,Zog,Zrd,Zos,Zot,Zo3,Zo4,Zo6,Zo7,Zo8,Zo9,Zpb,Zpc,Zpi,Zp9,Zqd,Zqe,Zqf,Zqg,Zqh,Zqm,Zqr,List.append_assoc,List.length_drop,eq_self,true_and,and_true,Nat.add_zero,Nat.mul_one,h]
    tactic =>
    obtain ⟨i, hil⟩ : ∃ i, i = b.length := ⟨_, rfl⟩
    rw [← hil] at hu2
    have e5 : IN b.length = IN i := by rw [hil]
    rw [e5]
    have hi0 : i ≤ b.length := by omega
    have hrl2 : r.length = b.length - i := by rw [← hu2, List.length_drop]
    refine lpA (j18 b r i Z) r.length [] _ ⟨0, 0, by omega, rfl, hZ.symm, by omega, by decide, rfl⟩ (wkA ?_) ?_
    · sym =>
      simp [Zaa,Zab,Zac,Zad,Zae,Zaf,Zag,Zah,Zai,Zak,Zal,Zam,Zan,Zao,Zap,Zaq,Zav,Zaw,Zay,Zaz,Za0,Za1,Za2,Za3,Za4,Za5,Za6,Za7,Zrh,Za8,Za9,Zba,Zbb,Zbc,Zbd,Zbf,Zbg,Zbj,Zbl,Zbt,Zbu,Zb1,Zb2,Zb8,Zci,Zcn,Zc7,Zc8,Zdc,Zdd,Zde,Zdf,Zdg,Zdh,Zdi,Zdj,Zdk,Zdo,Zdp,Zdt,Zdu,Zdv,Zdw,Zdx,Zdy,Zd0,Zd1,Zd2,Zeb,Zee,Zep,Zeq,Zet,Zev,Zew,Zex,Zez,Ze0,Ze2,Ze5,Zfd,Zfe,Zfh,Zfi,Zfj,Zfk,Zfl,Zfn,Zfq,Zfr,Zfs,Zfz,Zf1,Zf2,Zf4,Zgd,Zgg,Zgh,Zgi,Zgr,Zgu,Zg4,Zg6,Zhb,Zhc,Zhm,Zhn,Zho,Zhs,Zht,Zhu,Zh6,Zh7,Zjq,Zjv,Zjw,Zky,Zkz,Zk0,Zk2,Zla,Zlb,Zle,Zlj,Zll,Zlz,Zmt,Zmv,Zmw,Zmx,Zmz,Zm3,Zm6,Zm9,Zna,Znb,Zne,Znf,Zng,Znh,Zns,Znt,Znu,Znv,Znw,Znx,Zny,Zn5,Zof,Zog,Zrd,Zos,Zot,Zo3,Zo4,Zo6,Zo7,Zo8,Zo9,Zpb,Zpc,Zpi,Zp9,Zqd,Zqe,Zqf,Zqg,Zqh,Zqm,Zqr,List.append_assoc,List.length_drop,eq_self,true_and,and_true,Nat.add_zero,Nat.mul_one]
    rintro k s ⟨j, n, hkj, hu, hv, hn0, hn8, rfl⟩
    by_cases hj : j < r.length
    · exact absurd hj (by omega)
    · have hE : digF r = r.take j := by
        rw [List.drop_of_length_le (by omega)] at hu
        rw [← hu]; exact List.append_nil _
      have hZn : n = Z := by
        rw [List.drop_of_length_le (by omega)] at hv
        exact hv
      have hnl : ¬ i + j < b.length := by omega
      sym =>
      simp [Zaa,Zab,Zac,Zad,Zae,Zaf,Zag,Zah,Zai,Zak,Zal,Zam,Zan,Zao,Zap,Zaq,Zav,Zaw,Zay,Zaz,Za0,Za1,Za2,Za3,Za4,Za5,Za6,Za7,Zrh,Za8,Za9,Zba,Zbb,Zbc,Zbd,Zbf,Zbg,Zbj,Zbl,Zbt,Zbu,Zb1,Zb2,Zb8,Zci,Zcn,Zc7,Zc8,Zdc,Zdd,Zde,Zdf,Zdg,Zdh,Zdi,Zdj,Zdk,Zdo,Zdp,Zdt,Zdu,Zdv,Zdw,Zdx,Zdy,Zd0,Zd1,Zd2,Zeb,Zee,Zep,Zeq,Zet,Zev,Zew,Zex,Zez,Ze0,Ze2,Ze5,Zfd,Zfe,Zfh,Zfi,Zfj,Zfk,Zfl,Zfn,Zfq,Zfr,Zfs,Zfz,Zf1,Zf2,Zf4,Zgd,Zgg,Zgh,Zgi,Zgr,Zgu,Zg4,Zg6,Zhb,Zhc,Zhm,Zhn,Zho,Zhs,Zht,Zhu,Zh6,Zh7,Zjq,Zjv,Zjw,Zky,Zkz,Zk0,Zk2,Zla,Zlb,Zle,Zlj,Zll,Zlz,Zmt,Zmv,Zmw,Zmx,Zmz,Zm3,Zm6,Zm9,Zna,Znb,Zne,Znf,Zng,Znh,Zns,Znt,Znu,Znv,Znw,Znx,Zny,Zn5,Zof,Zog,Zrd,Zos,Zot,Zo3,Zo4,Zo6,Zo7,Zo8,Zo9,Zpb,Zpc,Zpi,Zp9,Zqd,Zqe,Zqf,Zqg,Zqh,Zqm,Zqr,List.append_assoc,List.length_drop,eq_self,true_and,and_true,Nat.add_zero,Nat.mul_one,hnl]
      tactic =>
      have hjl : (digF r).length = j := by rw [hE, List.length_take]; omega
      have htd : b.drop (i + j) = r.drop j := by rw [← hu2, List.drop_drop]
      rw [hE, List.length_take, Nat.min_eq_left (show j ≤ r.length by omega)] at hR
      subst hZn
      refine lpA (k18 b (r.drop j) n j) (b.length - (i + j)) [] _ ⟨i + j, by omega, by rw [htd], rfl⟩ (wkA ?_) ?_
      · sym =>
        simp [Zaa,Zab,Zac,Zad,Zae,Zaf,Zag,Zah,Zai,Zak,Zal,Zam,Zan,Zao,Zap,Zaq,Zav,Zaw,Zay,Zaz,Za0,Za1,Za2,Za3,Za4,Za5,Za6,Za7,Zrh,Za8,Za9,Zba,Zbb,Zbc,Zbd,Zbf,Zbg,Zbj,Zbl,Zbt,Zbu,Zb1,Zb2,Zb8,Zci,Zcn,Zc7,Zc8,Zdc,Zdd,Zde,Zdf,Zdg,Zdh,Zdi,Zdj,Zdk,Zdo,Zdp,Zdt,Zdu,Zdv,Zdw,Zdx,Zdy,Zd0,Zd1,Zd2,Zeb,Zee,Zep,Zeq,Zet,Zev,Zew,Zex,Zez,Ze0,Ze2,Ze5,Zfd,Zfe,Zfh,Zfi,Zfj,Zfk,Zfl,Zfn,Zfq,Zfr,Zfs,Zfz,Zf1,Zf2,Zf4,Zgd,Zgg,Zgh,Zgi,Zgr,Zgu,Zg4,Zg6,Zhb,Zhc,Zhm,Zhn,Zho,Zhs,Zht,Zhu,Zh6,Zh7,Zjq,Zjv,Zjw,Zky,Zkz,Zk0,Zk2,Zla,Zlb,Zle,Zlj,Zll,Zlz,Zmt,Zmv,Zmw,Zmx,Zmz,Zm3,Zm6,Zm9,Zna,Znb,Zne,Znf,Zng,Znh,Zns,Znt,Znu,Znv,Znw,Znx,Zny,Zn5,Zof,Zog,Zrd,Zos,Zot,Zo3,Zo4,Zo6,Zo7,Zo8,Zo9,Zpb,Zpc,Zpi,Zp9,Zqd,Zqe,Zqf,Zqg,Zqh,Zqm,Zqr,List.append_assoc,List.length_drop,eq_self,true_and,and_true,Nat.add_zero,Nat.mul_one]
      rintro k s ⟨i2, hk2, hu3, rfl⟩
      by_cases h2 : i2 < b.length
      · have hw := w64s i2 (by omega)
        have hge := cB_get b i2 h2
        have hds := drop_stepD b i2 h2
        obtain ⟨c, hc0⟩ : ∃ c, c = b.getD i2 0 := ⟨_, rfl⟩
        rw [← hc0] at hge hds
        rw [hds] at hu3
        by_cases hc : c = 0
        · have hbk : blk c = true := by rw [hc]; rfl
          have hu4 : (b.drop (i2 + 1)).dropWhile blk = (r.drop j).dropWhile blk := by rw [← hu3, List.dropWhile_cons_of_pos hbk]
          sym =>
          simp [Zaa,Zab,Zac,Zad,Zae,Zaf,Zag,Zah,Zai,Zak,Zal,Zam,Zan,Zao,Zap,Zaq,Zav,Zaw,Zay,Zaz,Za0,Za1,Za2,Za3,Za4,Za5,Za6,Za7,Zrh,Za8,Za9,Zba,Zbb,Zbc,Zbd,Zbf,Zbg,Zbj,Zbl,Zbt,Zbu,Zb1,Zb2,Zb8,Zci,Zcn,Zc7,Zc8,Zdc,Zdd,Zde,Zdf,Zdg,Zdh,Zdi,Zdj,Zdk,Zdo,Zdp,Zdt,Zdu,Zdv,Zdw,Zdx,Zdy,Zd0,Zd1,Zd2,Zeb,Zee,Zep,Zeq,Zet,Zev,Zew,Zex,Zez,Ze0,Ze2,Ze5,Zfd,Zfe,Zfh,Zfi,Zfj,Zfk,Zfl,Zfn,Zfq,Zfr,Zfs,Zfz,Zf1,Zf2,Zf4,Zgd,Zgg,Zgh,Zgi,Zgr,Zgu,Zg4,Zg6,Zhb,Zhc,Zhm,Zhn,Zho,Zhs,Zht,Zhu,Zh6,Zh7,Zjq,Zjv,Zjw,Zky,Zkz,Zk0,Zk2,Zla,Zlb,Zle,Zlj,Zll,Zlz,Zmt,Zmv,Zmw,Zmx,Zmz,Zm3,Zm6,Zm9,Zna,Znb,Zne,Znf,Zng,Znh,Zns,Znt,Znu,Znv,Znw,Znx,Zny,Zn5,Zof,Zog,Zrd,Zos,Zot,Zo3,Zo4,Zo6,Zo7,Zo8,Zo9,Zpb,Zpc,Zpi,Zp9,Zqd,Zqe,Zqf,Zqg,Zqh,Zqm,Zqr,List.append_assoc,List.length_drop,eq_self,true_and,and_true,Nat.add_zero,Nat.mul_one,h2,hw,hge,hc]
          tactic =>
          all_goals
            refine ⟨by omega, by omega, ?_⟩
            unfold NextL; refine ⟨(k - 1), [], _, by omega, ⟨i2 + 1, by omega, hu4, rfl⟩, wkA ?_⟩
            sym =>
            simp [Zaa,Zab,Zac,Zad,Zae,Zaf,Zag,Zah,Zai,Zak,Zal,Zam,Zan,Zao,Zap,Zaq,Zav,Zaw,Zay,Zaz,Za0,Za1,Za2,Za3,Za4,Za5,Za6,Za7,Zrh,Za8,Za9,Zba,Zbb,Zbc,Zbd,Zbf,Zbg,Zbj,Zbl,Zbt,Zbu,Zb1,Zb2,Zb8,Zci,Zcn,Zc7,Zc8,Zdc,Zdd,Zde,Zdf,Zdg,Zdh,Zdi,Zdj,Zdk,Zdo,Zdp,Zdt,Zdu,Zdv,Zdw,Zdx,Zdy,Zd0,Zd1,Zd2,Zeb,Zee,Zep,Zeq,Zet,Zev,Zew,Zex,Zez,Ze0,Ze2,Ze5,Zfd,Zfe,Zfh,Zfi,Zfj,Zfk,Zfl,Zfn,Zfq,Zfr,Zfs,Zfz,Zf1,Zf2,Zf4,Zgd,Zgg,Zgh,Zgi,Zgr,Zgu,Zg4,Zg6,Zhb,Zhc,Zhm,Zhn,Zho,Zhs,Zht,Zhu,Zh6,Zh7,Zjq,Zjv,Zjw,Zky,Zkz,Zk0,Zk2,Zla,Zlb,Zle,Zlj,Zll,Zlz,Zmt,Zmv,Zmw,Zmx,Zmz,Zm3,Zm6,Zm9,Zna,Znb,Zne,Znf,Zng,Znh,Zns,Znt,Znu,Znv,Znw,Znx,Zny,Zn5,Zof,Zog,Zrd,Zos,Zot,Zo3,Zo4,Zo6,Zo7,Zo8,Zo9,Zpb,Zpc,Zpi,Zp9,Zqd,Zqe,Zqf,Zqg,Zqh,Zqm,Zqr,List.append_assoc,List.length_drop,eq_self,true_and,and_true,Nat.add_zero,Nat.mul_one]
        · by_cases hc2 : c = 32
          · have hbk : blk c = true := by rw [hc2]; rfl
            have hu4 : (b.drop (i2 + 1)).dropWhile blk = (r.drop j).dropWhile blk := by rw [← hu3, List.dropWhile_cons_of_pos hbk]
            sym =>
            simp [Zaa,Zab,Zac,Zad,Zae,Zaf,Zag,Zah,Zai,Zak,Zal,Zam,Zan,Zao,Zap,Zaq,Zav,Zaw,Zay,Zaz,Za0,Za1,Za2,Za3,Za4,Za5,Za6,Za7,Zrh,Za8,Za9,Zba,Zbb,Zbc,Zbd,Zbf,Zbg,Zbj,Zbl,Zbt,Zbu,Zb1,Zb2,Zb8,Zci,Zcn,Zc7,Zc8,Zdc,Zdd,Zde,Zdf,Zdg,Zdh,Zdi,Zdj,Zdk,Zdo,Zdp,Zdt,Zdu,Zdv,Zdw,Zdx,Zdy,Zd0,Zd1,Zd2,Zeb,Zee,Zep,Zeq,Zet,Zev,Zew,Zex,Zez,Ze0,Ze2,Ze5,Zfd,Zfe,Zfh,Zfi,Zfj,Zfk,Zfl,Zfn,Zfq,Zfr,Zfs,Zfz,Zf1,Zf2,Zf4,Zgd,Zgg,Zgh,Zgi,Zgr,Zgu,Zg4,Zg6,Zhb,Zhc,Zhm,Zhn,Zho,Zhs,Zht,Zhu,Zh6,Zh7,Zjq,Zjv,Zjw,Zky,Zkz,Zk0,Zk2,Zla,Zlb,Zle,Zlj,Zll,Zlz,Zmt,Zmv,Zmw,Zmx,Zmz,Zm3,Zm6,Zm9,Zna,Znb,Zne,Znf,Zng,Znh,Zns,Znt,Znu,Znv,Znw,Znx,Zny,Zn5,Zof,Zog,Zrd,Zos,Zot,Zo3,Zo4,Zo6,Zo7,Zo8,Zo9,Zpb,Zpc,Zpi,Zp9,Zqd,Zqe,Zqf,Zqg,Zqh,Zqm,Zqr,List.append_assoc,List.length_drop,eq_self,true_and,and_true,Nat.add_zero,Nat.mul_one,h2,hw,hge,hc,hc2]
            tactic =>
            all_goals
              refine ⟨by omega, by omega, by omega, by omega, ?_⟩
              unfold NextL; refine ⟨(k - 1), [], _, by omega, ⟨i2 + 1, by omega, hu4, rfl⟩, wkA ?_⟩
              sym =>
              simp [Zaa,Zab,Zac,Zad,Zae,Zaf,Zag,Zah,Zai,Zak,Zal,Zam,Zan,Zao,Zap,Zaq,Zav,Zaw,Zay,Zaz,Za0,Za1,Za2,Za3,Za4,Za5,Za6,Za7,Zrh,Za8,Za9,Zba,Zbb,Zbc,Zbd,Zbf,Zbg,Zbj,Zbl,Zbt,Zbu,Zb1,Zb2,Zb8,Zci,Zcn,Zc7,Zc8,Zdc,Zdd,Zde,Zdf,Zdg,Zdh,Zdi,Zdj,Zdk,Zdo,Zdp,Zdt,Zdu,Zdv,Zdw,Zdx,Zdy,Zd0,Zd1,Zd2,Zeb,Zee,Zep,Zeq,Zet,Zev,Zew,Zex,Zez,Ze0,Ze2,Ze5,Zfd,Zfe,Zfh,Zfi,Zfj,Zfk,Zfl,Zfn,Zfq,Zfr,Zfs,Zfz,Zf1,Zf2,Zf4,Zgd,Zgg,Zgh,Zgi,Zgr,Zgu,Zg4,Zg6,Zhb,Zhc,Zhm,Zhn,Zho,Zhs,Zht,Zhu,Zh6,Zh7,Zjq,Zjv,Zjw,Zky,Zkz,Zk0,Zk2,Zla,Zlb,Zle,Zlj,Zll,Zlz,Zmt,Zmv,Zmw,Zmx,Zmz,Zm3,Zm6,Zm9,Zna,Znb,Zne,Znf,Zng,Znh,Zns,Znt,Znu,Znv,Znw,Znx,Zny,Zn5,Zof,Zog,Zrd,Zos,Zot,Zo3,Zo4,Zo6,Zo7,Zo8,Zo9,Zpb,Zpc,Zpi,Zp9,Zqd,Zqe,Zqf,Zqg,Zqh,Zqm,Zqr,List.append_assoc,List.length_drop,eq_self,true_and,and_true,Nat.add_zero,Nat.mul_one]
          · have hbk : ¬ blk c = true := by
              show ¬ NumA.blank c = true
              unfold NumA.blank
              rw [if_neg hc2, decide_eq_false hc]
              decide
            have hna : ¬ (r.drop j).all blk = true := by
              intro ha
              rw [List.dropWhile_cons_of_neg hbk] at hu3
              have := (dw_nil blk (r.drop j)).2 (List.all_eq_true.1 ha)
              rw [this] at hu3
              cases hu3
            by_cases hj0 : j = 0
            · have hR' : R = (0, 3) := by rw [hR, if_pos hj0]
              subst hR'
              first | (exfalso; omega) | skip
              all_goals
                sym =>
                simp [Zaa,Zab,Zac,Zad,Zae,Zaf,Zag,Zah,Zai,Zak,Zal,Zam,Zan,Zao,Zap,Zaq,Zav,Zaw,Zay,Zaz,Za0,Za1,Za2,Za3,Za4,Za5,Za6,Za7,Zrh,Za8,Za9,Zba,Zbb,Zbc,Zbd,Zbf,Zbg,Zbj,Zbl,Zbt,Zbu,Zb1,Zb2,Zb8,Zci,Zcn,Zc7,Zc8,Zdc,Zdd,Zde,Zdf,Zdg,Zdh,Zdi,Zdj,Zdk,Zdo,Zdp,Zdt,Zdu,Zdv,Zdw,Zdx,Zdy,Zd0,Zd1,Zd2,Zeb,Zee,Zep,Zeq,Zet,Zev,Zew,Zex,Zez,Ze0,Ze2,Ze5,Zfd,Zfe,Zfh,Zfi,Zfj,Zfk,Zfl,Zfn,Zfq,Zfr,Zfs,Zfz,Zf1,Zf2,Zf4,Zgd,Zgg,Zgh,Zgi,Zgr,Zgu,Zg4,Zg6,Zhb,Zhc,Zhm,Zhn,Zho,Zhs,Zht,Zhu,Zh6,Zh7,Zjq,Zjv,Zjw,Zky,Zkz,Zk0,Zk2,Zla,Zlb,Zle,Zlj,Zll,Zlz,Zmt,Zmv,Zmw,Zmx,Zmz,Zm3,Zm6,Zm9,Zna,Znb,Zne,Znf,Zng,Znh,Zns,Znt,Znu,Znv,Znw,Znx,Zny,Zn5,Zof,Zog,Zrd,Zos,Zot,Zo3,Zo4,Zo6,Zo7,Zo8,Zo9,Zpb,Zpc,Zpi,Zp9,Zqd,Zqe,Zqf,Zqg,Zqh,Zqm,Zqr,List.append_assoc,List.length_drop,eq_self,true_and,and_true,Nat.add_zero,Nat.mul_one,h2,hge,hc,hc2,hj0]
                tactic =>
              all_goals
                refine ⟨by omega, by omega, by omega, by omega, endA ?_⟩
                sym =>
                simp [Zaa,Zab,Zac,Zad,Zae,Zaf,Zag,Zah,Zai,Zak,Zal,Zam,Zan,Zao,Zap,Zaq,Zav,Zaw,Zay,Zaz,Za0,Za1,Za2,Za3,Za4,Za5,Za6,Za7,Zrh,Za8,Za9,Zba,Zbb,Zbc,Zbd,Zbf,Zbg,Zbj,Zbl,Zbt,Zbu,Zb1,Zb2,Zb8,Zci,Zcn,Zc7,Zc8,Zdc,Zdd,Zde,Zdf,Zdg,Zdh,Zdi,Zdj,Zdk,Zdo,Zdp,Zdt,Zdu,Zdv,Zdw,Zdx,Zdy,Zd0,Zd1,Zd2,Zeb,Zee,Zep,Zeq,Zet,Zev,Zew,Zex,Zez,Ze0,Ze2,Ze5,Zfd,Zfe,Zfh,Zfi,Zfj,Zfk,Zfl,Zfn,Zfq,Zfr,Zfs,Zfz,Zf1,Zf2,Zf4,Zgd,Zgg,Zgh,Zgi,Zgr,Zgu,Zg4,Zg6,Zhb,Zhc,Zhm,Zhn,Zho,Zhs,Zht,Zhu,Zh6,Zh7,Zjq,Zjv,Zjw,Zky,Zkz,Zk0,Zk2,Zla,Zlb,Zle,Zlj,Zll,Zlz,Zmt,Zmv,Zmw,Zmx,Zmz,Zm3,Zm6,Zm9,Zna,Znb,Zne,Znf,Zng,Znh,Zns,Znt,Znu,Znv,Znw,Znx,Zny,Zn5,Zof,Zog,Zrd,Zos,Zot,Zo3,Zo4,Zo6,Zo7,Zo8,Zo9,Zpb,Zpc,Zpi,Zp9,Zqd,Zqe,Zqf,Zqg,Zqh,Zqm,Zqr,List.append_assoc,List.length_drop,eq_self,true_and,and_true,Nat.add_zero,Nat.mul_one]
            · have hR' : R = (0, 3) := by rw [hR, if_neg hj0]; exact if_neg hna
              subst hR'
              first | (exfalso; omega) | skip
              all_goals
                sym =>
                simp [Zaa,Zab,Zac,Zad,Zae,Zaf,Zag,Zah,Zai,Zak,Zal,Zam,Zan,Zao,Zap,Zaq,Zav,Zaw,Zay,Zaz,Za0,Za1,Za2,Za3,Za4,Za5,Za6,Za7,Zrh,Za8,Za9,Zba,Zbb,Zbc,Zbd,Zbf,Zbg,Zbj,Zbl,Zbt,Zbu,Zb1,Zb2,Zb8,Zci,Zcn,Zc7,Zc8,Zdc,Zdd,Zde,Zdf,Zdg,Zdh,Zdi,Zdj,Zdk,Zdo,Zdp,Zdt,Zdu,Zdv,Zdw,Zdx,Zdy,Zd0,Zd1,Zd2,Zeb,Zee,Zep,Zeq,Zet,Zev,Zew,Zex,Zez,Ze0,Ze2,Ze5,Zfd,Zfe,Zfh,Zfi,Zfj,Zfk,Zfl,Zfn,Zfq,Zfr,Zfs,Zfz,Zf1,Zf2,Zf4,Zgd,Zgg,Zgh,Zgi,Zgr,Zgu,Zg4,Zg6,Zhb,Zhc,Zhm,Zhn,Zho,Zhs,Zht,Zhu,Zh6,Zh7,Zjq,Zjv,Zjw,Zky,Zkz,Zk0,Zk2,Zla,Zlb,Zle,Zlj,Zll,Zlz,Zmt,Zmv,Zmw,Zmx,Zmz,Zm3,Zm6,Zm9,Zna,Znb,Zne,Znf,Zng,Znh,Zns,Znt,Znu,Znv,Znw,Znx,Zny,Zn5,Zof,Zog,Zrd,Zos,Zot,Zo3,Zo4,Zo6,Zo7,Zo8,Zo9,Zpb,Zpc,Zpi,Zp9,Zqd,Zqe,Zqf,Zqg,Zqh,Zqm,Zqr,List.append_assoc,List.length_drop,eq_self,true_and,and_true,Nat.add_zero,Nat.mul_one,h2,hge,hc,hc2,hj0]
                tactic =>
              all_goals
                refine ⟨by omega, by omega, by omega, by omega, endA ?_⟩
                sym =>
                simp [Zaa,Zab,Zac,Zad,Zae,Zaf,Zag,Zah,Zai,Zak,Zal,Zam,Zan,Zao,Zap,Zaq,Zav,Zaw,Zay,Zaz,Za0,Za1,Za2,Za3,Za4,Za5,Za6,Za7,Zrh,Za8,Za9,Zba,Zbb,Zbc,Zbd,Zbf,Zbg,Zbj,Zbl,Zbt,Zbu,Zb1,Zb2,Zb8,Zci,Zcn,Zc7,Zc8,Zdc,Zdd,Zde,Zdf,Zdg,Zdh,Zdi,Zdj,Zdk,Zdo,Zdp,Zdt,Zdu,Zdv,Zdw,Zdx,Zdy,Zd0,Zd1,Zd2,Zeb,Zee,Zep,Zeq,Zet,Zev,Zew,Zex,Zez,Ze0,Ze2,Ze5,Zfd,Zfe,Zfh,Zfi,Zfj,Zfk,Zfl,Zfn,Zfq,Zfr,Zfs,Zfz,Zf1,Zf2,Zf4,Zgd,Zgg,Zgh,Zgi,Zgr,Zgu,Zg4,Zg6,Zhb,Zhc,Zhm,Zhn,Zho,Zhs,Zht,Zhu,Zh6,Zh7,Zjq,Zjv,Zjw,Zky,Zkz,Zk0,Zk2,Zla,Zlb,Zle,Zlj,Zll,Zlz,Zmt,Zmv,Zmw,Zmx,Zmz,Zm3,Zm6,Zm9,Zna,Znb,Zne,Znf,Zng,Znh,Zns,Znt,Znu,Znv,Znw,Znx,Zny,Zn5,Zof,Zog,Zrd,Zos,Zot,Zo3,Zo4,Zo6,Zo7,Zo8,Zo9,Zpb,Zpc,Zpi,Zp9,Zqd,Zqe,Zqf,Zqg,Zqh,Zqm,Zqr,List.append_assoc,List.length_drop,eq_self,true_and,and_true,Nat.add_zero,Nat.mul_one]
      · obtain rfl : i2 = b.length := by omega
        rw [List.drop_of_length_le (Nat.le_refl _)] at hu3
        have hall : (r.drop j).all blk = true := List.all_eq_true.2 ((dw_nil blk (r.drop j)).1 hu3.symm)
        by_cases hj0 : j = 0
        · have hR' : R = (0, 3) := by rw [hR, if_pos hj0]
          subst hR'
          first | (exfalso; omega) | skip
          all_goals
            sym =>
            simp [Zaa,Zab,Zac,Zad,Zae,Zaf,Zag,Zah,Zai,Zak,Zal,Zam,Zan,Zao,Zap,Zaq,Zav,Zaw,Zay,Zaz,Za0,Za1,Za2,Za3,Za4,Za5,Za6,Za7,Zrh,Za8,Za9,Zba,Zbb,Zbc,Zbd,Zbf,Zbg,Zbj,Zbl,Zbt,Zbu,Zb1,Zb2,Zb8,Zci,Zcn,Zc7,Zc8,Zdc,Zdd,Zde,Zdf,Zdg,Zdh,Zdi,Zdj,Zdk,Zdo,Zdp,Zdt,Zdu,Zdv,Zdw,Zdx,Zdy,Zd0,Zd1,Zd2,Zeb,Zee,Zep,Zeq,Zet,Zev,Zew,Zex,Zez,Ze0,Ze2,Ze5,Zfd,Zfe,Zfh,Zfi,Zfj,Zfk,Zfl,Zfn,Zfq,Zfr,Zfs,Zfz,Zf1,Zf2,Zf4,Zgd,Zgg,Zgh,Zgi,Zgr,Zgu,Zg4,Zg6,Zhb,Zhc,Zhm,Zhn,Zho,Zhs,Zht,Zhu,Zh6,Zh7,Zjq,Zjv,Zjw,Zky,Zkz,Zk0,Zk2,Zla,Zlb,Zle,Zlj,Zll,Zlz,Zmt,Zmv,Zmw,Zmx,Zmz,Zm3,Zm6,Zm9,Zna,Znb,Zne,Znf,Zng,Znh,Zns,Znt,Znu,Znv,Znw,Znx,Zny,Zn5,Zof,Zog,Zrd,Zos,Zot,Zo3,Zo4,Zo6,Zo7,Zo8,Zo9,Zpb,Zpc,Zpi,Zp9,Zqd,Zqe,Zqf,Zqg,Zqh,Zqm,Zqr,List.append_assoc,List.length_drop,eq_self,true_and,and_true,Nat.add_zero,Nat.mul_one,h2,hj0]
            tactic =>
          all_goals
            refine endA ?_
            sym =>
            simp [Zaa,Zab,Zac,Zad,Zae,Zaf,Zag,Zah,Zai,Zak,Zal,Zam,Zan,Zao,Zap,Zaq,Zav,Zaw,Zay,Zaz,Za0,Za1,Za2,Za3,Za4,Za5,Za6,Za7,Zrh,Za8,Za9,Zba,Zbb,Zbc,Zbd,Zbf,Zbg,Zbj,Zbl,Zbt,Zbu,Zb1,Zb2,Zb8,Zci,Zcn,Zc7,Zc8,Zdc,Zdd,Zde,Zdf,Zdg,Zdh,Zdi,Zdj,Zdk,Zdo,Zdp,Zdt,Zdu,Zdv,Zdw,Zdx,Zdy,Zd0,Zd1,Zd2,Zeb,Zee,Zep,Zeq,Zet,Zev,Zew,Zex,Zez,Ze0,Ze2,Ze5,Zfd,Zfe,Zfh,Zfi,Zfj,Zfk,Zfl,Zfn,Zfq,Zfr,Zfs,Zfz,Zf1,Zf2,Zf4,Zgd,Zgg,Zgh,Zgi,Zgr,Zgu,Zg4,Zg6,Zhb,Zhc,Zhm,Zhn,Zho,Zhs,Zht,Zhu,Zh6,Zh7,Zjq,Zjv,Zjw,Zky,Zkz,Zk0,Zk2,Zla,Zlb,Zle,Zlj,Zll,Zlz,Zmt,Zmv,Zmw,Zmx,Zmz,Zm3,Zm6,Zm9,Zna,Znb,Zne,Znf,Zng,Znh,Zns,Znt,Znu,Znv,Znw,Znx,Zny,Zn5,Zof,Zog,Zrd,Zos,Zot,Zo3,Zo4,Zo6,Zo7,Zo8,Zo9,Zpb,Zpc,Zpi,Zp9,Zqd,Zqe,Zqf,Zqg,Zqh,Zqm,Zqr,List.append_assoc,List.length_drop,eq_self,true_and,and_true,Nat.add_zero,Nat.mul_one]
        · have hR' : R = (n, 0) := by rw [hR, if_neg hj0]; exact if_pos hall
          subst hR'
          first | (exfalso; omega) | skip
          all_goals
            sym =>
            simp [Zaa,Zab,Zac,Zad,Zae,Zaf,Zag,Zah,Zai,Zak,Zal,Zam,Zan,Zao,Zap,Zaq,Zav,Zaw,Zay,Zaz,Za0,Za1,Za2,Za3,Za4,Za5,Za6,Za7,Zrh,Za8,Za9,Zba,Zbb,Zbc,Zbd,Zbf,Zbg,Zbj,Zbl,Zbt,Zbu,Zb1,Zb2,Zb8,Zci,Zcn,Zc7,Zc8,Zdc,Zdd,Zde,Zdf,Zdg,Zdh,Zdi,Zdj,Zdk,Zdo,Zdp,Zdt,Zdu,Zdv,Zdw,Zdx,Zdy,Zd0,Zd1,Zd2,Zeb,Zee,Zep,Zeq,Zet,Zev,Zew,Zex,Zez,Ze0,Ze2,Ze5,Zfd,Zfe,Zfh,Zfi,Zfj,Zfk,Zfl,Zfn,Zfq,Zfr,Zfs,Zfz,Zf1,Zf2,Zf4,Zgd,Zgg,Zgh,Zgi,Zgr,Zgu,Zg4,Zg6,Zhb,Zhc,Zhm,Zhn,Zho,Zhs,Zht,Zhu,Zh6,Zh7,Zjq,Zjv,Zjw,Zky,Zkz,Zk0,Zk2,Zla,Zlb,Zle,Zlj,Zll,Zlz,Zmt,Zmv,Zmw,Zmx,Zmz,Zm3,Zm6,Zm9,Zna,Znb,Zne,Znf,Zng,Znh,Zns,Znt,Znu,Znv,Znw,Znx,Zny,Zn5,Zof,Zog,Zrd,Zos,Zot,Zo3,Zo4,Zo6,Zo7,Zo8,Zo9,Zpb,Zpc,Zpi,Zp9,Zqd,Zqe,Zqf,Zqg,Zqh,Zqm,Zqr,List.append_assoc,List.length_drop,eq_self,true_and,and_true,Nat.add_zero,Nat.mul_one,h2,hj0]
            tactic =>
          all_goals
            refine endA ?_
            sym =>
            simp [Zaa,Zab,Zac,Zad,Zae,Zaf,Zag,Zah,Zai,Zak,Zal,Zam,Zan,Zao,Zap,Zaq,Zav,Zaw,Zay,Zaz,Za0,Za1,Za2,Za3,Za4,Za5,Za6,Za7,Zrh,Za8,Za9,Zba,Zbb,Zbc,Zbd,Zbf,Zbg,Zbj,Zbl,Zbt,Zbu,Zb1,Zb2,Zb8,Zci,Zcn,Zc7,Zc8,Zdc,Zdd,Zde,Zdf,Zdg,Zdh,Zdi,Zdj,Zdk,Zdo,Zdp,Zdt,Zdu,Zdv,Zdw,Zdx,Zdy,Zd0,Zd1,Zd2,Zeb,Zee,Zep,Zeq,Zet,Zev,Zew,Zex,Zez,Ze0,Ze2,Ze5,Zfd,Zfe,Zfh,Zfi,Zfj,Zfk,Zfl,Zfn,Zfq,Zfr,Zfs,Zfz,Zf1,Zf2,Zf4,Zgd,Zgg,Zgh,Zgi,Zgr,Zgu,Zg4,Zg6,Zhb,Zhc,Zhm,Zhn,Zho,Zhs,Zht,Zhu,Zh6,Zh7,Zjq,Zjv,Zjw,Zky,Zkz,Zk0,Zk2,Zla,Zlb,Zle,Zlj,Zll,Zlz,Zmt,Zmv,Zmw,Zmx,Zmz,Zm3,Zm6,Zm9,Zna,Znb,Zne,Znf,Zng,Znh,Zns,Znt,Znu,Znv,Znw,Znx,Zny,Zn5,Zof,Zog,Zrd,Zos,Zot,Zo3,Zo4,Zo6,Zo7,Zo8,Zo9,Zpb,Zpc,Zpi,Zp9,Zqd,Zqe,Zqf,Zqg,Zqh,Zqm,Zqr,List.append_assoc,List.length_drop,eq_self,true_and,and_true,Nat.add_zero,Nat.mul_one]
end Go.Proofs.YthhccabdlajngaaDoor.NumG
