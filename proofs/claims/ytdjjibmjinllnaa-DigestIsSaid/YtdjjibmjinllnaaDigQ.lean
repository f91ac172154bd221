import Derived.Test.YtdjjibmjinllnaaDigP
namespace Go.Proofs.Ytdjjibmjinllnaa.DigQ
open Go Go.Sim Go.Sim.E Go.RowKit Go.Proofs Go.Proofs.Ytdjjibmjinllnaa.Cod Go.Proofs.Ytdjjibmjinllnaa.Tab Go.Proofs.Ytdjjibmjinllnaa.DigA Go.Proofs.Ytdjjibmjinllnaa.DigB Go.Proofs.Ytdjjibmjinllnaa.DigC Go.Proofs.Ytdjjibmjinllnaa.DigM Go.Proofs.Ytdjjibmjinllnaa.DigN Go.Proofs.Ytdjjibmjinllnaa.DigO Go.Proofs.Ytdjjibmjinllnaa.DigP
set_option linter.unusedVariables false
set_option linter.unusedSimpArgs false
set_option maxRecDepth 100000
set_option maxHeartbeats 4000000
def i13 (b R : List Int) (k : Nat) (s : St) : Prop := ∃ i : Nat, i + k = 64 ∧ s = ⟨[(0, fB b), (2, .pt 0 0), (3, .fz 64 (cI R)), (4, .pt 1 0), (5, .pt 2 0), (6, I (IN i))], [(0, ⟨z32, 1, 0⟩), (1, ⟨cU (prt W0 8 0), 1, 0⟩), (2, ⟨cU (prt K0 64 i), 1, 0⟩)], 3⟩
def j13 (b R K : List Int) (k : Nat) (s : St) : Prop := ∃ i : Nat, i + k = 8 ∧ s = ⟨[(0, fB b), (2, .pt 0 0), (3, .fz 64 (cI R)), (4, .pt 1 0), (5, .pt 2 0), (7, I (IN i))], [(0, ⟨z32, 1, 0⟩), (1, ⟨cU (prt W0 8 i), 1, 0⟩), (2, ⟨cU K, 1, 0⟩)], 3⟩
def l13 (K P : List Int) (k : Nat) (s : St) : Prop := ∃ m : Nat, 64 * m + k = P.length ∧ s = ⟨[(2, .pt 0 0), (4, .pt 1 0), (5, .pt 2 0), (8, fB P), (9, I (IN (64 * m)))], [(0, ⟨z32, 1, 0⟩), (1, ⟨cU (dabs P m), 1, 0⟩), (2, ⟨cU K, 1, 0⟩)], 3⟩
def m13 (K P W S : List Int) (m : Nat) (k : Nat) (s : St) : Prop := ∃ i : Nat, i + k = 64 ∧ s = ⟨[(2, .pt 0 0), (4, .pt 1 0), (5, .pt 2 0), (8, fB P), (9, I (IN (64 * m))), (10, .pt 3 0), (11, .pt 4 0), (12, I (IN i))], [(0, ⟨z32, 1, 0⟩), (1, ⟨cU S, 1, 0⟩), (2, ⟨cU K, 1, 0⟩), (3, ⟨cU W, 1, 0⟩), (4, ⟨cU (druns K W S i), 1, 0⟩)], 5⟩
def n13 (K P R S : List Int) (m : Nat) (k : Nat) (s : St) : Prop := ∃ i : Nat, i + k = 8 ∧ s = ⟨[(2, .pt 0 0), (4, .pt 1 0), (5, .pt 2 0), (8, fB P), (9, I (IN (64 * m))), (11, .pt 3 0), (17, I (IN i))], [(0, ⟨z32, 1, 0⟩), (1, ⟨cU (dsums S R i), 1, 0⟩), (2, ⟨cU K, 1, 0⟩), (3, ⟨cU R, 1, 0⟩)], 4⟩
def o13 (S : List Int) (k : Nat) (s : St) : Prop := ∃ i : Nat, i + k = 32 ∧ s = ⟨[(2, .pt 0 0), (4, .pt 1 0), (18, .pt 2 0), (19, I (IN i))], [(0, ⟨z32, 1, 0⟩), (1, ⟨cU S, 1, 0⟩), (2, ⟨cB (oPart S i), 1, 0⟩)], 3⟩
theorem rof_con (b : List Int) (hb : b.length ≤ 1000) : Con Try.prog 13 [] [fB b] [] (.ag (cB (docF b))) := by
  refine con_j b13 rfl ?_
  have hp := primes_con
  have hRl := prs_310
  have hK0 := K0_get
  have hW0 := W0_get
  obtain ⟨R, hR⟩ : ∃ R, R = prs 310 := ⟨_, rfl⟩
  rw [← hR] at hp hRl hK0 hW0
  sym =>
  simp [Zaa,Zab,Zac,Zad,Zae,Zaf,Zag,Zah,Zai,Zak,Zal,Zam,Zan,Zap,Zaq,Zav,Zaw,Zay,Zaz,Za0,Za1,Za2,Za3,Za4,Za5,Za9,Zba,Zbb,Zbc,Zbf,Zbg,Zbk,Zbl,Zbt,Zbu,Zbz,Zb0,Zb1,Zb9,Zch,Zcn,Zcv,Zc3,Zc4,Zc7,Zc8,Zc9,Zdc,Zdd,Zde,Zdf,Zdg,Zdh,Zdi,Zdj,Zdk,Zdo,Zdp,Zdt,Zdu,Zdv,Zdw,Zdx,Zdy,Zdz,Zd0,Zd1,Zd2,Zek,Zeq,Zet,Zev,Zew,Zez,Ze0,Ze1,Ze2,Ze3,Ze5,Ze8,Zfc,Zfd,Zfe,Zfh,Zfn,Zfp,Zfq,Zfr,Zfs,Zft,Zfu,Zfv,Zfx,Zf1,Zgd,Zgf,Zgh,Zgi,Zgr,Zgs,Zgt,Zgu,Zgv,Zg1,Zg2,Zg4,Zg6,Zhd,Zhe,Zhf,Zhg,Zhh,Zhn,Zho,Zhs,Zht,Zhu,Zh6,Zh7,Zin,Ziu,Ziv,Ziw,Zi6,Zi7,Zjh,Zji,Zjn,Zjr,Zkb,Zkv,Zla,Zlb,Zle,Zlj,Zll,Zlz,Zl2,Zmt,Zmv,Zmw,Zmy,Zm0,Zm1,Zm2,Zm5,Zm6,Zm7,Zna,Znb,Zne,Znf,Zng,Znn,Zno,Znp,Znr,Zns,Znt,Znu,Znv,Znw,Zn5,Zoa,Zoc,Zrd,Zos,Zot,Zo7,Zo8,Zo9,Zpc,Zpi,Zpu,Zp8,Zqf,Zqg,Zqh,Zqi,Zqk,Zql,Zqm,Zqn,Zqr,List.length_drop,List.length_replicate,eq_self,true_and,and_true,Nat.zero_add,Nat.mul_one,callable_40]
  tactic =>
  refine cl none (hp) trivial ?_
  sym =>
  simp [Zaa,Zab,Zac,Zad,Zae,Zaf,Zag,Zah,Zai,Zak,Zal,Zam,Zan,Zap,Zaq,Zav,Zaw,Zay,Zaz,Za0,Za1,Za2,Za3,Za4,Za5,Za9,Zba,Zbb,Zbc,Zbf,Zbg,Zbk,Zbl,Zbt,Zbu,Zbz,Zb0,Zb1,Zb9,Zch,Zcn,Zcv,Zc3,Zc4,Zc7,Zc8,Zc9,Zdc,Zdd,Zde,Zdf,Zdg,Zdh,Zdi,Zdj,Zdk,Zdo,Zdp,Zdt,Zdu,Zdv,Zdw,Zdx,Zdy,Zdz,Zd0,Zd1,Zd2,Zek,Zeq,Zet,Zev,Zew,Zez,Ze0,Ze1,Ze2,Ze3,Ze5,Ze8,Zfc,Zfd,Zfe,Zfh,Zfn,Zfp,Zfq,Zfr,Zfs,Zft,Zfu,Zfv,Zfx,Zf1,Zgd,Zgf,Zgh,Zgi,Zgr,Zgs,Zgt,Zgu,Zgv,Zg1,Zg2,Zg4,Zg6,Zhd,Zhe,Zhf,Zhg,Zhh,Zhn,Zho,Zhs,Zht,Zhu,Zh6,Zh7,Zin,Ziu,Ziv,Ziw,Zi6,Zi7,Zjh,Zji,Zjn,Zjr,Zkb,Zkv,Zla,Zlb,Zle,Zlj,Zll,Zlz,Zl2,Zmt,Zmv,Zmw,Zmy,Zm0,Zm1,Zm2,Zm5,Zm6,Zm7,Zna,Znb,Zne,Znf,Zng,Znn,Zno,Znp,Znr,Zns,Znt,Znu,Znv,Znw,Zn5,Zoa,Zoc,Zrd,Zos,Zot,Zo7,Zo8,Zo9,Zpc,Zpi,Zpu,Zp8,Zqf,Zqg,Zqh,Zqi,Zqk,Zql,Zqm,Zqn,Zqr,List.length_drop,List.length_replicate,eq_self,true_and,and_true,Nat.zero_add,Nat.mul_one]
  tactic =>
  refine lpA (i13 b R) 64 [(0, 0), (1, 3), (2, 6)] _ ⟨0, by omega, rfl⟩ (wkA ?_) ?_
  · sym =>
    simp [Zaa,Zab,Zac,Zad,Zae,Zaf,Zag,Zah,Zai,Zak,Zal,Zam,Zan,Zap,Zaq,Zav,Zaw,Zay,Zaz,Za0,Za1,Za2,Za3,Za4,Za5,Za9,Zba,Zbb,Zbc,Zbf,Zbg,Zbk,Zbl,Zbt,Zbu,Zbz,Zb0,Zb1,Zb9,Zch,Zcn,Zcv,Zc3,Zc4,Zc7,Zc8,Zc9,Zdc,Zdd,Zde,Zdf,Zdg,Zdh,Zdi,Zdj,Zdk,Zdo,Zdp,Zdt,Zdu,Zdv,Zdw,Zdx,Zdy,Zdz,Zd0,Zd1,Zd2,Zek,Zeq,Zet,Zev,Zew,Zez,Ze0,Ze1,Ze2,Ze3,Ze5,Ze8,Zfc,Zfd,Zfe,Zfh,Zfn,Zfp,Zfq,Zfr,Zfs,Zft,Zfu,Zfv,Zfx,Zf1,Zgd,Zgf,Zgh,Zgi,Zgr,Zgs,Zgt,Zgu,Zgv,Zg1,Zg2,Zg4,Zg6,Zhd,Zhe,Zhf,Zhg,Zhh,Zhn,Zho,Zhs,Zht,Zhu,Zh6,Zh7,Zin,Ziu,Ziv,Ziw,Zi6,Zi7,Zjh,Zji,Zjn,Zjr,Zkb,Zkv,Zla,Zlb,Zle,Zlj,Zll,Zlz,Zl2,Zmt,Zmv,Zmw,Zmy,Zm0,Zm1,Zm2,Zm5,Zm6,Zm7,Zna,Znb,Zne,Znf,Zng,Znn,Zno,Znp,Znr,Zns,Znt,Znu,Znv,Znw,Zn5,Zoa,Zoc,Zrd,Zos,Zot,Zo7,Zo8,Zo9,Zpc,Zpi,Zpu,Zp8,Zqf,Zqg,Zqh,Zqi,Zqk,Zql,Zqm,Zqn,Zqr,List.length_drop,List.length_replicate,eq_self,true_and,and_true,Nat.zero_add,Nat.mul_one]
    tactic =>
    exact ⟨rs_self z32_okI, cU_rs _ _ _ _ _ rfl, cU_rs _ _ _ _ _ rfl⟩
  rintro k s ⟨i, hi, rfl⟩
  have hXl := prt_length K0 64 i (by omega) rfl
  by_cases h : i < 64
  · have hI : IN i < (64 : Int) := by simp only [IN]; omega
    have hw := w64s i (by omega)
    have hX2 := prt_step K0 64 i h rfl
    have hv := hK0 i h
    have hg := cI_get R i (by omega)
    obtain ⟨X, hX⟩ : ∃ X, X = prt K0 64 i := ⟨_, rfl⟩
    rw [← hX] at hXl hX2 ⊢
    have hs2 := cU_set X i
    sym =>
    simp [Zaa,Zab,Zac,Zad,Zae,Zaf,Zag,Zah,Zai,Zak,Zal,Zam,Zan,Zap,Zaq,Zav,Zaw,Zay,Zaz,Za0,Za1,Za2,Za3,Za4,Za5,Za9,Zba,Zbb,Zbc,Zbf,Zbg,Zbk,Zbl,Zbt,Zbu,Zbz,Zb0,Zb1,Zb9,Zch,Zcn,Zcv,Zc3,Zc4,Zc7,Zc8,Zc9,Zdc,Zdd,Zde,Zdf,Zdg,Zdh,Zdi,Zdj,Zdk,Zdo,Zdp,Zdt,Zdu,Zdv,Zdw,Zdx,Zdy,Zdz,Zd0,Zd1,Zd2,Zek,Zeq,Zet,Zev,Zew,Zez,Ze0,Ze1,Ze2,Ze3,Ze5,Ze8,Zfc,Zfd,Zfe,Zfh,Zfn,Zfp,Zfq,Zfr,Zfs,Zft,Zfu,Zfv,Zfx,Zf1,Zgd,Zgf,Zgh,Zgi,Zgr,Zgs,Zgt,Zgu,Zgv,Zg1,Zg2,Zg4,Zg6,Zhd,Zhe,Zhf,Zhg,Zhh,Zhn,Zho,Zhs,Zht,Zhu,Zh6,Zh7,Zin,Ziu,Ziv,Ziw,Zi6,Zi7,Zjh,Zji,Zjn,Zjr,Zkb,Zkv,Zla,Zlb,Zle,Zlj,Zll,Zlz,Zl2,Zmt,Zmv,Zmw,Zmy,Zm0,Zm1,Zm2,Zm5,Zm6,Zm7,Zna,Znb,Zne,Znf,Zng,Znn,Zno,Znp,Znr,Zns,Znt,Znu,Znv,Znw,Zn5,Zoa,Zoc,Zrd,Zos,Zot,Zo7,Zo8,Zo9,Zpc,Zpi,Zpu,Zp8,Zqf,Zqg,Zqh,Zqi,Zqk,Zql,Zqm,Zqn,Zqr,List.length_drop,List.length_replicate,eq_self,true_and,and_true,Nat.zero_add,Nat.mul_one,hI,hw,hg,cI_length,hRl,callable_41]
    tactic =>
    and_intros <;> try (first | omega | rfl | assumption)
    have hroot := root_con true (R.getD i 0)
    rw [hv] at hroot
    refine cl none (hroot) trivial ?_
    sym =>
    simp [Zaa,Zab,Zac,Zad,Zae,Zaf,Zag,Zah,Zai,Zak,Zal,Zam,Zan,Zap,Zaq,Zav,Zaw,Zay,Zaz,Za0,Za1,Za2,Za3,Za4,Za5,Za9,Zba,Zbb,Zbc,Zbf,Zbg,Zbk,Zbl,Zbt,Zbu,Zbz,Zb0,Zb1,Zb9,Zch,Zcn,Zcv,Zc3,Zc4,Zc7,Zc8,Zc9,Zdc,Zdd,Zde,Zdf,Zdg,Zdh,Zdi,Zdj,Zdk,Zdo,Zdp,Zdt,Zdu,Zdv,Zdw,Zdx,Zdy,Zdz,Zd0,Zd1,Zd2,Zek,Zeq,Zet,Zev,Zew,Zez,Ze0,Ze1,Ze2,Ze3,Ze5,Ze8,Zfc,Zfd,Zfe,Zfh,Zfn,Zfp,Zfq,Zfr,Zfs,Zft,Zfu,Zfv,Zfx,Zf1,Zgd,Zgf,Zgh,Zgi,Zgr,Zgs,Zgt,Zgu,Zgv,Zg1,Zg2,Zg4,Zg6,Zhd,Zhe,Zhf,Zhg,Zhh,Zhn,Zho,Zhs,Zht,Zhu,Zh6,Zh7,Zin,Ziu,Ziv,Ziw,Zi6,Zi7,Zjh,Zji,Zjn,Zjr,Zkb,Zkv,Zla,Zlb,Zle,Zlj,Zll,Zlz,Zl2,Zmt,Zmv,Zmw,Zmy,Zm0,Zm1,Zm2,Zm5,Zm6,Zm7,Zna,Znb,Zne,Znf,Zng,Znn,Zno,Znp,Znr,Zns,Znt,Znu,Znv,Znw,Zn5,Zoa,Zoc,Zrd,Zos,Zot,Zo7,Zo8,Zo9,Zpc,Zpi,Zpu,Zp8,Zqf,Zqg,Zqh,Zqi,Zqk,Zql,Zqm,Zqn,Zqr,List.length_drop,List.length_replicate,eq_self,true_and,and_true,Nat.zero_add,Nat.mul_one,hI,hw,hs2,hX2,cU_length,hXl]
    tactic =>
    and_intros <;> try (first | omega | rfl | assumption)
    unfold NextL; refine ⟨(k - 1), [(0, 0), (1, 1), (2, 2)], _, by omega, ⟨i + 1, by omega, rfl⟩, wkA ?_⟩
    sym =>
    simp [Zaa,Zab,Zac,Zad,Zae,Zaf,Zag,Zah,Zai,Zak,Zal,Zam,Zan,Zap,Zaq,Zav,Zaw,Zay,Zaz,Za0,Za1,Za2,Za3,Za4,Za5,Za9,Zba,Zbb,Zbc,Zbf,Zbg,Zbk,Zbl,Zbt,Zbu,Zbz,Zb0,Zb1,Zb9,Zch,Zcn,Zcv,Zc3,Zc4,Zc7,Zc8,Zc9,Zdc,Zdd,Zde,Zdf,Zdg,Zdh,Zdi,Zdj,Zdk,Zdo,Zdp,Zdt,Zdu,Zdv,Zdw,Zdx,Zdy,Zdz,Zd0,Zd1,Zd2,Zek,Zeq,Zet,Zev,Zew,Zez,Ze0,Ze1,Ze2,Ze3,Ze5,Ze8,Zfc,Zfd,Zfe,Zfh,Zfn,Zfp,Zfq,Zfr,Zfs,Zft,Zfu,Zfv,Zfx,Zf1,Zgd,Zgf,Zgh,Zgi,Zgr,Zgs,Zgt,Zgu,Zgv,Zg1,Zg2,Zg4,Zg6,Zhd,Zhe,Zhf,Zhg,Zhh,Zhn,Zho,Zhs,Zht,Zhu,Zh6,Zh7,Zin,Ziu,Ziv,Ziw,Zi6,Zi7,Zjh,Zji,Zjn,Zjr,Zkb,Zkv,Zla,Zlb,Zle,Zlj,Zll,Zlz,Zl2,Zmt,Zmv,Zmw,Zmy,Zm0,Zm1,Zm2,Zm5,Zm6,Zm7,Zna,Znb,Zne,Znf,Zng,Znn,Zno,Znp,Znr,Zns,Znt,Znu,Znv,Znw,Zn5,Zoa,Zoc,Zrd,Zos,Zot,Zo7,Zo8,Zo9,Zpc,Zpi,Zpu,Zp8,Zqf,Zqg,Zqh,Zqi,Zqk,Zql,Zqm,Zqn,Zqr,List.length_drop,List.length_replicate,eq_self,true_and,and_true,Nat.zero_add,Nat.mul_one]
    tactic =>
    exact ⟨rs_self z32_okI, cU_rs _ _ _ _ _ rfl, cU_rs _ _ _ _ _ rfl⟩
  have hI : ¬ IN i < (64 : Int) := by simp only [IN]; omega
  obtain rfl : i = 64 := by omega
  rw [prt_all K0 64 rfl]
  have hKl : K0.length = 64 := rfl
  obtain ⟨K, hK⟩ : ∃ K, K = K0 := ⟨_, rfl⟩
  rw [← hK] at hKl ⊢
  sym =>
  simp [Zaa,Zab,Zac,Zad,Zae,Zaf,Zag,Zah,Zai,Zak,Zal,Zam,Zan,Zap,Zaq,Zav,Zaw,Zay,Zaz,Za0,Za1,Za2,Za3,Za4,Za5,Za9,Zba,Zbb,Zbc,Zbf,Zbg,Zbk,Zbl,Zbt,Zbu,Zbz,Zb0,Zb1,Zb9,Zch,Zcn,Zcv,Zc3,Zc4,Zc7,Zc8,Zc9,Zdc,Zdd,Zde,Zdf,Zdg,Zdh,Zdi,Zdj,Zdk,Zdo,Zdp,Zdt,Zdu,Zdv,Zdw,Zdx,Zdy,Zdz,Zd0,Zd1,Zd2,Zek,Zeq,Zet,Zev,Zew,Zez,Ze0,Ze1,Ze2,Ze3,Ze5,Ze8,Zfc,Zfd,Zfe,Zfh,Zfn,Zfp,Zfq,Zfr,Zfs,Zft,Zfu,Zfv,Zfx,Zf1,Zgd,Zgf,Zgh,Zgi,Zgr,Zgs,Zgt,Zgu,Zgv,Zg1,Zg2,Zg4,Zg6,Zhd,Zhe,Zhf,Zhg,Zhh,Zhn,Zho,Zhs,Zht,Zhu,Zh6,Zh7,Zin,Ziu,Ziv,Ziw,Zi6,Zi7,Zjh,Zji,Zjn,Zjr,Zkb,Zkv,Zla,Zlb,Zle,Zlj,Zll,Zlz,Zl2,Zmt,Zmv,Zmw,Zmy,Zm0,Zm1,Zm2,Zm5,Zm6,Zm7,Zna,Znb,Zne,Znf,Zng,Znn,Zno,Znp,Znr,Zns,Znt,Znu,Znv,Znw,Zn5,Zoa,Zoc,Zrd,Zos,Zot,Zo7,Zo8,Zo9,Zpc,Zpi,Zpu,Zp8,Zqf,Zqg,Zqh,Zqi,Zqk,Zql,Zqm,Zqn,Zqr,List.length_drop,List.length_replicate,eq_self,true_and,and_true,Nat.zero_add,Nat.mul_one,hI]
  tactic =>
  refine lpA (j13 b R K) 8 [(0, 0), (1, 1), (2, 2)] _ ⟨0, by omega, rfl⟩ (wkA ?_) ?_
  · sym =>
    simp [Zaa,Zab,Zac,Zad,Zae,Zaf,Zag,Zah,Zai,Zak,Zal,Zam,Zan,Zap,Zaq,Zav,Zaw,Zay,Zaz,Za0,Za1,Za2,Za3,Za4,Za5,Za9,Zba,Zbb,Zbc,Zbf,Zbg,Zbk,Zbl,Zbt,Zbu,Zbz,Zb0,Zb1,Zb9,Zch,Zcn,Zcv,Zc3,Zc4,Zc7,Zc8,Zc9,Zdc,Zdd,Zde,Zdf,Zdg,Zdh,Zdi,Zdj,Zdk,Zdo,Zdp,Zdt,Zdu,Zdv,Zdw,Zdx,Zdy,Zdz,Zd0,Zd1,Zd2,Zek,Zeq,Zet,Zev,Zew,Zez,Ze0,Ze1,Ze2,Ze3,Ze5,Ze8,Zfc,Zfd,Zfe,Zfh,Zfn,Zfp,Zfq,Zfr,Zfs,Zft,Zfu,Zfv,Zfx,Zf1,Zgd,Zgf,Zgh,Zgi,Zgr,Zgs,Zgt,Zgu,Zgv,Zg1,Zg2,Zg4,Zg6,Zhd,Zhe,Zhf,Zhg,Zhh,Zhn,Zho,Zhs,Zht,Zhu,Zh6,Zh7,Zin,Ziu,Ziv,Ziw,Zi6,Zi7,Zjh,Zji,Zjn,Zjr,Zkb,Zkv,Zla,Zlb,Zle,Zlj,Zll,Zlz,Zl2,Zmt,Zmv,Zmw,Zmy,Zm0,Zm1,Zm2,Zm5,Zm6,Zm7,Zna,Znb,Zne,Znf,Zng,Znn,Zno,Znp,Znr,Zns,Znt,Znu,Znv,Znw,Zn5,Zoa,Zoc,Zrd,Zos,Zot,Zo7,Zo8,Zo9,Zpc,Zpi,Zpu,Zp8,Zqf,Zqg,Zqh,Zqi,Zqk,Zql,Zqm,Zqn,Zqr,List.length_drop,List.length_replicate,eq_self,true_and,and_true,Nat.zero_add,Nat.mul_one]
    tactic =>
    exact ⟨rs_self z32_okI, cU_rs _ _ _ _ _ rfl, rs_self (cU_okI K)⟩
  rintro k s ⟨i, hi, rfl⟩
  have hXl := prt_length W0 8 i (by omega) rfl
  by_cases h : i < 8
  · have hI : IN i < (8 : Int) := by simp only [IN]; omega
    have hw := w64s i (by omega)
    have hX2 := prt_step W0 8 i h rfl
    have hv := hW0 i h
    have hg := cI_get R i (by omega)
    obtain ⟨X, hX⟩ : ∃ X, X = prt W0 8 i := ⟨_, rfl⟩
    rw [← hX] at hXl hX2 ⊢
    have hs2 := cU_set X i
    sym =>
    simp [Zaa,Zab,Zac,Zad,Zae,Zaf,Zag,Zah,Zai,Zak,Zal,Zam,Zan,Zap,Zaq,Zav,Zaw,Zay,Zaz,Za0,Za1,Za2,Za3,Za4,Za5,Za9,Zba,Zbb,Zbc,Zbf,Zbg,Zbk,Zbl,Zbt,Zbu,Zbz,Zb0,Zb1,Zb9,Zch,Zcn,Zcv,Zc3,Zc4,Zc7,Zc8,Zc9,Zdc,Zdd,Zde,Zdf,Zdg,Zdh,Zdi,Zdj,Zdk,Zdo,Zdp,Zdt,Zdu,Zdv,Zdw,Zdx,Zdy,Zdz,Zd0,Zd1,Zd2,Zek,Zeq,Zet,Zev,Zew,Zez,Ze0,Ze1,Ze2,Ze3,Ze5,Ze8,Zfc,Zfd,Zfe,Zfh,Zfn,Zfp,Zfq,Zfr,Zfs,Zft,Zfu,Zfv,Zfx,Zf1,Zgd,Zgf,Zgh,Zgi,Zgr,Zgs,Zgt,Zgu,Zgv,Zg1,Zg2,Zg4,Zg6,Zhd,Zhe,Zhf,Zhg,Zhh,Zhn,Zho,Zhs,Zht,Zhu,Zh6,Zh7,Zin,Ziu,Ziv,Ziw,Zi6,Zi7,Zjh,Zji,Zjn,Zjr,Zkb,Zkv,Zla,Zlb,Zle,Zlj,Zll,Zlz,Zl2,Zmt,Zmv,Zmw,Zmy,Zm0,Zm1,Zm2,Zm5,Zm6,Zm7,Zna,Znb,Zne,Znf,Zng,Znn,Zno,Znp,Znr,Zns,Znt,Znu,Znv,Znw,Zn5,Zoa,Zoc,Zrd,Zos,Zot,Zo7,Zo8,Zo9,Zpc,Zpi,Zpu,Zp8,Zqf,Zqg,Zqh,Zqi,Zqk,Zql,Zqm,Zqn,Zqr,List.length_drop,List.length_replicate,eq_self,true_and,and_true,Nat.zero_add,Nat.mul_one,hI,hw,hg,cI_length,hRl,callable_41]
    tactic =>
    and_intros <;> try (first | omega | rfl | assumption)
    have hroot := root_con false (R.getD i 0)
    rw [hv] at hroot
    refine cl none (hroot) trivial ?_
    sym =>
    simp [Zaa,Zab,Zac,Zad,Zae,Zaf,Zag,Zah,Zai,Zak,Zal,Zam,Zan,Zap,Zaq,Zav,Zaw,Zay,Zaz,Za0,Za1,Za2,Za3,Za4,Za5,Za9,Zba,Zbb,Zbc,Zbf,Zbg,Zbk,Zbl,Zbt,Zbu,Zbz,Zb0,Zb1,Zb9,Zch,Zcn,Zcv,Zc3,Zc4,Zc7,Zc8,Zc9,Zdc,Zdd,Zde,Zdf,Zdg,Zdh,Zdi,Zdj,Zdk,Zdo,Zdp,Zdt,Zdu,Zdv,Zdw,Zdx,Zdy,Zdz,Zd0,Zd1,Zd2,Zek,Zeq,Zet,Zev,Zew,Zez,Ze0,Ze1,Ze2,Ze3,Ze5,Ze8,Zfc,Zfd,Zfe,Zfh,Zfn,Zfp,Zfq,Zfr,Zfs,Zft,Zfu,Zfv,Zfx,Zf1,Zgd,Zgf,Zgh,Zgi,Zgr,Zgs,Zgt,Zgu,Zgv,Zg1,Zg2,Zg4,Zg6,Zhd,Zhe,Zhf,Zhg,Zhh,Zhn,Zho,Zhs,Zht,Zhu,Zh6,Zh7,Zin,Ziu,Ziv,Ziw,Zi6,Zi7,Zjh,Zji,Zjn,Zjr,Zkb,Zkv,Zla,Zlb,Zle,Zlj,Zll,Zlz,Zl2,Zmt,Zmv,Zmw,Zmy,Zm0,Zm1,Zm2,Zm5,Zm6,Zm7,Zna,Znb,Zne,Znf,Zng,Znn,Zno,Znp,Znr,Zns,Znt,Znu,Znv,Znw,Zn5,Zoa,Zoc,Zrd,Zos,Zot,Zo7,Zo8,Zo9,Zpc,Zpi,Zpu,Zp8,Zqf,Zqg,Zqh,Zqi,Zqk,Zql,Zqm,Zqn,Zqr,List.length_drop,List.length_replicate,eq_self,true_and,and_true,Nat.zero_add,Nat.mul_one,hI,hw,hs2,hX2,cU_length,hXl]
    tactic =>
    and_intros <;> try (first | omega | rfl | assumption)
    unfold NextL; refine ⟨(k - 1), [(0, 0), (1, 1), (2, 2)], _, by omega, ⟨i + 1, by omega, rfl⟩, wkA ?_⟩
    sym =>
    simp [Zaa,Zab,Zac,Zad,Zae,Zaf,Zag,Zah,Zai,Zak,Zal,Zam,Zan,Zap,Zaq,Zav,Zaw,Zay,Zaz,Za0,Za1,Za2,Za3,Za4,Za5,Za9,Zba,Zbb,Zbc,Zbf,Zbg,Zbk,Zbl,Zbt,Zbu,Zbz,Zb0,Zb1,Zb9,Zch,Zcn,Zcv,Zc3,Zc4,Zc7,Zc8,Zc9,Zdc,Zdd,Zde,Zdf,Zdg,Zdh,Zdi,Zdj,Zdk,Zdo,Zdp,Zdt,Zdu,Zdv,Zdw,Zdx,Zdy,Zdz,Zd0,Zd1,Zd2,Zek,Zeq,Zet,Zev,Zew,Zez,Ze0,Ze1,Ze2,Ze3,Ze5,Ze8,Zfc,Zfd,Zfe,Zfh,Zfn,Zfp,Zfq,Zfr,Zfs,Zft,Zfu,Zfv,Zfx,Zf1,Zgd,Zgf,Zgh,Zgi,Zgr,Zgs,Zgt,Zgu,Zgv,Zg1,Zg2,Zg4,Zg6,Zhd,Zhe,Zhf,Zhg,Zhh,Zhn,Zho,Zhs,Zht,Zhu,Zh6,Zh7,Zin,Ziu,Ziv,Ziw,Zi6,Zi7,Zjh,Zji,Zjn,Zjr,Zkb,Zkv,Zla,Zlb,Zle,Zlj,Zll,Zlz,Zl2,Zmt,Zmv,Zmw,Zmy,Zm0,Zm1,Zm2,Zm5,Zm6,Zm7,Zna,Znb,Zne,Znf,Zng,Znn,Zno,Znp,Znr,Zns,Znt,Znu,Znv,Znw,Zn5,Zoa,Zoc,Zrd,Zos,Zot,Zo7,Zo8,Zo9,Zpc,Zpi,Zpu,Zp8,Zqf,Zqg,Zqh,Zqi,Zqk,Zql,Zqm,Zqn,Zqr,List.length_drop,List.length_replicate,eq_self,true_and,and_true,Nat.zero_add,Nat.mul_one]
    tactic =>
    exact ⟨rs_self z32_okI, cU_rs _ _ _ _ _ rfl, rs_self (cU_okI K)⟩
  have hI : ¬ IN i < (8 : Int) := by simp only [IN]; omega
  obtain rfl : i = 8 := by omega
  rw [prt_all W0 8 rfl]
  have hf := dfill_con b hb
  have hP1 := fill_length b (IN b.length)
  have hdoc : docF b = out32 (dabs (fill b (IN b.length)) ((fill b (IN b.length)).length / 64)) := rfl
  obtain ⟨P, hP⟩ : ∃ P, P = fill b (IN b.length) := ⟨_, rfl⟩
  rw [← hP] at hf hP1 hdoc
  sym =>
  simp [Zaa,Zab,Zac,Zad,Zae,Zaf,Zag,Zah,Zai,Zak,Zal,Zam,Zan,Zap,Zaq,Zav,Zaw,Zay,Zaz,Za0,Za1,Za2,Za3,Za4,Za5,Za9,Zba,Zbb,Zbc,Zbf,Zbg,Zbk,Zbl,Zbt,Zbu,Zbz,Zb0,Zb1,Zb9,Zch,Zcn,Zcv,Zc3,Zc4,Zc7,Zc8,Zc9,Zdc,Zdd,Zde,Zdf,Zdg,Zdh,Zdi,Zdj,Zdk,Zdo,Zdp,Zdt,Zdu,Zdv,Zdw,Zdx,Zdy,Zdz,Zd0,Zd1,Zd2,Zek,Zeq,Zet,Zev,Zew,Zez,Ze0,Ze1,Ze2,Ze3,Ze5,Ze8,Zfc,Zfd,Zfe,Zfh,Zfn,Zfp,Zfq,Zfr,Zfs,Zft,Zfu,Zfv,Zfx,Zf1,Zgd,Zgf,Zgh,Zgi,Zgr,Zgs,Zgt,Zgu,Zgv,Zg1,Zg2,Zg4,Zg6,Zhd,Zhe,Zhf,Zhg,Zhh,Zhn,Zho,Zhs,Zht,Zhu,Zh6,Zh7,Zin,Ziu,Ziv,Ziw,Zi6,Zi7,Zjh,Zji,Zjn,Zjr,Zkb,Zkv,Zla,Zlb,Zle,Zlj,Zll,Zlz,Zl2,Zmt,Zmv,Zmw,Zmy,Zm0,Zm1,Zm2,Zm5,Zm6,Zm7,Zna,Znb,Zne,Znf,Zng,Znn,Zno,Znp,Znr,Zns,Znt,Znu,Znv,Znw,Zn5,Zoa,Zoc,Zrd,Zos,Zot,Zo7,Zo8,Zo9,Zpc,Zpi,Zpu,Zp8,Zqf,Zqg,Zqh,Zqi,Zqk,Zql,Zqm,Zqn,Zqr,List.length_drop,List.length_replicate,eq_self,true_and,and_true,Nat.zero_add,Nat.mul_one,hI,callable_42]
  tactic =>
  refine cl none (hf) trivial ?_
  sym =>
  simp [Zaa,Zab,Zac,Zad,Zae,Zaf,Zag,Zah,Zai,Zak,Zal,Zam,Zan,Zap,Zaq,Zav,Zaw,Zay,Zaz,Za0,Za1,Za2,Za3,Za4,Za5,Za9,Zba,Zbb,Zbc,Zbf,Zbg,Zbk,Zbl,Zbt,Zbu,Zbz,Zb0,Zb1,Zb9,Zch,Zcn,Zcv,Zc3,Zc4,Zc7,Zc8,Zc9,Zdc,Zdd,Zde,Zdf,Zdg,Zdh,Zdi,Zdj,Zdk,Zdo,Zdp,Zdt,Zdu,Zdv,Zdw,Zdx,Zdy,Zdz,Zd0,Zd1,Zd2,Zek,Zeq,Zet,Zev,Zew,Zez,Ze0,Ze1,Ze2,Ze3,Ze5,Ze8,Zfc,Zfd,Zfe,Zfh,Zfn,Zfp,Zfq,Zfr,Zfs,Zft,Zfu,Zfv,Zfx,Zf1,Zgd,Zgf,Zgh,Zgi,Zgr,Zgs,Zgt,Zgu,Zgv,Zg1,Zg2,Zg4,Zg6,Zhd,Zhe,Zhf,Zhg,Zhh,Zhn,Zho,Zhs,Zht,Zhu,Zh6,Zh7,Zin,Ziu,Ziv,Ziw,Zi6,Zi7,Zjh,Zji,Zjn,Zjr,Zkb,Zkv,Zla,Zlb,Zle,Zlj,Zll,Zlz,Zl2,Zmt,Zmv,Zmw,Zmy,Zm0,Zm1,Zm2,Zm5,Zm6,Zm7,Zna,Znb,Zne,Znf,Zng,Znn,Zno,Znp,Znr,Zns,Znt,Znu,Znv,Znw,Zn5,Zoa,Zoc,Zrd,Zos,Zot,Zo7,Zo8,Zo9,Zpc,Zpi,Zpu,Zp8,Zqf,Zqg,Zqh,Zqi,Zqk,Zql,Zqm,Zqn,Zqr,List.length_drop,List.length_replicate,eq_self,true_and,and_true,Nat.zero_add,Nat.mul_one]
  tactic =>
  refine lpA (l13 K P) P.length [(0, 0), (1, 1), (2, 2)] _ ⟨0, by omega, rfl⟩ (wkA ?_) ?_
  · sym =>
    simp [Zaa,Zab,Zac,Zad,Zae,Zaf,Zag,Zah,Zai,Zak,Zal,Zam,Zan,Zap,Zaq,Zav,Zaw,Zay,Zaz,Za0,Za1,Za2,Za3,Za4,Za5,Za9,Zba,Zbb,Zbc,Zbf,Zbg,Zbk,Zbl,Zbt,Zbu,Zbz,Zb0,Zb1,Zb9,Zch,Zcn,Zcv,Zc3,Zc4,Zc7,Zc8,Zc9,Zdc,Zdd,Zde,Zdf,Zdg,Zdh,Zdi,Zdj,Zdk,Zdo,Zdp,Zdt,Zdu,Zdv,Zdw,Zdx,Zdy,Zdz,Zd0,Zd1,Zd2,Zek,Zeq,Zet,Zev,Zew,Zez,Ze0,Ze1,Ze2,Ze3,Ze5,Ze8,Zfc,Zfd,Zfe,Zfh,Zfn,Zfp,Zfq,Zfr,Zfs,Zft,Zfu,Zfv,Zfx,Zf1,Zgd,Zgf,Zgh,Zgi,Zgr,Zgs,Zgt,Zgu,Zgv,Zg1,Zg2,Zg4,Zg6,Zhd,Zhe,Zhf,Zhg,Zhh,Zhn,Zho,Zhs,Zht,Zhu,Zh6,Zh7,Zin,Ziu,Ziv,Ziw,Zi6,Zi7,Zjh,Zji,Zjn,Zjr,Zkb,Zkv,Zla,Zlb,Zle,Zlj,Zll,Zlz,Zl2,Zmt,Zmv,Zmw,Zmy,Zm0,Zm1,Zm2,Zm5,Zm6,Zm7,Zna,Znb,Zne,Znf,Zng,Znn,Zno,Znp,Znr,Zns,Znt,Znu,Znv,Znw,Zn5,Zoa,Zoc,Zrd,Zos,Zot,Zo7,Zo8,Zo9,Zpc,Zpi,Zpu,Zp8,Zqf,Zqg,Zqh,Zqi,Zqk,Zql,Zqm,Zqn,Zqr,List.length_drop,List.length_replicate,eq_self,true_and,and_true,Nat.zero_add,Nat.mul_one]
    tactic =>
    exact ⟨rs_self z32_okI, cU_rs _ _ _ _ _ rfl, rs_self (cU_okI K)⟩
  rintro k s ⟨m, hm, rfl⟩
  have hSl := dabs_length P m
  by_cases h : 64 * m < P.length
  · have hstep : dabs P (m + 1) = dsums (dabs P m) (druns K0 (dW ((P.drop (64 * m)).take 64) 64) (dabs P m) 64) 8 := rfl
    rw [← hK] at hstep
    obtain ⟨S, hS⟩ : ∃ S, S = dabs P m := ⟨_, rfl⟩
    rw [← hS] at hSl hstep ⊢
    obtain ⟨D, hD⟩ : ∃ D, D = (P.drop (64 * m)).take 64 := ⟨_, rfl⟩
    have hDl : D.length = 64 := by rw [hD, List.length_take, List.length_drop]; omega
    have hdt : List.take 64 (List.drop (64 * m) (cB P)) = cB D := by rw [hD, cB, ← List.map_drop, ← List.map_take]; rfl
    rw [← hD] at hstep
    have hc := words_con D hDl
    simp only [fB, hDl] at hc
    have hWl := dW_length D 64
    obtain ⟨W, hW⟩ : ∃ W, W = dW D 64 := ⟨_, rfl⟩
    rw [← hW] at hstep hc hWl
    have hw : IntKind.i64.wrap (IN (64 * m) + (64 : Int)) = IN (64 * m + 64) := w64a (64 * m) 64 (by omega)
    have hI : IN (64 * m) < IN P.length := by simp only [IN]; omega
    have hI2 : IN (64 * m + 64) ≤ IN P.length := by simp only [IN]; omega
    have hI3 : 64 * m + 64 - 64 * m = 64 := by omega
    have hW2 : (cU W).length = 64 := by rw [cU_length, hWl]
    have hsW := spl_new (cU W) (List.replicate 64 (.sc (.int .u32 0))) (by rw [hW2]; simp)
    have hfW := cU_fl W
    have hS2 : (cU S).length = 8 := by rw [cU_length, hSl]
    have s0 := cU_get S 0 (by omega)
    have s1 := cU_get S 1 (by omega)
    have s2 := cU_get S 2 (by omega)
    have s3 := cU_get S 3 (by omega)
    have s4 := cU_get S 4 (by omega)
    have s5 := cU_get S 5 (by omega)
    have s6 := cU_get S 6 (by omega)
    have s7 := cU_get S 7 (by omega)
    sym =>
    simp [Zaa,Zab,Zac,Zad,Zae,Zaf,Zag,Zah,Zai,Zak,Zal,Zam,Zan,Zap,Zaq,Zav,Zaw,Zay,Zaz,Za0,Za1,Za2,Za3,Za4,Za5,Za9,Zba,Zbb,Zbc,Zbf,Zbg,Zbk,Zbl,Zbt,Zbu,Zbz,Zb0,Zb1,Zb9,Zch,Zcn,Zcv,Zc3,Zc4,Zc7,Zc8,Zc9,Zdc,Zdd,Zde,Zdf,Zdg,Zdh,Zdi,Zdj,Zdk,Zdo,Zdp,Zdt,Zdu,Zdv,Zdw,Zdx,Zdy,Zdz,Zd0,Zd1,Zd2,Zek,Zeq,Zet,Zev,Zew,Zez,Ze0,Ze1,Ze2,Ze3,Ze5,Ze8,Zfc,Zfd,Zfe,Zfh,Zfn,Zfp,Zfq,Zfr,Zfs,Zft,Zfu,Zfv,Zfx,Zf1,Zgd,Zgf,Zgh,Zgi,Zgr,Zgs,Zgt,Zgu,Zgv,Zg1,Zg2,Zg4,Zg6,Zhd,Zhe,Zhf,Zhg,Zhh,Zhn,Zho,Zhs,Zht,Zhu,Zh6,Zh7,Zin,Ziu,Ziv,Ziw,Zi6,Zi7,Zjh,Zji,Zjn,Zjr,Zkb,Zkv,Zla,Zlb,Zle,Zlj,Zll,Zlz,Zl2,Zmt,Zmv,Zmw,Zmy,Zm0,Zm1,Zm2,Zm5,Zm6,Zm7,Zna,Znb,Zne,Znf,Zng,Znn,Zno,Znp,Znr,Zns,Znt,Znu,Znv,Znw,Zn5,Zoa,Zoc,Zrd,Zos,Zot,Zo7,Zo8,Zo9,Zpc,Zpi,Zpu,Zp8,Zqf,Zqg,Zqh,Zqi,Zqk,Zql,Zqm,Zqn,Zqr,List.length_drop,List.length_replicate,eq_self,true_and,and_true,Nat.zero_add,Nat.mul_one,h,hw,hI2,hdt,hI3,callable_43]
    tactic =>
    and_intros <;> try (first | omega | rfl | assumption)
    refine cl none (hc) trivial ?_
    sym =>
    simp [Zaa,Zab,Zac,Zad,Zae,Zaf,Zag,Zah,Zai,Zak,Zal,Zam,Zan,Zap,Zaq,Zav,Zaw,Zay,Zaz,Za0,Za1,Za2,Za3,Za4,Za5,Za9,Zba,Zbb,Zbc,Zbf,Zbg,Zbk,Zbl,Zbt,Zbu,Zbz,Zb0,Zb1,Zb9,Zch,Zcn,Zcv,Zc3,Zc4,Zc7,Zc8,Zc9,Zdc,Zdd,Zde,Zdf,Zdg,Zdh,Zdi,Zdj,Zdk,Zdo,Zdp,Zdt,Zdu,Zdv,Zdw,Zdx,Zdy,Zdz,Zd0,Zd1,Zd2,Zek,Zeq,Zet,Zev,Zew,Zez,Ze0,Ze1,Ze2,Ze3,Ze5,Ze8,Zfc,Zfd,Zfe,Zfh,Zfn,Zfp,Zfq,Zfr,Zfs,Zft,Zfu,Zfv,Zfx,Zf1,Zgd,Zgf,Zgh,Zgi,Zgr,Zgs,Zgt,Zgu,Zgv,Zg1,Zg2,Zg4,Zg6,Zhd,Zhe,Zhf,Zhg,Zhh,Zhn,Zho,Zhs,Zht,Zhu,Zh6,Zh7,Zin,Ziu,Ziv,Ziw,Zi6,Zi7,Zjh,Zji,Zjn,Zjr,Zkb,Zkv,Zla,Zlb,Zle,Zlj,Zll,Zlz,Zl2,Zmt,Zmv,Zmw,Zmy,Zm0,Zm1,Zm2,Zm5,Zm6,Zm7,Zna,Znb,Zne,Znf,Zng,Znn,Zno,Znp,Znr,Zns,Znt,Znu,Znv,Znw,Zn5,Zoa,Zoc,Zrd,Zos,Zot,Zo7,Zo8,Zo9,Zpc,Zpi,Zpu,Zp8,Zqf,Zqg,Zqh,Zqi,Zqk,Zql,Zqm,Zqn,Zqr,List.length_drop,List.length_replicate,eq_self,true_and,and_true,Nat.zero_add,Nat.mul_one,h,hw,hI2,hW2,hsW,hfW,hS2,cU_cells,s0,s1,s2,s3,s4,s5,s6,s7]
    tactic =>
    and_intros <;> try (first | omega | rfl | assumption)
    refine lpA (m13 K P W S m) 64 [(0, 0), (1, 1), (2, 2), (3, 13), (4, 16)] _ ⟨0, by omega, rfl⟩ (wkA ?_) ?_
    · sym =>
      simp [Zaa,Zab,Zac,Zad,Zae,Zaf,Zag,Zah,Zai,Zak,Zal,Zam,Zan,Zap,Zaq,Zav,Zaw,Zay,Zaz,Za0,Za1,Za2,Za3,Za4,Za5,Za9,Zba,Zbb,Zbc,Zbf,Zbg,Zbk,Zbl,Zbt,Zbu,Zbz,Zb0,Zb1,Zb9,Zch,Zcn,Zcv,Zc3,Zc4,Zc7,Zc8,Zc9,Zdc,Zdd,Zde,Zdf,Zdg,Zdh,Zdi,Zdj,Zdk,Zdo,Zdp,Zdt,Zdu,Zdv,Zdw,Zdx,Zdy,Zdz,Zd0,Zd1,Zd2,Zek,Zeq,Zet,Zev,Zew,Zez,Ze0,Ze1,Ze2,Ze3,Ze5,Ze8,Zfc,Zfd,Zfe,Zfh,Zfn,Zfp,Zfq,Zfr,Zfs,Zft,Zfu,Zfv,Zfx,Zf1,Zgd,Zgf,Zgh,Zgi,Zgr,Zgs,Zgt,Zgu,Zgv,Zg1,Zg2,Zg4,Zg6,Zhd,Zhe,Zhf,Zhg,Zhh,Zhn,Zho,Zhs,Zht,Zhu,Zh6,Zh7,Zin,Ziu,Ziv,Ziw,Zi6,Zi7,Zjh,Zji,Zjn,Zjr,Zkb,Zkv,Zla,Zlb,Zle,Zlj,Zll,Zlz,Zl2,Zmt,Zmv,Zmw,Zmy,Zm0,Zm1,Zm2,Zm5,Zm6,Zm7,Zna,Znb,Zne,Znf,Zng,Znn,Zno,Znp,Znr,Zns,Znt,Znu,Znv,Znw,Zn5,Zoa,Zoc,Zrd,Zos,Zot,Zo7,Zo8,Zo9,Zpc,Zpi,Zpu,Zp8,Zqf,Zqg,Zqh,Zqi,Zqk,Zql,Zqm,Zqn,Zqr,List.length_drop,List.length_replicate,eq_self,true_and,and_true,Nat.zero_add,Nat.mul_one]
      tactic =>
      exact ⟨rs_self z32_okI, rs_self (cU_okI S), rs_self (cU_okI K), rs_self (cU_okI W), cU_rs _ _ _ _ _ (cU8 S hSl).symm⟩
    rintro k2 s ⟨i, hi, rfl⟩
    have hTl := druns_length K W S hSl i
    have hTs : druns K W S (i + 1) = drnd (druns K W S i) (K.getD i 0) (W.getD i 0) := rfl
    obtain ⟨T, hT⟩ : ∃ T, T = druns K W S i := ⟨_, rfl⟩
    rw [← hT] at hTl hTs ⊢
    by_cases h2 : i < 64
    · have hI2 : IN i < (64 : Int) := by simp only [IN]; omega
      have hw2 := w64s i (by omega)
      have hT2 : (cU T).length = 8 := by rw [cU_length, hTl]
      have hK2 : (cU K).length = 64 := by rw [cU_length, hKl]
      have t0 := cU_get T 0 (by omega)
      have t1 := cU_get T 1 (by omega)
      have t2 := cU_get T 2 (by omega)
      have t3 := cU_get T 3 (by omega)
      have t4 := cU_get T 4 (by omega)
      have t5 := cU_get T 5 (by omega)
      have t6 := cU_get T 6 (by omega)
      have t7 := cU_get T 7 (by omega)
      have gK := cU_get K i (by omega)
      have gW := cU_get W i (by omega)
      sym =>
      simp [Zaa,Zab,Zac,Zad,Zae,Zaf,Zag,Zah,Zai,Zak,Zal,Zam,Zan,Zap,Zaq,Zav,Zaw,Zay,Zaz,Za0,Za1,Za2,Za3,Za4,Za5,Za9,Zba,Zbb,Zbc,Zbf,Zbg,Zbk,Zbl,Zbt,Zbu,Zbz,Zb0,Zb1,Zb9,Zch,Zcn,Zcv,Zc3,Zc4,Zc7,Zc8,Zc9,Zdc,Zdd,Zde,Zdf,Zdg,Zdh,Zdi,Zdj,Zdk,Zdo,Zdp,Zdt,Zdu,Zdv,Zdw,Zdx,Zdy,Zdz,Zd0,Zd1,Zd2,Zek,Zeq,Zet,Zev,Zew,Zez,Ze0,Ze1,Ze2,Ze3,Ze5,Ze8,Zfc,Zfd,Zfe,Zfh,Zfn,Zfp,Zfq,Zfr,Zfs,Zft,Zfu,Zfv,Zfx,Zf1,Zgd,Zgf,Zgh,Zgi,Zgr,Zgs,Zgt,Zgu,Zgv,Zg1,Zg2,Zg4,Zg6,Zhd,Zhe,Zhf,Zhg,Zhh,Zhn,Zho,Zhs,Zht,Zhu,Zh6,Zh7,Zin,Ziu,Ziv,Ziw,Zi6,Zi7,Zjh,Zji,Zjn,Zjr,Zkb,Zkv,Zla,Zlb,Zle,Zlj,Zll,Zlz,Zl2,Zmt,Zmv,Zmw,Zmy,Zm0,Zm1,Zm2,Zm5,Zm6,Zm7,Zna,Znb,Zne,Znf,Zng,Znn,Zno,Znp,Znr,Zns,Znt,Znu,Znv,Znw,Zn5,Zoa,Zoc,Zrd,Zos,Zot,Zo7,Zo8,Zo9,Zpc,Zpi,Zpu,Zp8,Zqf,Zqg,Zqh,Zqi,Zqk,Zql,Zqm,Zqn,Zqr,List.length_drop,List.length_replicate,eq_self,true_and,and_true,Nat.zero_add,Nat.mul_one,hI2,hw2,hT2,t0,t4,t7,callable_44]
      tactic =>
      refine cl none (turn_con _ 6 (by decide) (by decide)) trivial ?_
      sym =>
      simp [Zaa,Zab,Zac,Zad,Zae,Zaf,Zag,Zah,Zai,Zak,Zal,Zam,Zan,Zap,Zaq,Zav,Zaw,Zay,Zaz,Za0,Za1,Za2,Za3,Za4,Za5,Za9,Zba,Zbb,Zbc,Zbf,Zbg,Zbk,Zbl,Zbt,Zbu,Zbz,Zb0,Zb1,Zb9,Zch,Zcn,Zcv,Zc3,Zc4,Zc7,Zc8,Zc9,Zdc,Zdd,Zde,Zdf,Zdg,Zdh,Zdi,Zdj,Zdk,Zdo,Zdp,Zdt,Zdu,Zdv,Zdw,Zdx,Zdy,Zdz,Zd0,Zd1,Zd2,Zek,Zeq,Zet,Zev,Zew,Zez,Ze0,Ze1,Ze2,Ze3,Ze5,Ze8,Zfc,Zfd,Zfe,Zfh,Zfn,Zfp,Zfq,Zfr,Zfs,Zft,Zfu,Zfv,Zfx,Zf1,Zgd,Zgf,Zgh,Zgi,Zgr,Zgs,Zgt,Zgu,Zgv,Zg1,Zg2,Zg4,Zg6,Zhd,Zhe,Zhf,Zhg,Zhh,Zhn,Zho,Zhs,Zht,Zhu,Zh6,Zh7,Zin,Ziu,Ziv,Ziw,Zi6,Zi7,Zjh,Zji,Zjn,Zjr,Zkb,Zkv,Zla,Zlb,Zle,Zlj,Zll,Zlz,Zl2,Zmt,Zmv,Zmw,Zmy,Zm0,Zm1,Zm2,Zm5,Zm6,Zm7,Zna,Znb,Zne,Znf,Zng,Znn,Zno,Znp,Znr,Zns,Znt,Znu,Znv,Znw,Zn5,Zoa,Zoc,Zrd,Zos,Zot,Zo7,Zo8,Zo9,Zpc,Zpi,Zpu,Zp8,Zqf,Zqg,Zqh,Zqi,Zqk,Zql,Zqm,Zqn,Zqr,List.length_drop,List.length_replicate,eq_self,true_and,and_true,Nat.zero_add,Nat.mul_one,hT2,t0,t4,t7,callable_44]
      tactic =>
      refine cl none (turn_con _ 11 (by decide) (by decide)) trivial ?_
      sym =>
      simp [Zaa,Zab,Zac,Zad,Zae,Zaf,Zag,Zah,Zai,Zak,Zal,Zam,Zan,Zap,Zaq,Zav,Zaw,Zay,Zaz,Za0,Za1,Za2,Za3,Za4,Za5,Za9,Zba,Zbb,Zbc,Zbf,Zbg,Zbk,Zbl,Zbt,Zbu,Zbz,Zb0,Zb1,Zb9,Zch,Zcn,Zcv,Zc3,Zc4,Zc7,Zc8,Zc9,Zdc,Zdd,Zde,Zdf,Zdg,Zdh,Zdi,Zdj,Zdk,Zdo,Zdp,Zdt,Zdu,Zdv,Zdw,Zdx,Zdy,Zdz,Zd0,Zd1,Zd2,Zek,Zeq,Zet,Zev,Zew,Zez,Ze0,Ze1,Ze2,Ze3,Ze5,Ze8,Zfc,Zfd,Zfe,Zfh,Zfn,Zfp,Zfq,Zfr,Zfs,Zft,Zfu,Zfv,Zfx,Zf1,Zgd,Zgf,Zgh,Zgi,Zgr,Zgs,Zgt,Zgu,Zgv,Zg1,Zg2,Zg4,Zg6,Zhd,Zhe,Zhf,Zhg,Zhh,Zhn,Zho,Zhs,Zht,Zhu,Zh6,Zh7,Zin,Ziu,Ziv,Ziw,Zi6,Zi7,Zjh,Zji,Zjn,Zjr,Zkb,Zkv,Zla,Zlb,Zle,Zlj,Zll,Zlz,Zl2,Zmt,Zmv,Zmw,Zmy,Zm0,Zm1,Zm2,Zm5,Zm6,Zm7,Zna,Znb,Zne,Znf,Zng,Znn,Zno,Znp,Znr,Zns,Znt,Znu,Znv,Znw,Zn5,Zoa,Zoc,Zrd,Zos,Zot,Zo7,Zo8,Zo9,Zpc,Zpi,Zpu,Zp8,Zqf,Zqg,Zqh,Zqi,Zqk,Zql,Zqm,Zqn,Zqr,List.length_drop,List.length_replicate,eq_self,true_and,and_true,Nat.zero_add,Nat.mul_one,hT2,t0,t4,t7,callable_44]
      tactic =>
      refine cl none (turn_con _ 25 (by decide) (by decide)) trivial ?_
      sym =>
      simp [Zaa,Zab,Zac,Zad,Zae,Zaf,Zag,Zah,Zai,Zak,Zal,Zam,Zan,Zap,Zaq,Zav,Zaw,Zay,Zaz,Za0,Za1,Za2,Za3,Za4,Za5,Za9,Zba,Zbb,Zbc,Zbf,Zbg,Zbk,Zbl,Zbt,Zbu,Zbz,Zb0,Zb1,Zb9,Zch,Zcn,Zcv,Zc3,Zc4,Zc7,Zc8,Zc9,Zdc,Zdd,Zde,Zdf,Zdg,Zdh,Zdi,Zdj,Zdk,Zdo,Zdp,Zdt,Zdu,Zdv,Zdw,Zdx,Zdy,Zdz,Zd0,Zd1,Zd2,Zek,Zeq,Zet,Zev,Zew,Zez,Ze0,Ze1,Ze2,Ze3,Ze5,Ze8,Zfc,Zfd,Zfe,Zfh,Zfn,Zfp,Zfq,Zfr,Zfs,Zft,Zfu,Zfv,Zfx,Zf1,Zgd,Zgf,Zgh,Zgi,Zgr,Zgs,Zgt,Zgu,Zgv,Zg1,Zg2,Zg4,Zg6,Zhd,Zhe,Zhf,Zhg,Zhh,Zhn,Zho,Zhs,Zht,Zhu,Zh6,Zh7,Zin,Ziu,Ziv,Ziw,Zi6,Zi7,Zjh,Zji,Zjn,Zjr,Zkb,Zkv,Zla,Zlb,Zle,Zlj,Zll,Zlz,Zl2,Zmt,Zmv,Zmw,Zmy,Zm0,Zm1,Zm2,Zm5,Zm6,Zm7,Zna,Znb,Zne,Znf,Zng,Znn,Zno,Znp,Znr,Zns,Znt,Znu,Znv,Znw,Zn5,Zoa,Zoc,Zrd,Zos,Zot,Zo7,Zo8,Zo9,Zpc,Zpi,Zpu,Zp8,Zqf,Zqg,Zqh,Zqi,Zqk,Zql,Zqm,Zqn,Zqr,List.length_drop,List.length_replicate,eq_self,true_and,and_true,Nat.zero_add,Nat.mul_one,hT2,hK2,hW2,t0,t4,t5,t6,t7,gK,gW,callable_44]
      tactic =>
      refine ⟨h2, h2, h2, h2, ?_⟩
      refine cl none (turn_con _ 2 (by decide) (by decide)) trivial ?_
      sym =>
      simp [Zaa,Zab,Zac,Zad,Zae,Zaf,Zag,Zah,Zai,Zak,Zal,Zam,Zan,Zap,Zaq,Zav,Zaw,Zay,Zaz,Za0,Za1,Za2,Za3,Za4,Za5,Za9,Zba,Zbb,Zbc,Zbf,Zbg,Zbk,Zbl,Zbt,Zbu,Zbz,Zb0,Zb1,Zb9,Zch,Zcn,Zcv,Zc3,Zc4,Zc7,Zc8,Zc9,Zdc,Zdd,Zde,Zdf,Zdg,Zdh,Zdi,Zdj,Zdk,Zdo,Zdp,Zdt,Zdu,Zdv,Zdw,Zdx,Zdy,Zdz,Zd0,Zd1,Zd2,Zek,Zeq,Zet,Zev,Zew,Zez,Ze0,Ze1,Ze2,Ze3,Ze5,Ze8,Zfc,Zfd,Zfe,Zfh,Zfn,Zfp,Zfq,Zfr,Zfs,Zft,Zfu,Zfv,Zfx,Zf1,Zgd,Zgf,Zgh,Zgi,Zgr,Zgs,Zgt,Zgu,Zgv,Zg1,Zg2,Zg4,Zg6,Zhd,Zhe,Zhf,Zhg,Zhh,Zhn,Zho,Zhs,Zht,Zhu,Zh6,Zh7,Zin,Ziu,Ziv,Ziw,Zi6,Zi7,Zjh,Zji,Zjn,Zjr,Zkb,Zkv,Zla,Zlb,Zle,Zlj,Zll,Zlz,Zl2,Zmt,Zmv,Zmw,Zmy,Zm0,Zm1,Zm2,Zm5,Zm6,Zm7,Zna,Znb,Zne,Znf,Zng,Znn,Zno,Znp,Znr,Zns,Znt,Znu,Znv,Znw,Zn5,Zoa,Zoc,Zrd,Zos,Zot,Zo7,Zo8,Zo9,Zpc,Zpi,Zpu,Zp8,Zqf,Zqg,Zqh,Zqi,Zqk,Zql,Zqm,Zqn,Zqr,List.length_drop,List.length_replicate,eq_self,true_and,and_true,Nat.zero_add,Nat.mul_one,hT2,t0,t1,t2,t4,t7,callable_44]
      tactic =>
      refine cl none (turn_con _ 13 (by decide) (by decide)) trivial ?_
      sym =>
      simp [Zaa,Zab,Zac,Zad,Zae,Zaf,Zag,Zah,Zai,Zak,Zal,Zam,Zan,Zap,Zaq,Zav,Zaw,Zay,Zaz,Za0,Za1,Za2,Za3,Za4,Za5,Za9,Zba,Zbb,Zbc,Zbf,Zbg,Zbk,Zbl,Zbt,Zbu,Zbz,Zb0,Zb1,Zb9,Zch,Zcn,Zcv,Zc3,Zc4,Zc7,Zc8,Zc9,Zdc,Zdd,Zde,Zdf,Zdg,Zdh,Zdi,Zdj,Zdk,Zdo,Zdp,Zdt,Zdu,Zdv,Zdw,Zdx,Zdy,Zdz,Zd0,Zd1,Zd2,Zek,Zeq,Zet,Zev,Zew,Zez,Ze0,Ze1,Ze2,Ze3,Ze5,Ze8,Zfc,Zfd,Zfe,Zfh,Zfn,Zfp,Zfq,Zfr,Zfs,Zft,Zfu,Zfv,Zfx,Zf1,Zgd,Zgf,Zgh,Zgi,Zgr,Zgs,Zgt,Zgu,Zgv,Zg1,Zg2,Zg4,Zg6,Zhd,Zhe,Zhf,Zhg,Zhh,Zhn,Zho,Zhs,Zht,Zhu,Zh6,Zh7,Zin,Ziu,Ziv,Ziw,Zi6,Zi7,Zjh,Zji,Zjn,Zjr,Zkb,Zkv,Zla,Zlb,Zle,Zlj,Zll,Zlz,Zl2,Zmt,Zmv,Zmw,Zmy,Zm0,Zm1,Zm2,Zm5,Zm6,Zm7,Zna,Znb,Zne,Znf,Zng,Znn,Zno,Znp,Znr,Zns,Znt,Znu,Znv,Znw,Zn5,Zoa,Zoc,Zrd,Zos,Zot,Zo7,Zo8,Zo9,Zpc,Zpi,Zpu,Zp8,Zqf,Zqg,Zqh,Zqi,Zqk,Zql,Zqm,Zqn,Zqr,List.length_drop,List.length_replicate,eq_self,true_and,and_true,Nat.zero_add,Nat.mul_one,hT2,t0,t1,t2,t4,t7,callable_44]
      tactic =>
      refine cl none (turn_con _ 22 (by decide) (by decide)) trivial ?_
      sym =>
      simp [Zaa,Zab,Zac,Zad,Zae,Zaf,Zag,Zah,Zai,Zak,Zal,Zam,Zan,Zap,Zaq,Zav,Zaw,Zay,Zaz,Za0,Za1,Za2,Za3,Za4,Za5,Za9,Zba,Zbb,Zbc,Zbf,Zbg,Zbk,Zbl,Zbt,Zbu,Zbz,Zb0,Zb1,Zb9,Zch,Zcn,Zcv,Zc3,Zc4,Zc7,Zc8,Zc9,Zdc,Zdd,Zde,Zdf,Zdg,Zdh,Zdi,Zdj,Zdk,Zdo,Zdp,Zdt,Zdu,Zdv,Zdw,Zdx,Zdy,Zdz,Zd0,Zd1,Zd2,Zek,Zeq,Zet,Zev,Zew,Zez,Ze0,Ze1,Ze2,Ze3,Ze5,Ze8,Zfc,Zfd,Zfe,Zfh,Zfn,Zfp,Zfq,Zfr,Zfs,Zft,Zfu,Zfv,Zfx,Zf1,Zgd,Zgf,Zgh,Zgi,Zgr,Zgs,Zgt,Zgu,Zgv,Zg1,Zg2,Zg4,Zg6,Zhd,Zhe,Zhf,Zhg,Zhh,Zhn,Zho,Zhs,Zht,Zhu,Zh6,Zh7,Zin,Ziu,Ziv,Ziw,Zi6,Zi7,Zjh,Zji,Zjn,Zjr,Zkb,Zkv,Zla,Zlb,Zle,Zlj,Zll,Zlz,Zl2,Zmt,Zmv,Zmw,Zmy,Zm0,Zm1,Zm2,Zm5,Zm6,Zm7,Zna,Znb,Zne,Znf,Zng,Znn,Zno,Znp,Znr,Zns,Znt,Znu,Znv,Znw,Zn5,Zoa,Zoc,Zrd,Zos,Zot,Zo7,Zo8,Zo9,Zpc,Zpi,Zpu,Zp8,Zqf,Zqg,Zqh,Zqi,Zqk,Zql,Zqm,Zqn,Zqr,List.length_drop,List.length_replicate,eq_self,true_and,and_true,Nat.zero_add,Nat.mul_one,hT2,t0,t1,t2,t3,t4,t5,t6,t7,hw2]
      tactic =>
      unfold NextL; refine ⟨(k2 - 1), [(0, 0), (1, 1), (2, 2), (3, 3), (4, 4)], _, by omega, ⟨i + 1, by omega, rfl⟩, wkA ?_⟩
      sym =>
      simp [Zaa,Zab,Zac,Zad,Zae,Zaf,Zag,Zah,Zai,Zak,Zal,Zam,Zan,Zap,Zaq,Zav,Zaw,Zay,Zaz,Za0,Za1,Za2,Za3,Za4,Za5,Za9,Zba,Zbb,Zbc,Zbf,Zbg,Zbk,Zbl,Zbt,Zbu,Zbz,Zb0,Zb1,Zb9,Zch,Zcn,Zcv,Zc3,Zc4,Zc7,Zc8,Zc9,Zdc,Zdd,Zde,Zdf,Zdg,Zdh,Zdi,Zdj,Zdk,Zdo,Zdp,Zdt,Zdu,Zdv,Zdw,Zdx,Zdy,Zdz,Zd0,Zd1,Zd2,Zek,Zeq,Zet,Zev,Zew,Zez,Ze0,Ze1,Ze2,Ze3,Ze5,Ze8,Zfc,Zfd,Zfe,Zfh,Zfn,Zfp,Zfq,Zfr,Zfs,Zft,Zfu,Zfv,Zfx,Zf1,Zgd,Zgf,Zgh,Zgi,Zgr,Zgs,Zgt,Zgu,Zgv,Zg1,Zg2,Zg4,Zg6,Zhd,Zhe,Zhf,Zhg,Zhh,Zhn,Zho,Zhs,Zht,Zhu,Zh6,Zh7,Zin,Ziu,Ziv,Ziw,Zi6,Zi7,Zjh,Zji,Zjn,Zjr,Zkb,Zkv,Zla,Zlb,Zle,Zlj,Zll,Zlz,Zl2,Zmt,Zmv,Zmw,Zmy,Zm0,Zm1,Zm2,Zm5,Zm6,Zm7,Zna,Znb,Zne,Znf,Zng,Znn,Zno,Znp,Znr,Zns,Znt,Znu,Znv,Znw,Zn5,Zoa,Zoc,Zrd,Zos,Zot,Zo7,Zo8,Zo9,Zpc,Zpi,Zpu,Zp8,Zqf,Zqg,Zqh,Zqi,Zqk,Zql,Zqm,Zqn,Zqr,List.length_drop,List.length_replicate,eq_self,true_and,and_true,Nat.zero_add,Nat.mul_one]
      tactic =>
      refine ⟨rs_self z32_okI, rs_self (cU_okI S), rs_self (cU_okI K), rs_self (cU_okI W), cU_rs _ _ _ _ _ ?_⟩
      rw [hTs]
      match T, hTl with
      | [a0, a1, a2, a3, a4, a5, a6, a7], _ => rfl
    have hI2 : ¬ IN i < (64 : Int) := by simp only [IN]; omega
    obtain rfl : i = 64 := by omega
    rw [← hT] at hstep
    sym =>
    simp [Zaa,Zab,Zac,Zad,Zae,Zaf,Zag,Zah,Zai,Zak,Zal,Zam,Zan,Zap,Zaq,Zav,Zaw,Zay,Zaz,Za0,Za1,Za2,Za3,Za4,Za5,Za9,Zba,Zbb,Zbc,Zbf,Zbg,Zbk,Zbl,Zbt,Zbu,Zbz,Zb0,Zb1,Zb9,Zch,Zcn,Zcv,Zc3,Zc4,Zc7,Zc8,Zc9,Zdc,Zdd,Zde,Zdf,Zdg,Zdh,Zdi,Zdj,Zdk,Zdo,Zdp,Zdt,Zdu,Zdv,Zdw,Zdx,Zdy,Zdz,Zd0,Zd1,Zd2,Zek,Zeq,Zet,Zev,Zew,Zez,Ze0,Ze1,Ze2,Ze3,Ze5,Ze8,Zfc,Zfd,Zfe,Zfh,Zfn,Zfp,Zfq,Zfr,Zfs,Zft,Zfu,Zfv,Zfx,Zf1,Zgd,Zgf,Zgh,Zgi,Zgr,Zgs,Zgt,Zgu,Zgv,Zg1,Zg2,Zg4,Zg6,Zhd,Zhe,Zhf,Zhg,Zhh,Zhn,Zho,Zhs,Zht,Zhu,Zh6,Zh7,Zin,Ziu,Ziv,Ziw,Zi6,Zi7,Zjh,Zji,Zjn,Zjr,Zkb,Zkv,Zla,Zlb,Zle,Zlj,Zll,Zlz,Zl2,Zmt,Zmv,Zmw,Zmy,Zm0,Zm1,Zm2,Zm5,Zm6,Zm7,Zna,Znb,Zne,Znf,Zng,Znn,Zno,Znp,Znr,Zns,Znt,Znu,Znv,Znw,Zn5,Zoa,Zoc,Zrd,Zos,Zot,Zo7,Zo8,Zo9,Zpc,Zpi,Zpu,Zp8,Zqf,Zqg,Zqh,Zqi,Zqk,Zql,Zqm,Zqn,Zqr,List.length_drop,List.length_replicate,eq_self,true_and,and_true,Nat.zero_add,Nat.mul_one,hI2]
    tactic =>
    refine lpA (n13 K P T S m) 8 [(0, 0), (1, 1), (2, 2), (3, 4)] _ ⟨0, by omega, rfl⟩ (wkA ?_) ?_
    · sym =>
      simp [Zaa,Zab,Zac,Zad,Zae,Zaf,Zag,Zah,Zai,Zak,Zal,Zam,Zan,Zap,Zaq,Zav,Zaw,Zay,Zaz,Za0,Za1,Za2,Za3,Za4,Za5,Za9,Zba,Zbb,Zbc,Zbf,Zbg,Zbk,Zbl,Zbt,Zbu,Zbz,Zb0,Zb1,Zb9,Zch,Zcn,Zcv,Zc3,Zc4,Zc7,Zc8,Zc9,Zdc,Zdd,Zde,Zdf,Zdg,Zdh,Zdi,Zdj,Zdk,Zdo,Zdp,Zdt,Zdu,Zdv,Zdw,Zdx,Zdy,Zdz,Zd0,Zd1,Zd2,Zek,Zeq,Zet,Zev,Zew,Zez,Ze0,Ze1,Ze2,Ze3,Ze5,Ze8,Zfc,Zfd,Zfe,Zfh,Zfn,Zfp,Zfq,Zfr,Zfs,Zft,Zfu,Zfv,Zfx,Zf1,Zgd,Zgf,Zgh,Zgi,Zgr,Zgs,Zgt,Zgu,Zgv,Zg1,Zg2,Zg4,Zg6,Zhd,Zhe,Zhf,Zhg,Zhh,Zhn,Zho,Zhs,Zht,Zhu,Zh6,Zh7,Zin,Ziu,Ziv,Ziw,Zi6,Zi7,Zjh,Zji,Zjn,Zjr,Zkb,Zkv,Zla,Zlb,Zle,Zlj,Zll,Zlz,Zl2,Zmt,Zmv,Zmw,Zmy,Zm0,Zm1,Zm2,Zm5,Zm6,Zm7,Zna,Znb,Zne,Znf,Zng,Znn,Zno,Znp,Znr,Zns,Znt,Znu,Znv,Znw,Zn5,Zoa,Zoc,Zrd,Zos,Zot,Zo7,Zo8,Zo9,Zpc,Zpi,Zpu,Zp8,Zqf,Zqg,Zqh,Zqi,Zqk,Zql,Zqm,Zqn,Zqr,List.length_drop,List.length_replicate,eq_self,true_and,and_true,Nat.zero_add,Nat.mul_one]
      tactic =>
      exact ⟨rs_self z32_okI, rs_self (cU_okI S), rs_self (cU_okI K), rs_self (cU_okI T)⟩
    rintro k3 s ⟨j, hj, rfl⟩
    have hZl := dsums_length S T j
    have hZs : dsums S T (j + 1) = (dsums S T j).set j (w32 ((dsums S T j).getD j 0 + T.getD j 0)) := rfl
    obtain ⟨Z, hZ⟩ : ∃ Z, Z = dsums S T j := ⟨_, rfl⟩
    rw [← hZ] at hZl hZs ⊢
    by_cases h3 : j < 8
    · have hI3 : IN j < (8 : Int) := by simp only [IN]; omega
      have hw3 := w64s j (by omega)
      have hZ2 : (cU Z).length = 8 := by rw [cU_length, hZl, hSl]
      have hT2 : (cU T).length = 8 := by rw [cU_length, hTl]
      have gZ := cU_get Z j (by omega)
      have gT := cU_get T j (by omega)
      have hs2 := cU_set Z j
      sym =>
      simp [Zaa,Zab,Zac,Zad,Zae,Zaf,Zag,Zah,Zai,Zak,Zal,Zam,Zan,Zap,Zaq,Zav,Zaw,Zay,Zaz,Za0,Za1,Za2,Za3,Za4,Za5,Za9,Zba,Zbb,Zbc,Zbf,Zbg,Zbk,Zbl,Zbt,Zbu,Zbz,Zb0,Zb1,Zb9,Zch,Zcn,Zcv,Zc3,Zc4,Zc7,Zc8,Zc9,Zdc,Zdd,Zde,Zdf,Zdg,Zdh,Zdi,Zdj,Zdk,Zdo,Zdp,Zdt,Zdu,Zdv,Zdw,Zdx,Zdy,Zdz,Zd0,Zd1,Zd2,Zek,Zeq,Zet,Zev,Zew,Zez,Ze0,Ze1,Ze2,Ze3,Ze5,Ze8,Zfc,Zfd,Zfe,Zfh,Zfn,Zfp,Zfq,Zfr,Zfs,Zft,Zfu,Zfv,Zfx,Zf1,Zgd,Zgf,Zgh,Zgi,Zgr,Zgs,Zgt,Zgu,Zgv,Zg1,Zg2,Zg4,Zg6,Zhd,Zhe,Zhf,Zhg,Zhh,Zhn,Zho,Zhs,Zht,Zhu,Zh6,Zh7,Zin,Ziu,Ziv,Ziw,Zi6,Zi7,Zjh,Zji,Zjn,Zjr,Zkb,Zkv,Zla,Zlb,Zle,Zlj,Zll,Zlz,Zl2,Zmt,Zmv,Zmw,Zmy,Zm0,Zm1,Zm2,Zm5,Zm6,Zm7,Zna,Znb,Zne,Znf,Zng,Znn,Zno,Znp,Znr,Zns,Znt,Znu,Znv,Znw,Zn5,Zoa,Zoc,Zrd,Zos,Zot,Zo7,Zo8,Zo9,Zpc,Zpi,Zpu,Zp8,Zqf,Zqg,Zqh,Zqi,Zqk,Zql,Zqm,Zqn,Zqr,List.length_drop,List.length_replicate,eq_self,true_and,and_true,Nat.zero_add,Nat.mul_one,hI3,hw3,hZ2,hT2,gZ,gT,hs2]
      tactic =>
      and_intros <;> try (first | omega | rfl | assumption)
      unfold NextL; refine ⟨(k3 - 1), [(0, 0), (1, 1), (2, 2), (3, 3)], _, by omega, ⟨j + 1, by omega, rfl⟩, wkA ?_⟩
      sym =>
      simp [Zaa,Zab,Zac,Zad,Zae,Zaf,Zag,Zah,Zai,Zak,Zal,Zam,Zan,Zap,Zaq,Zav,Zaw,Zay,Zaz,Za0,Za1,Za2,Za3,Za4,Za5,Za9,Zba,Zbb,Zbc,Zbf,Zbg,Zbk,Zbl,Zbt,Zbu,Zbz,Zb0,Zb1,Zb9,Zch,Zcn,Zcv,Zc3,Zc4,Zc7,Zc8,Zc9,Zdc,Zdd,Zde,Zdf,Zdg,Zdh,Zdi,Zdj,Zdk,Zdo,Zdp,Zdt,Zdu,Zdv,Zdw,Zdx,Zdy,Zdz,Zd0,Zd1,Zd2,Zek,Zeq,Zet,Zev,Zew,Zez,Ze0,Ze1,Ze2,Ze3,Ze5,Ze8,Zfc,Zfd,Zfe,Zfh,Zfn,Zfp,Zfq,Zfr,Zfs,Zft,Zfu,Zfv,Zfx,Zf1,Zgd,Zgf,Zgh,Zgi,Zgr,Zgs,Zgt,Zgu,Zgv,Zg1,Zg2,Zg4,Zg6,Zhd,Zhe,Zhf,Zhg,Zhh,Zhn,Zho,Zhs,Zht,Zhu,Zh6,Zh7,Zin,Ziu,Ziv,Ziw,Zi6,Zi7,Zjh,Zji,Zjn,Zjr,Zkb,Zkv,Zla,Zlb,Zle,Zlj,Zll,Zlz,Zl2,Zmt,Zmv,Zmw,Zmy,Zm0,Zm1,Zm2,Zm5,Zm6,Zm7,Zna,Znb,Zne,Znf,Zng,Znn,Zno,Znp,Znr,Zns,Znt,Znu,Znv,Znw,Zn5,Zoa,Zoc,Zrd,Zos,Zot,Zo7,Zo8,Zo9,Zpc,Zpi,Zpu,Zp8,Zqf,Zqg,Zqh,Zqi,Zqk,Zql,Zqm,Zqn,Zqr,List.length_drop,List.length_replicate,eq_self,true_and,and_true,Nat.zero_add,Nat.mul_one]
      tactic =>
      refine ⟨rs_self z32_okI, cU_rs _ _ _ _ _ ?_, rs_self (cU_okI K), rs_self (cU_okI T)⟩
      rw [hZs]
      rfl
    have hI3 : ¬ IN j < (8 : Int) := by simp only [IN]; omega
    obtain rfl : j = 8 := by omega
    rw [← hZ] at hstep
    sym =>
    simp [Zaa,Zab,Zac,Zad,Zae,Zaf,Zag,Zah,Zai,Zak,Zal,Zam,Zan,Zap,Zaq,Zav,Zaw,Zay,Zaz,Za0,Za1,Za2,Za3,Za4,Za5,Za9,Zba,Zbb,Zbc,Zbf,Zbg,Zbk,Zbl,Zbt,Zbu,Zbz,Zb0,Zb1,Zb9,Zch,Zcn,Zcv,Zc3,Zc4,Zc7,Zc8,Zc9,Zdc,Zdd,Zde,Zdf,Zdg,Zdh,Zdi,Zdj,Zdk,Zdo,Zdp,Zdt,Zdu,Zdv,Zdw,Zdx,Zdy,Zdz,Zd0,Zd1,Zd2,Zek,Zeq,Zet,Zev,Zew,Zez,Ze0,Ze1,Ze2,Ze3,Ze5,Ze8,Zfc,Zfd,Zfe,Zfh,Zfn,Zfp,Zfq,Zfr,Zfs,Zft,Zfu,Zfv,Zfx,Zf1,Zgd,Zgf,Zgh,Zgi,Zgr,Zgs,Zgt,Zgu,Zgv,Zg1,Zg2,Zg4,Zg6,Zhd,Zhe,Zhf,Zhg,Zhh,Zhn,Zho,Zhs,Zht,Zhu,Zh6,Zh7,Zin,Ziu,Ziv,Ziw,Zi6,Zi7,Zjh,Zji,Zjn,Zjr,Zkb,Zkv,Zla,Zlb,Zle,Zlj,Zll,Zlz,Zl2,Zmt,Zmv,Zmw,Zmy,Zm0,Zm1,Zm2,Zm5,Zm6,Zm7,Zna,Znb,Zne,Znf,Zng,Znn,Zno,Znp,Znr,Zns,Znt,Znu,Znv,Znw,Zn5,Zoa,Zoc,Zrd,Zos,Zot,Zo7,Zo8,Zo9,Zpc,Zpi,Zpu,Zp8,Zqf,Zqg,Zqh,Zqi,Zqk,Zql,Zqm,Zqn,Zqr,List.length_drop,List.length_replicate,eq_self,true_and,and_true,Nat.zero_add,Nat.mul_one,hI3,hw]
    tactic =>
    unfold NextL; refine ⟨(k - 64), [(0, 0), (1, 1), (2, 2)], _, by omega, ⟨m + 1, by omega, rfl⟩, wkA ?_⟩
    rw [hstep]
    sym =>
    simp [Zaa,Zab,Zac,Zad,Zae,Zaf,Zag,Zah,Zai,Zak,Zal,Zam,Zan,Zap,Zaq,Zav,Zaw,Zay,Zaz,Za0,Za1,Za2,Za3,Za4,Za5,Za9,Zba,Zbb,Zbc,Zbf,Zbg,Zbk,Zbl,Zbt,Zbu,Zbz,Zb0,Zb1,Zb9,Zch,Zcn,Zcv,Zc3,Zc4,Zc7,Zc8,Zc9,Zdc,Zdd,Zde,Zdf,Zdg,Zdh,Zdi,Zdj,Zdk,Zdo,Zdp,Zdt,Zdu,Zdv,Zdw,Zdx,Zdy,Zdz,Zd0,Zd1,Zd2,Zek,Zeq,Zet,Zev,Zew,Zez,Ze0,Ze1,Ze2,Ze3,Ze5,Ze8,Zfc,Zfd,Zfe,Zfh,Zfn,Zfp,Zfq,Zfr,Zfs,Zft,Zfu,Zfv,Zfx,Zf1,Zgd,Zgf,Zgh,Zgi,Zgr,Zgs,Zgt,Zgu,Zgv,Zg1,Zg2,Zg4,Zg6,Zhd,Zhe,Zhf,Zhg,Zhh,Zhn,Zho,Zhs,Zht,Zhu,Zh6,Zh7,Zin,Ziu,Ziv,Ziw,Zi6,Zi7,Zjh,Zji,Zjn,Zjr,Zkb,Zkv,Zla,Zlb,Zle,Zlj,Zll,Zlz,Zl2,Zmt,Zmv,Zmw,Zmy,Zm0,Zm1,Zm2,Zm5,Zm6,Zm7,Zna,Znb,Zne,Znf,Zng,Znn,Zno,Znp,Znr,Zns,Znt,Znu,Znv,Znw,Zn5,Zoa,Zoc,Zrd,Zos,Zot,Zo7,Zo8,Zo9,Zpc,Zpi,Zpu,Zp8,Zqf,Zqg,Zqh,Zqi,Zqk,Zql,Zqm,Zqn,Zqr,List.length_drop,List.length_replicate,eq_self,true_and,and_true,Nat.zero_add,Nat.mul_one]
    tactic =>
    exact ⟨rfl, rs_self z32_okI, rs_self (cU_okI Z), rs_self (cU_okI K)⟩
  have hI2 : ¬ IN (64 * m) < IN P.length := by simp only [IN]; omega
  have hmm : P.length / 64 = m := by omega
  rw [hmm] at hdoc
  rw [hdoc]
  obtain ⟨T, hT⟩ : ∃ T, T = dabs P m := ⟨_, rfl⟩
  rw [← hT] at hSl ⊢
  sym =>
  simp [Zaa,Zab,Zac,Zad,Zae,Zaf,Zag,Zah,Zai,Zak,Zal,Zam,Zan,Zap,Zaq,Zav,Zaw,Zay,Zaz,Za0,Za1,Za2,Za3,Za4,Za5,Za9,Zba,Zbb,Zbc,Zbf,Zbg,Zbk,Zbl,Zbt,Zbu,Zbz,Zb0,Zb1,Zb9,Zch,Zcn,Zcv,Zc3,Zc4,Zc7,Zc8,Zc9,Zdc,Zdd,Zde,Zdf,Zdg,Zdh,Zdi,Zdj,Zdk,Zdo,Zdp,Zdt,Zdu,Zdv,Zdw,Zdx,Zdy,Zdz,Zd0,Zd1,Zd2,Zek,Zeq,Zet,Zev,Zew,Zez,Ze0,Ze1,Ze2,Ze3,Ze5,Ze8,Zfc,Zfd,Zfe,Zfh,Zfn,Zfp,Zfq,Zfr,Zfs,Zft,Zfu,Zfv,Zfx,Zf1,Zgd,Zgf,Zgh,Zgi,Zgr,Zgs,Zgt,Zgu,Zgv,Zg1,Zg2,Zg4,Zg6,Zhd,Zhe,Zhf,Zhg,Zhh,Zhn,Zho,Zhs,Zht,Zhu,Zh6,Zh7,Zin,Ziu,Ziv,Ziw,Zi6,Zi7,Zjh,Zji,Zjn,Zjr,Zkb,Zkv,Zla,Zlb,Zle,Zlj,Zll,Zlz,Zl2,Zmt,Zmv,Zmw,Zmy,Zm0,Zm1,Zm2,Zm5,Zm6,Zm7,Zna,Znb,Zne,Znf,Zng,Znn,Zno,Znp,Znr,Zns,Znt,Znu,Znv,Znw,Zn5,Zoa,Zoc,Zrd,Zos,Zot,Zo7,Zo8,Zo9,Zpc,Zpi,Zpu,Zp8,Zqf,Zqg,Zqh,Zqi,Zqk,Zql,Zqm,Zqn,Zqr,List.length_drop,List.length_replicate,eq_self,true_and,and_true,Nat.zero_add,Nat.mul_one,hI2,h]
  tactic =>
  refine lpA (o13 T) 32 [(0, 0), (1, 1), (2, 7)] _ ⟨0, by omega, rfl⟩ (wkA ?_) ?_
  · sym =>
    simp [Zaa,Zab,Zac,Zad,Zae,Zaf,Zag,Zah,Zai,Zak,Zal,Zam,Zan,Zap,Zaq,Zav,Zaw,Zay,Zaz,Za0,Za1,Za2,Za3,Za4,Za5,Za9,Zba,Zbb,Zbc,Zbf,Zbg,Zbk,Zbl,Zbt,Zbu,Zbz,Zb0,Zb1,Zb9,Zch,Zcn,Zcv,Zc3,Zc4,Zc7,Zc8,Zc9,Zdc,Zdd,Zde,Zdf,Zdg,Zdh,Zdi,Zdj,Zdk,Zdo,Zdp,Zdt,Zdu,Zdv,Zdw,Zdx,Zdy,Zdz,Zd0,Zd1,Zd2,Zek,Zeq,Zet,Zev,Zew,Zez,Ze0,Ze1,Ze2,Ze3,Ze5,Ze8,Zfc,Zfd,Zfe,Zfh,Zfn,Zfp,Zfq,Zfr,Zfs,Zft,Zfu,Zfv,Zfx,Zf1,Zgd,Zgf,Zgh,Zgi,Zgr,Zgs,Zgt,Zgu,Zgv,Zg1,Zg2,Zg4,Zg6,Zhd,Zhe,Zhf,Zhg,Zhh,Zhn,Zho,Zhs,Zht,Zhu,Zh6,Zh7,Zin,Ziu,Ziv,Ziw,Zi6,Zi7,Zjh,Zji,Zjn,Zjr,Zkb,Zkv,Zla,Zlb,Zle,Zlj,Zll,Zlz,Zl2,Zmt,Zmv,Zmw,Zmy,Zm0,Zm1,Zm2,Zm5,Zm6,Zm7,Zna,Znb,Zne,Znf,Zng,Znn,Zno,Znp,Znr,Zns,Znt,Znu,Znv,Znw,Zn5,Zoa,Zoc,Zrd,Zos,Zot,Zo7,Zo8,Zo9,Zpc,Zpi,Zpu,Zp8,Zqf,Zqg,Zqh,Zqi,Zqk,Zql,Zqm,Zqn,Zqr,List.length_drop,List.length_replicate,eq_self,true_and,and_true,Nat.zero_add,Nat.mul_one]
    tactic =>
    exact ⟨rs_self z32_okI, rs_self (cU_okI T), cB_rs _ _ _ _ _ rfl⟩
  rintro k2 s ⟨i, hi, rfl⟩
  have hol := oPart_length T i (by omega)
  by_cases h2 : i < 32
  · have hI : IN i < (32 : Int) := by simp only [IN]; omega
    have hw := w64s i (by omega)
    have hq := (q4 i).resolve_right (by omega)
    have hr4 : (IN i).tmod (4 : Int) = IN (i % 4) := by simp only [IN]; rw [Int.tmod_eq_emod_of_nonneg (by omega)]; omega
    have h8 : IntKind.i64.wrap (8 * IN (i % 4)) = IN (8 * (i % 4)) := by simp only [IN]; rw [w64 _ (by omega)]; omega
    have h3 : IntKind.i64.wrap (24 - IN (8 * (i % 4))) = IN (8 * (3 - i % 4)) := by simp only [IN]; rw [w64 _ (by omega)]; omega
    have gT := cU_get T (i / 4) (by omega)
    have hs2 := cB_set (oPart T i) i
    have hst := oPart_step T i h2
    sym =>
    simp [Zaa,Zab,Zac,Zad,Zae,Zaf,Zag,Zah,Zai,Zak,Zal,Zam,Zan,Zap,Zaq,Zav,Zaw,Zay,Zaz,Za0,Za1,Za2,Za3,Za4,Za5,Za9,Zba,Zbb,Zbc,Zbf,Zbg,Zbk,Zbl,Zbt,Zbu,Zbz,Zb0,Zb1,Zb9,Zch,Zcn,Zcv,Zc3,Zc4,Zc7,Zc8,Zc9,Zdc,Zdd,Zde,Zdf,Zdg,Zdh,Zdi,Zdj,Zdk,Zdo,Zdp,Zdt,Zdu,Zdv,Zdw,Zdx,Zdy,Zdz,Zd0,Zd1,Zd2,Zek,Zeq,Zet,Zev,Zew,Zez,Ze0,Ze1,Ze2,Ze3,Ze5,Ze8,Zfc,Zfd,Zfe,Zfh,Zfn,Zfp,Zfq,Zfr,Zfs,Zft,Zfu,Zfv,Zfx,Zf1,Zgd,Zgf,Zgh,Zgi,Zgr,Zgs,Zgt,Zgu,Zgv,Zg1,Zg2,Zg4,Zg6,Zhd,Zhe,Zhf,Zhg,Zhh,Zhn,Zho,Zhs,Zht,Zhu,Zh6,Zh7,Zin,Ziu,Ziv,Ziw,Zi6,Zi7,Zjh,Zji,Zjn,Zjr,Zkb,Zkv,Zla,Zlb,Zle,Zlj,Zll,Zlz,Zl2,Zmt,Zmv,Zmw,Zmy,Zm0,Zm1,Zm2,Zm5,Zm6,Zm7,Zna,Znb,Zne,Znf,Zng,Znn,Zno,Znp,Znr,Zns,Znt,Znu,Znv,Znw,Zn5,Zoa,Zoc,Zrd,Zos,Zot,Zo7,Zo8,Zo9,Zpc,Zpi,Zpu,Zp8,Zqf,Zqg,Zqh,Zqi,Zqk,Zql,Zqm,Zqn,Zqr,List.length_drop,List.length_replicate,eq_self,true_and,and_true,Nat.zero_add,Nat.mul_one,hI,hw,hq,hr4,h3,h8,gT,cB_length,cU_length,hSl,hol,hs2,hst]
    tactic =>
    refine ⟨by simp only [IN]; omega, by omega, by omega, ?_⟩
    unfold NextL; refine ⟨(k2 - 1), [(0, 0), (1, 1), (2, 2)], _, by omega, ⟨i + 1, by omega, rfl⟩, wkA ?_⟩
    sym =>
    simp [Zaa,Zab,Zac,Zad,Zae,Zaf,Zag,Zah,Zai,Zak,Zal,Zam,Zan,Zap,Zaq,Zav,Zaw,Zay,Zaz,Za0,Za1,Za2,Za3,Za4,Za5,Za9,Zba,Zbb,Zbc,Zbf,Zbg,Zbk,Zbl,Zbt,Zbu,Zbz,Zb0,Zb1,Zb9,Zch,Zcn,Zcv,Zc3,Zc4,Zc7,Zc8,Zc9,Zdc,Zdd,Zde,Zdf,Zdg,Zdh,Zdi,Zdj,Zdk,Zdo,Zdp,Zdt,Zdu,Zdv,Zdw,Zdx,Zdy,Zdz,Zd0,Zd1,Zd2,Zek,Zeq,Zet,Zev,Zew,Zez,Ze0,Ze1,Ze2,Ze3,Ze5,Ze8,Zfc,Zfd,Zfe,Zfh,Zfn,Zfp,Zfq,Zfr,Zfs,Zft,Zfu,Zfv,Zfx,Zf1,Zgd,Zgf,Zgh,Zgi,Zgr,Zgs,Zgt,Zgu,Zgv,Zg1,Zg2,Zg4,Zg6,Zhd,Zhe,Zhf,Zhg,Zhh,Zhn,Zho,Zhs,Zht,Zhu,Zh6,Zh7,Zin,Ziu,Ziv,Ziw,Zi6,Zi7,Zjh,Zji,Zjn,Zjr,Zkb,Zkv,Zla,Zlb,Zle,Zlj,Zll,Zlz,Zl2,Zmt,Zmv,Zmw,Zmy,Zm0,Zm1,Zm2,Zm5,Zm6,Zm7,Zna,Znb,Zne,Znf,Zng,Znn,Zno,Znp,Znr,Zns,Znt,Znu,Znv,Znw,Zn5,Zoa,Zoc,Zrd,Zos,Zot,Zo7,Zo8,Zo9,Zpc,Zpi,Zpu,Zp8,Zqf,Zqg,Zqh,Zqi,Zqk,Zql,Zqm,Zqn,Zqr,List.length_drop,List.length_replicate,eq_self,true_and,and_true,Nat.zero_add,Nat.mul_one]
    tactic =>
    exact ⟨rs_self z32_okI, rs_self (cU_okI _), rs_self (cB_okI _)⟩
  have hI : ¬ IN i < (32 : Int) := by simp only [IN]; omega
  obtain rfl : i = 32 := by omega
  rw [oPart_all]
  obtain ⟨X, hX⟩ : ∃ X, X = out32 T := ⟨_, rfl⟩
  have hXl : X.length = 32 := by rw [hX, out32_length]
  rw [← hX]
  have hr : rdb (cB X) 0 32 = cB X := rdb_all (by rw [cB_length, hXl])
  have hs : spl (List.replicate 32 (.sc (.int .u8 0))) 0 (cB X) = cB X := spl_new _ _ (by rw [cB_length, hXl]; simp)
  sym =>
  simp [Zaa,Zab,Zac,Zad,Zae,Zaf,Zag,Zah,Zai,Zak,Zal,Zam,Zan,Zap,Zaq,Zav,Zaw,Zay,Zaz,Za0,Za1,Za2,Za3,Za4,Za5,Za9,Zba,Zbb,Zbc,Zbf,Zbg,Zbk,Zbl,Zbt,Zbu,Zbz,Zb0,Zb1,Zb9,Zch,Zcn,Zcv,Zc3,Zc4,Zc7,Zc8,Zc9,Zdc,Zdd,Zde,Zdf,Zdg,Zdh,Zdi,Zdj,Zdk,Zdo,Zdp,Zdt,Zdu,Zdv,Zdw,Zdx,Zdy,Zdz,Zd0,Zd1,Zd2,Zek,Zeq,Zet,Zev,Zew,Zez,Ze0,Ze1,Ze2,Ze3,Ze5,Ze8,Zfc,Zfd,Zfe,Zfh,Zfn,Zfp,Zfq,Zfr,Zfs,Zft,Zfu,Zfv,Zfx,Zf1,Zgd,Zgf,Zgh,Zgi,Zgr,Zgs,Zgt,Zgu,Zgv,Zg1,Zg2,Zg4,Zg6,Zhd,Zhe,Zhf,Zhg,Zhh,Zhn,Zho,Zhs,Zht,Zhu,Zh6,Zh7,Zin,Ziu,Ziv,Ziw,Zi6,Zi7,Zjh,Zji,Zjn,Zjr,Zkb,Zkv,Zla,Zlb,Zle,Zlj,Zll,Zlz,Zl2,Zmt,Zmv,Zmw,Zmy,Zm0,Zm1,Zm2,Zm5,Zm6,Zm7,Zna,Znb,Zne,Znf,Zng,Znn,Zno,Znp,Znr,Zns,Znt,Znu,Znv,Znw,Zn5,Zoa,Zoc,Zrd,Zos,Zot,Zo7,Zo8,Zo9,Zpc,Zpi,Zpu,Zp8,Zqf,Zqg,Zqh,Zqi,Zqk,Zql,Zqm,Zqn,Zqr,List.length_drop,List.length_replicate,eq_self,true_and,and_true,Nat.zero_add,Nat.mul_one,hI,hr,hs,cB_length,hXl]
  tactic =>
  refine ⟨okF_cells (cB_okF X) _, endA ?_⟩
  sym =>
  simp [Zaa,Zab,Zac,Zad,Zae,Zaf,Zag,Zah,Zai,Zak,Zal,Zam,Zan,Zap,Zaq,Zav,Zaw,Zay,Zaz,Za0,Za1,Za2,Za3,Za4,Za5,Za9,Zba,Zbb,Zbc,Zbf,Zbg,Zbk,Zbl,Zbt,Zbu,Zbz,Zb0,Zb1,Zb9,Zch,Zcn,Zcv,Zc3,Zc4,Zc7,Zc8,Zc9,Zdc,Zdd,Zde,Zdf,Zdg,Zdh,Zdi,Zdj,Zdk,Zdo,Zdp,Zdt,Zdu,Zdv,Zdw,Zdx,Zdy,Zdz,Zd0,Zd1,Zd2,Zek,Zeq,Zet,Zev,Zew,Zez,Ze0,Ze1,Ze2,Ze3,Ze5,Ze8,Zfc,Zfd,Zfe,Zfh,Zfn,Zfp,Zfq,Zfr,Zfs,Zft,Zfu,Zfv,Zfx,Zf1,Zgd,Zgf,Zgh,Zgi,Zgr,Zgs,Zgt,Zgu,Zgv,Zg1,Zg2,Zg4,Zg6,Zhd,Zhe,Zhf,Zhg,Zhh,Zhn,Zho,Zhs,Zht,Zhu,Zh6,Zh7,Zin,Ziu,Ziv,Ziw,Zi6,Zi7,Zjh,Zji,Zjn,Zjr,Zkb,Zkv,Zla,Zlb,Zle,Zlj,Zll,Zlz,Zl2,Zmt,Zmv,Zmw,Zmy,Zm0,Zm1,Zm2,Zm5,Zm6,Zm7,Zna,Znb,Zne,Znf,Zng,Znn,Zno,Znp,Znr,Zns,Znt,Znu,Znv,Znw,Zn5,Zoa,Zoc,Zrd,Zos,Zot,Zo7,Zo8,Zo9,Zpc,Zpi,Zpu,Zp8,Zqf,Zqg,Zqh,Zqi,Zqk,Zql,Zqm,Zqn,Zqr,List.length_drop,List.length_replicate,eq_self,true_and,and_true,Nat.zero_add,Nat.mul_one]
  tactic =>
  exact rs_self (cB_okI X)
end Go.Proofs.Ytdjjibmjinllnaa.DigQ
