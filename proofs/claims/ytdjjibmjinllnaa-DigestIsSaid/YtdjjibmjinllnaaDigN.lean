import Derived.Test.YtdjjibmjinllnaaDigM
namespace Go.Proofs.Ytdjjibmjinllnaa.DigN
open Go Go.Sim Go.Sim.E Go.RowKit Go.Proofs Go.Proofs.Ytdjjibmjinllnaa.Cod Go.Proofs.Ytdjjibmjinllnaa.Tab Go.Proofs.Ytdjjibmjinllnaa.DigA Go.Proofs.Ytdjjibmjinllnaa.DigB Go.Proofs.Ytdjjibmjinllnaa.DigC Go.Proofs.Ytdjjibmjinllnaa.DigM
set_option linter.unusedVariables false
set_option linter.unusedSimpArgs false
set_option maxRecDepth 100000
set_option maxHeartbeats 4000000
def i42 (l : List Int) (k : Nat) (s : St) : Prop := ∃ j : Nat, j + k = padz l.length ∧ s = ⟨[(0, fB l), (3, .lv 0 0 (l.length + 1 + j))], [(0, ⟨cB (pad1 l j), 1, 0⟩)], 1⟩
def j42 (l : List Int) (b : Int) (k : Nat) (s : St) : Prop := ∃ j : Nat, j + k = 8 ∧ s = ⟨[(3, .lv 0 0 (l.length + 1 + padz l.length + j)), (4, L b), (5, I (7 - (j : Int)))], [(0, ⟨cB (pad2 l (IN l.length) j), 1, 0⟩)], 1⟩
theorem dfill_con (l : List Int) (hl : l.length ≤ 1000) : Con Try.prog 42 [] [fB l] [] (fB (fill l (IN l.length))) := by
  refine con_j b42 rfl ?_
  sym =>
  simp [Zaa,Zab,Zad,Zae,Zaf,Zag,Zah,Zai,Zak,Zal,Zam,Zan,Zap,Zaq,Zav,Zaw,Zay,Zaz,Za0,Za1,Za2,Za3,Za4,Za5,Za9,Zba,Zbb,Zbf,Zbl,Zcn,Zcz,Zc5,Zev,Zew,Zez,Ze0,Ze2,Ze3,Ze4,Ze5,Zfc,Zfd,Zfe,Zff,Zfg,Zfh,Zfn,Zfp,Zfr,Zfs,Zfu,Zf0,Zf4,Zgh,Zgi,Zgv,Zhf,Zhg,Zhh,Zh6,Zh7,Zh9,Ziq,Zir,Zix,Ziy,Ziz,Zi0,Zi1,Zi2,Zi3,Zi7,Zjj,Zjk,Zjo,Zmt,Zmv,Zmw,Zmx,Zmz,Zm2,Zna,Znb,Znh,Znl,Znm,Znn,Zno,Znp,Znr,Zos,Zot,Zo3,Zo4,Zo7,Zo8,Zo9,Zpc,Zpi,Zpo,Zp0,Zp1,Zp2,Zqf,Zqg,Zqh,Zqi,Zqk,Zql,Zqm,Zqn,Zqr,eq_self,true_and,and_true,Nat.zero_add,Nat.add_zero,Nat.mul_one,cB_length]
  tactic =>
  and_intros <;> try (first | omega | rfl | assumption)
  · exact cB_okF l
  have hz : padz l.length < 64 := Nat.mod_lt _ (by decide)
  have hz2 : (l.length + 1 + padz l.length) % 64 = 56 := by simp only [padz] at *; omega
  refine lpA (i42 l) (padz l.length) [(0, 4)] _ ⟨0, by omega, rfl⟩ (wkA ?_) ?_
  · sym =>
    simp [Zaa,Zab,Zad,Zae,Zaf,Zag,Zah,Zai,Zak,Zal,Zam,Zan,Zap,Zaq,Zav,Zaw,Zay,Zaz,Za0,Za1,Za2,Za3,Za4,Za5,Za9,Zba,Zbb,Zbf,Zbl,Zcn,Zcz,Zc5,Zev,Zew,Zez,Ze0,Ze2,Ze3,Ze4,Ze5,Zfc,Zfd,Zfe,Zff,Zfg,Zfh,Zfn,Zfp,Zfr,Zfs,Zfu,Zf0,Zf4,Zgh,Zgi,Zgv,Zhf,Zhg,Zhh,Zh6,Zh7,Zh9,Ziq,Zir,Zix,Ziy,Ziz,Zi0,Zi1,Zi2,Zi3,Zi7,Zjj,Zjk,Zjo,Zmt,Zmv,Zmw,Zmx,Zmz,Zm2,Zna,Znb,Znh,Znl,Znm,Znn,Zno,Znp,Znr,Zos,Zot,Zo3,Zo4,Zo7,Zo8,Zo9,Zpc,Zpi,Zpo,Zp0,Zp1,Zp2,Zqf,Zqg,Zqh,Zqi,Zqk,Zql,Zqm,Zqn,Zqr,eq_self,true_and,and_true,Nat.zero_add,Nat.add_zero,Nat.mul_one]
    tactic =>
    exact cB_rs _ _ _ _ _ (pad1_zero l)
  rintro k s ⟨j, hj, rfl⟩
  by_cases h : j < padz l.length
  · have ht : ¬ (IN (l.length + 1 + j)).tmod (64 : Int) = (56 : Int) := by
      simp only [IN]; rw [Int.tmod_eq_emod_of_nonneg (by omega)]; simp only [padz] at *; omega
    sym =>
    simp [Zaa,Zab,Zad,Zae,Zaf,Zag,Zah,Zai,Zak,Zal,Zam,Zan,Zap,Zaq,Zav,Zaw,Zay,Zaz,Za0,Za1,Za2,Za3,Za4,Za5,Za9,Zba,Zbb,Zbf,Zbl,Zcn,Zcz,Zc5,Zev,Zew,Zez,Ze0,Ze2,Ze3,Ze4,Ze5,Zfc,Zfd,Zfe,Zff,Zfg,Zfh,Zfn,Zfp,Zfr,Zfs,Zfu,Zf0,Zf4,Zgh,Zgi,Zgv,Zhf,Zhg,Zhh,Zh6,Zh7,Zh9,Ziq,Zir,Zix,Ziy,Ziz,Zi0,Zi1,Zi2,Zi3,Zi7,Zjj,Zjk,Zjo,Zmt,Zmv,Zmw,Zmx,Zmz,Zm2,Zna,Znb,Znh,Znl,Znm,Znn,Zno,Znp,Znr,Zos,Zot,Zo3,Zo4,Zo7,Zo8,Zo9,Zpc,Zpi,Zpo,Zp0,Zp1,Zp2,Zqf,Zqg,Zqh,Zqi,Zqk,Zql,Zqm,Zqn,Zqr,eq_self,true_and,and_true,Nat.zero_add,Nat.add_zero,Nat.mul_one,ht,cB_length,pad1_length]
    tactic =>
    refine ⟨⟨by omega, by omega, by omega⟩, ?_⟩
    unfold NextL; refine ⟨(k - 1), [(0, 7)], _, by omega, ⟨j + 1, by omega, rfl⟩, wkA ?_⟩
    sym =>
    simp [Zaa,Zab,Zad,Zae,Zaf,Zag,Zah,Zai,Zak,Zal,Zam,Zan,Zap,Zaq,Zav,Zaw,Zay,Zaz,Za0,Za1,Za2,Za3,Za4,Za5,Za9,Zba,Zbb,Zbf,Zbl,Zcn,Zcz,Zc5,Zev,Zew,Zez,Ze0,Ze2,Ze3,Ze4,Ze5,Zfc,Zfd,Zfe,Zff,Zfg,Zfh,Zfn,Zfp,Zfr,Zfs,Zfu,Zf0,Zf4,Zgh,Zgi,Zgv,Zhf,Zhg,Zhh,Zh6,Zh7,Zh9,Ziq,Zir,Zix,Ziy,Ziz,Zi0,Zi1,Zi2,Zi3,Zi7,Zjj,Zjk,Zjo,Zmt,Zmv,Zmw,Zmx,Zmz,Zm2,Zna,Znb,Znh,Znl,Znm,Znn,Zno,Znp,Znr,Zos,Zot,Zo3,Zo4,Zo7,Zo8,Zo9,Zpc,Zpi,Zpo,Zp0,Zp1,Zp2,Zqf,Zqg,Zqh,Zqi,Zqk,Zql,Zqm,Zqn,Zqr,eq_self,true_and,and_true,Nat.zero_add,Nat.add_zero,Nat.mul_one]
    tactic =>
    exact ⟨by omega, cB_rs _ _ _ _ _ (pad1_step l j)⟩
  · have hjz : j = padz l.length := by omega
    have ht : (IN (l.length + 1 + j)).tmod (64 : Int) = (56 : Int) := by
      simp only [IN]; rw [Int.tmod_eq_emod_of_nonneg (by omega)]; omega
    have hb8 : IntKind.u64.wrap (8 * IntKind.u64.wrap (IN l.length)) = IntKind.u64.wrap (IN l.length * 8) := by
      simp only [IN]; rw [wu64, wu64, wu64]; omega
    sym =>
    simp [Zaa,Zab,Zad,Zae,Zaf,Zag,Zah,Zai,Zak,Zal,Zam,Zan,Zap,Zaq,Zav,Zaw,Zay,Zaz,Za0,Za1,Za2,Za3,Za4,Za5,Za9,Zba,Zbb,Zbf,Zbl,Zcn,Zcz,Zc5,Zev,Zew,Zez,Ze0,Ze2,Ze3,Ze4,Ze5,Zfc,Zfd,Zfe,Zff,Zfg,Zfh,Zfn,Zfp,Zfr,Zfs,Zfu,Zf0,Zf4,Zgh,Zgi,Zgv,Zhf,Zhg,Zhh,Zh6,Zh7,Zh9,Ziq,Zir,Zix,Ziy,Ziz,Zi0,Zi1,Zi2,Zi3,Zi7,Zjj,Zjk,Zjo,Zmt,Zmv,Zmw,Zmx,Zmz,Zm2,Zna,Znb,Znh,Znl,Znm,Znn,Zno,Znp,Znr,Zos,Zot,Zo3,Zo4,Zo7,Zo8,Zo9,Zpc,Zpi,Zpo,Zp0,Zp1,Zp2,Zqf,Zqg,Zqh,Zqi,Zqk,Zql,Zqm,Zqn,Zqr,eq_self,true_and,and_true,Nat.zero_add,Nat.add_zero,Nat.mul_one,ht,cB_length,hb8]
    tactic =>
    subst hjz
    obtain ⟨b, hb⟩ : ∃ b, b = IntKind.u64.wrap (IN l.length * 8) := ⟨_, rfl⟩
    rw [← hb]
    refine lpA (j42 l b) 8 [(0, 0)] _ ⟨0, by omega, rfl⟩ (wkA ?_) ?_
    · sym =>
      simp [Zaa,Zab,Zad,Zae,Zaf,Zag,Zah,Zai,Zak,Zal,Zam,Zan,Zap,Zaq,Zav,Zaw,Zay,Zaz,Za0,Za1,Za2,Za3,Za4,Za5,Za9,Zba,Zbb,Zbf,Zbl,Zcn,Zcz,Zc5,Zev,Zew,Zez,Ze0,Ze2,Ze3,Ze4,Ze5,Zfc,Zfd,Zfe,Zff,Zfg,Zfh,Zfn,Zfp,Zfr,Zfs,Zfu,Zf0,Zf4,Zgh,Zgi,Zgv,Zhf,Zhg,Zhh,Zh6,Zh7,Zh9,Ziq,Zir,Zix,Ziy,Ziz,Zi0,Zi1,Zi2,Zi3,Zi7,Zjj,Zjk,Zjo,Zmt,Zmv,Zmw,Zmx,Zmz,Zm2,Zna,Znb,Znh,Znl,Znm,Znn,Zno,Znp,Znr,Zos,Zot,Zo3,Zo4,Zo7,Zo8,Zo9,Zpc,Zpi,Zpo,Zp0,Zp1,Zp2,Zqf,Zqg,Zqh,Zqi,Zqk,Zql,Zqm,Zqn,Zqr,eq_self,true_and,and_true,Nat.zero_add,Nat.add_zero,Nat.mul_one]
      tactic =>
      exact ⟨rfl, cB_rs _ _ _ _ _ (pad2_zero l (IN l.length))⟩
    rintro k2 s ⟨j, hj, rfl⟩
    have hl2 := pad2_length l (IN l.length) j (by omega)
    by_cases h2 : j < 8
    · have hI : 7 - (j : Int) ≥ 0 := by omega
      have hw := w64 (7 - (j : Int) - 1) (by omega)
      have hm := w64 (8 * (7 - (j : Int))) (by omega)
      have hmn : (8 * (7 - (j : Int))).toNat = 8 * (7 - j) := by omega
      sym =>
      simp [Zaa,Zab,Zad,Zae,Zaf,Zag,Zah,Zai,Zak,Zal,Zam,Zan,Zap,Zaq,Zav,Zaw,Zay,Zaz,Za0,Za1,Za2,Za3,Za4,Za5,Za9,Zba,Zbb,Zbf,Zbl,Zcn,Zcz,Zc5,Zev,Zew,Zez,Ze0,Ze2,Ze3,Ze4,Ze5,Zfc,Zfd,Zfe,Zff,Zfg,Zfh,Zfn,Zfp,Zfr,Zfs,Zfu,Zf0,Zf4,Zgh,Zgi,Zgv,Zhf,Zhg,Zhh,Zh6,Zh7,Zh9,Ziq,Zir,Zix,Ziy,Ziz,Zi0,Zi1,Zi2,Zi3,Zi7,Zjj,Zjk,Zjo,Zmt,Zmv,Zmw,Zmx,Zmz,Zm2,Zna,Znb,Znh,Znl,Znm,Znn,Zno,Znp,Znr,Zos,Zot,Zo3,Zo4,Zo7,Zo8,Zo9,Zpc,Zpi,Zpo,Zp0,Zp1,Zp2,Zqf,Zqg,Zqh,Zqi,Zqk,Zql,Zqm,Zqn,Zqr,eq_self,true_and,and_true,Nat.zero_add,Nat.add_zero,Nat.mul_one,hI,hw,hm,hmn,cB_length,hl2]
      tactic =>
      refine ⟨by omega, ⟨by omega, by omega, by omega⟩, ?_⟩
      unfold NextL; refine ⟨(k2 - 1), [(0, 10)], _, by omega, ⟨j + 1, by omega, rfl⟩, wkA ?_⟩
      sym =>
      simp [Zaa,Zab,Zad,Zae,Zaf,Zag,Zah,Zai,Zak,Zal,Zam,Zan,Zap,Zaq,Zav,Zaw,Zay,Zaz,Za0,Za1,Za2,Za3,Za4,Za5,Za9,Zba,Zbb,Zbf,Zbl,Zcn,Zcz,Zc5,Zev,Zew,Zez,Ze0,Ze2,Ze3,Ze4,Ze5,Zfc,Zfd,Zfe,Zff,Zfg,Zfh,Zfn,Zfp,Zfr,Zfs,Zfu,Zf0,Zf4,Zgh,Zgi,Zgv,Zhf,Zhg,Zhh,Zh6,Zh7,Zh9,Ziq,Zir,Zix,Ziy,Ziz,Zi0,Zi1,Zi2,Zi3,Zi7,Zjj,Zjk,Zjo,Zmt,Zmv,Zmw,Zmx,Zmz,Zm2,Zna,Znb,Znh,Znl,Znm,Znn,Zno,Znp,Znr,Zos,Zot,Zo3,Zo4,Zo7,Zo8,Zo9,Zpc,Zpi,Zpo,Zp0,Zp1,Zp2,Zqf,Zqg,Zqh,Zqi,Zqk,Zql,Zqm,Zqn,Zqr,eq_self,true_and,and_true,Nat.zero_add,Nat.add_zero,Nat.mul_one]
      tactic =>
      refine ⟨⟨by omega, by show (7 : Int) - (j : Int) - 1 = 7 - ((j + 1 : Nat) : Int); omega⟩, ?_⟩
      rw [hb]
      exact cB_rs _ _ _ _ _ (pad2_step l (IN l.length) j h2)
    · have hI : ¬ 7 - (j : Int) ≥ 0 := by omega
      have e8 : j = 8 := by omega
      subst e8
      rw [pad2_all] at *
      sym =>
      simp [Zaa,Zab,Zad,Zae,Zaf,Zag,Zah,Zai,Zak,Zal,Zam,Zan,Zap,Zaq,Zav,Zaw,Zay,Zaz,Za0,Za1,Za2,Za3,Za4,Za5,Za9,Zba,Zbb,Zbf,Zbl,Zcn,Zcz,Zc5,Zev,Zew,Zez,Ze0,Ze2,Ze3,Ze4,Ze5,Zfc,Zfd,Zfe,Zff,Zfg,Zfh,Zfn,Zfp,Zfr,Zfs,Zfu,Zf0,Zf4,Zgh,Zgi,Zgv,Zhf,Zhg,Zhh,Zh6,Zh7,Zh9,Ziq,Zir,Zix,Ziy,Ziz,Zi0,Zi1,Zi2,Zi3,Zi7,Zjj,Zjk,Zjo,Zmt,Zmv,Zmw,Zmx,Zmz,Zm2,Zna,Znb,Znh,Znl,Znm,Znn,Zno,Znp,Znr,Zos,Zot,Zo3,Zo4,Zo7,Zo8,Zo9,Zpc,Zpi,Zpo,Zp0,Zp1,Zp2,Zqf,Zqg,Zqh,Zqi,Zqk,Zql,Zqm,Zqn,Zqr,eq_self,true_and,and_true,Nat.zero_add,Nat.add_zero,Nat.mul_one,hI]
      tactic =>
      refine endA ?_
      sym =>
      simp [Zaa,Zab,Zad,Zae,Zaf,Zag,Zah,Zai,Zak,Zal,Zam,Zan,Zap,Zaq,Zav,Zaw,Zay,Zaz,Za0,Za1,Za2,Za3,Za4,Za5,Za9,Zba,Zbb,Zbf,Zbl,Zcn,Zcz,Zc5,Zev,Zew,Zez,Ze0,Ze2,Ze3,Ze4,Ze5,Zfc,Zfd,Zfe,Zff,Zfg,Zfh,Zfn,Zfp,Zfr,Zfs,Zfu,Zf0,Zf4,Zgh,Zgi,Zgv,Zhf,Zhg,Zhh,Zh6,Zh7,Zh9,Ziq,Zir,Zix,Ziy,Ziz,Zi0,Zi1,Zi2,Zi3,Zi7,Zjj,Zjk,Zjo,Zmt,Zmv,Zmw,Zmx,Zmz,Zm2,Zna,Znb,Znh,Znl,Znm,Znn,Zno,Znp,Znr,Zos,Zot,Zo3,Zo4,Zo7,Zo8,Zo9,Zpc,Zpi,Zpo,Zp0,Zp1,Zp2,Zqf,Zqg,Zqh,Zqi,Zqk,Zql,Zqm,Zqn,Zqr,eq_self,true_and,and_true,Nat.zero_add,Nat.add_zero,Nat.mul_one]
      tactic =>
      refine ⟨hl2, ?_, by rw [cB_length, hl2]; exact Nat.le_refl _, cB_okI _⟩
      exact (List.take_of_length_le (by rw [cB_length, hl2]; exact Nat.le_refl _)).symm
end Go.Proofs.Ytdjjibmjinllnaa.DigN
