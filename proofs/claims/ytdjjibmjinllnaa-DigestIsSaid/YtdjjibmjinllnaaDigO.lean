import Derived.Test.YtdjjibmjinllnaaDigN
namespace Go.Proofs.Ytdjjibmjinllnaa.DigO
open Go Go.Sim Go.Sim.E Go.RowKit Go.Proofs Go.Proofs.Ytdjjibmjinllnaa.Cod Go.Proofs.Ytdjjibmjinllnaa.Tab Go.Proofs.Ytdjjibmjinllnaa.DigA Go.Proofs.Ytdjjibmjinllnaa.DigB Go.Proofs.Ytdjjibmjinllnaa.DigC Go.Proofs.Ytdjjibmjinllnaa.DigM Go.Proofs.Ytdjjibmjinllnaa.DigN
set_option linter.unusedVariables false
set_option linter.unusedSimpArgs false
set_option maxRecDepth 100000
set_option maxHeartbeats 4000000
/-- A word of four bytes, as the document has it. -/
def four (b : List Int) (i : Nat) : Int := w32 (w32 (w32 (w32 (w32 (b.getD (4 * i) 0) * 2 ^ 24) + w32 (w32 (b.getD (4 * i + 1) 0) * 2 ^ 16)) + w32 (w32 (b.getD (4 * i + 2) 0) * 2 ^ 8)) + w32 (b.getD (4 * i + 3) 0))
def trn (x : Int) (n : Nat) : Int := bits .or .u32 (x.fdiv (2 ^ n)) (w32 (x * 2 ^ (32 - n)))
def dnx (w : List Int) (i : Nat) : Int := w32 (w32 (w32 (w.getD (i - 16) 0 + xr (xr (trn (w.getD (i - 15) 0) 7) (trn (w.getD (i - 15) 0) 18)) ((w.getD (i - 15) 0).fdiv 8)) + w.getD (i - 7) 0) + xr (xr (trn (w.getD (i - 2) 0) 17) (trn (w.getD (i - 2) 0) 19)) ((w.getD (i - 2) 0).fdiv 1024))
def dW (b : List Int) : Nat → List Int
  | 0 => List.replicate 64 0
  | i + 1 => (dW b i).set i (if i < 16 then four b i else dnx (dW b i) i)
theorem dW_length (b : List Int) : ∀ i, (dW b i).length = 64
  | 0 => rfl
  | i + 1 => by simp [dW, dW_length b i]
def i43 (b : List Int) (k : Nat) (s : St) : Prop := ∃ i : Nat, i + k = 64 ∧ s = ⟨[(0, fB b), (2, .pt 0 0), (3, .pt 1 0), (4, I (IN i))], [(0, ⟨z64, 1, 0⟩), (1, ⟨cU (dW b i), 1, 0⟩)], 2⟩
theorem w64c (a b n : Nat) (h : n * a = b) (h2 : b < 4611686018427387904) : IntKind.i64.wrap ((n : Int) * IN a) = IN b := by subst h; simp only [IN]; rw [w64 _ (by omega)]; omega
theorem w64a (a n : Nat) (h2 : a + n < 4611686018427387904) : IntKind.i64.wrap (IN a + (n : Int)) = IN (a + n) := by simp only [IN]; rw [w64 _ (by omega)]; omega
theorem words_con (b : List Int) (hb : b.length = 64) : Con Try.prog 43 [] [fB b] [] (.ag (cU (dW b 64))) := by
  refine con_j b43 rfl ?_
  sym =>
  simp [Zaa,Zab,Zac,Zad,Zae,Zaf,Zag,Zah,Zai,Zak,Zal,Zam,Zan,Zap,Zaq,Zav,Zaw,Zay,Zaz,Za0,Za1,Za2,Za3,Za4,Za5,Za9,Zba,Zbb,Zbc,Zbf,Zbg,Zbm,Zbt,Zbu,Zb0,Zb2,Zcv,Zc3,Zc4,Zc7,Zc8,Zc9,Zdf,Zdg,Zdh,Zdj,Zdk,Zdo,Zdp,Zdt,Zdu,Zdv,Zdw,Zdx,Zdy,Zdz,Zd0,Zd1,Zd2,Zeb,Zee,Zek,Zeq,Zet,Zev,Zew,Zez,Ze0,Ze1,Ze2,Ze3,Ze5,Ze8,Zfc,Zfd,Zfe,Zfh,Zfn,Zfo,Zfp,Zfq,Zfr,Zfs,Zfx,Zf1,Zgh,Zgi,Zgr,Zgs,Zgt,Zgu,Zgv,Zg1,Zg2,Zg4,Zg6,Zho,Zin,Ziu,Ziv,Ziw,Zi6,Zi7,Zjh,Zji,Zjn,Zjr,Zla,Zlb,Zle,Zlj,Zlz,Zmt,Zmv,Zmw,Zmy,Zm0,Zm1,Zm2,Zm5,Zm6,Zna,Znb,Zne,Znf,Zng,Znn,Zno,Znr,Zns,Znt,Znw,Zn5,Zrd,Zos,Zot,Zo7,Zo8,Zo9,Zpc,Zpi,Zpu,Zp8,Zqf,Zqg,Zqh,Zqi,Zqk,Zql,Zqm,Zqn,List.length_replicate,eq_self,true_and,and_true,Nat.zero_add,Nat.mul_one]
  tactic =>
  refine lpA (i43 b) 64 [(0, 0), (1, 1)] _ ⟨0, by omega, rfl⟩ (wkA ?_) ?_
  · sym =>
    simp [Zaa,Zab,Zac,Zad,Zae,Zaf,Zag,Zah,Zai,Zak,Zal,Zam,Zan,Zap,Zaq,Zav,Zaw,Zay,Zaz,Za0,Za1,Za2,Za3,Za4,Za5,Za9,Zba,Zbb,Zbc,Zbf,Zbg,Zbm,Zbt,Zbu,Zb0,Zb2,Zcv,Zc3,Zc4,Zc7,Zc8,Zc9,Zdf,Zdg,Zdh,Zdj,Zdk,Zdo,Zdp,Zdt,Zdu,Zdv,Zdw,Zdx,Zdy,Zdz,Zd0,Zd1,Zd2,Zeb,Zee,Zek,Zeq,Zet,Zev,Zew,Zez,Ze0,Ze1,Ze2,Ze3,Ze5,Ze8,Zfc,Zfd,Zfe,Zfh,Zfn,Zfo,Zfp,Zfq,Zfr,Zfs,Zfx,Zf1,Zgh,Zgi,Zgr,Zgs,Zgt,Zgu,Zgv,Zg1,Zg2,Zg4,Zg6,Zho,Zin,Ziu,Ziv,Ziw,Zi6,Zi7,Zjh,Zji,Zjn,Zjr,Zla,Zlb,Zle,Zlj,Zlz,Zmt,Zmv,Zmw,Zmy,Zm0,Zm1,Zm2,Zm5,Zm6,Zna,Znb,Zne,Znf,Zng,Znn,Zno,Znr,Zns,Znt,Znw,Zn5,Zrd,Zos,Zot,Zo7,Zo8,Zo9,Zpc,Zpi,Zpu,Zp8,Zqf,Zqg,Zqh,Zqi,Zqk,Zql,Zqm,Zqn,List.length_replicate,eq_self,true_and,and_true,Nat.zero_add,Nat.mul_one]
    tactic =>
    exact ⟨rs_self z64_okI, cU_rs _ _ _ _ _ rfl⟩
  rintro k s ⟨i, hi, rfl⟩
  have hstep : dW b (i + 1) = (dW b i).set i (if i < 16 then four b i else dnx (dW b i) i) := rfl
  have hWl := dW_length b i
  obtain ⟨W, hW⟩ : ∃ W, W = dW b i := ⟨_, rfl⟩
  rw [← hW] at hstep hWl ⊢
  by_cases h : i < 64
  · have hI : IN i < (64 : Int) := by simp only [IN]; omega
    have hw := w64s i (by omega)
    have hs2 := cU_set W i
    by_cases h2 : i < 16
    · have hI2 : IN i < (16 : Int) := by simp only [IN]; omega
      have f0 : IntKind.i64.wrap ((4 : Int) * IN i) = IN (4 * i) := w64c i (4 * i) 4 rfl (by omega)
      have f1 : IntKind.i64.wrap (IN (4 * i) + (1 : Int)) = IN (4 * i + 1) := w64a _ 1 (by omega)
      have f2 : IntKind.i64.wrap (IN (4 * i) + (2 : Int)) = IN (4 * i + 2) := w64a _ 2 (by omega)
      have f3 : IntKind.i64.wrap (IN (4 * i) + (3 : Int)) = IN (4 * i + 3) := w64a _ 3 (by omega)
      have g0 := cB_get b (4 * i) (by omega)
      have g1 := cB_get b (4 * i + 1) (by omega)
      have g2 := cB_get b (4 * i + 2) (by omega)
      have g3 := cB_get b (4 * i + 3) (by omega)
      have e24 : min 24 IntKind.u32.bits = 24 := by decide
      have e16 : min 16 IntKind.u32.bits = 16 := by decide
      have e8 : min 8 IntKind.u32.bits = 8 := by decide
      sym =>
      simp [Zaa,Zab,Zac,Zad,Zae,Zaf,Zag,Zah,Zai,Zak,Zal,Zam,Zan,Zap,Zaq,Zav,Zaw,Zay,Zaz,Za0,Za1,Za2,Za3,Za4,Za5,Za9,Zba,Zbb,Zbc,Zbf,Zbg,Zbm,Zbt,Zbu,Zb0,Zb2,Zcv,Zc3,Zc4,Zc7,Zc8,Zc9,Zdf,Zdg,Zdh,Zdj,Zdk,Zdo,Zdp,Zdt,Zdu,Zdv,Zdw,Zdx,Zdy,Zdz,Zd0,Zd1,Zd2,Zeb,Zee,Zek,Zeq,Zet,Zev,Zew,Zez,Ze0,Ze1,Ze2,Ze3,Ze5,Ze8,Zfc,Zfd,Zfe,Zfh,Zfn,Zfo,Zfp,Zfq,Zfr,Zfs,Zfx,Zf1,Zgh,Zgi,Zgr,Zgs,Zgt,Zgu,Zgv,Zg1,Zg2,Zg4,Zg6,Zho,Zin,Ziu,Ziv,Ziw,Zi6,Zi7,Zjh,Zji,Zjn,Zjr,Zla,Zlb,Zle,Zlj,Zlz,Zmt,Zmv,Zmw,Zmy,Zm0,Zm1,Zm2,Zm5,Zm6,Zna,Znb,Zne,Znf,Zng,Znn,Zno,Znr,Zns,Znt,Znw,Zn5,Zrd,Zos,Zot,Zo7,Zo8,Zo9,Zpc,Zpi,Zpu,Zp8,Zqf,Zqg,Zqh,Zqi,Zqk,Zql,Zqm,Zqn,List.length_replicate,eq_self,true_and,and_true,Nat.zero_add,Nat.mul_one,hI,hI2,hw,f0,f1,f2,f3,g0,g1,g2,g3,e24,e16,e8,hs2,cB_length,cU_length,hWl]
      tactic =>
      and_intros <;> try (first | omega | rfl | assumption)
      unfold NextL; refine ⟨(k - 1), [(0, 0), (1, 1)], _, by omega, ⟨i + 1, by omega, rfl⟩, wkA ?_⟩
      rw [hstep, if_pos h2]
      sym =>
      simp [Zaa,Zab,Zac,Zad,Zae,Zaf,Zag,Zah,Zai,Zak,Zal,Zam,Zan,Zap,Zaq,Zav,Zaw,Zay,Zaz,Za0,Za1,Za2,Za3,Za4,Za5,Za9,Zba,Zbb,Zbc,Zbf,Zbg,Zbm,Zbt,Zbu,Zb0,Zb2,Zcv,Zc3,Zc4,Zc7,Zc8,Zc9,Zdf,Zdg,Zdh,Zdj,Zdk,Zdo,Zdp,Zdt,Zdu,Zdv,Zdw,Zdx,Zdy,Zdz,Zd0,Zd1,Zd2,Zeb,Zee,Zek,Zeq,Zet,Zev,Zew,Zez,Ze0,Ze1,Ze2,Ze3,Ze5,Ze8,Zfc,Zfd,Zfe,Zfh,Zfn,Zfo,Zfp,Zfq,Zfr,Zfs,Zfx,Zf1,Zgh,Zgi,Zgr,Zgs,Zgt,Zgu,Zgv,Zg1,Zg2,Zg4,Zg6,Zho,Zin,Ziu,Ziv,Ziw,Zi6,Zi7,Zjh,Zji,Zjn,Zjr,Zla,Zlb,Zle,Zlj,Zlz,Zmt,Zmv,Zmw,Zmy,Zm0,Zm1,Zm2,Zm5,Zm6,Zna,Znb,Zne,Znf,Zng,Znn,Zno,Znr,Zns,Znt,Znw,Zn5,Zrd,Zos,Zot,Zo7,Zo8,Zo9,Zpc,Zpi,Zpu,Zp8,Zqf,Zqg,Zqh,Zqi,Zqk,Zql,Zqm,Zqn,List.length_replicate,eq_self,true_and,and_true,Nat.zero_add,Nat.mul_one]
      tactic =>
      exact ⟨rs_self z64_okI, cU_rs _ _ _ _ _ rfl⟩
    · have hI2 : ¬ IN i < (16 : Int) := by simp only [IN]; omega
      have m15 : IntKind.i64.wrap (IN i - (15 : Int)) = IN (i - 15) := w64m i (i - 15) 15 (by omega) (by omega)
      have m2 : IntKind.i64.wrap (IN i - (2 : Int)) = IN (i - 2) := w64m i (i - 2) 2 (by omega) (by omega)
      have m16 : IntKind.i64.wrap (IN i - (16 : Int)) = IN (i - 16) := w64m i (i - 16) 16 (by omega) (by omega)
      have m7 : IntKind.i64.wrap (IN i - (7 : Int)) = IN (i - 7) := w64m i (i - 7) 7 (by omega) (by omega)
      have g15 := cU_get W (i - 15) (by omega)
      have g2 := cU_get W (i - 2) (by omega)
      have g16 := cU_get W (i - 16) (by omega)
      have g7 := cU_get W (i - 7) (by omega)
      have e10 : min 10 IntKind.u32.bits = 10 := by decide
      have e3 : min 3 IntKind.u32.bits = 3 := by decide
      sym =>
      simp [Zaa,Zab,Zac,Zad,Zae,Zaf,Zag,Zah,Zai,Zak,Zal,Zam,Zan,Zap,Zaq,Zav,Zaw,Zay,Zaz,Za0,Za1,Za2,Za3,Za4,Za5,Za9,Zba,Zbb,Zbc,Zbf,Zbg,Zbm,Zbt,Zbu,Zb0,Zb2,Zcv,Zc3,Zc4,Zc7,Zc8,Zc9,Zdf,Zdg,Zdh,Zdj,Zdk,Zdo,Zdp,Zdt,Zdu,Zdv,Zdw,Zdx,Zdy,Zdz,Zd0,Zd1,Zd2,Zeb,Zee,Zek,Zeq,Zet,Zev,Zew,Zez,Ze0,Ze1,Ze2,Ze3,Ze5,Ze8,Zfc,Zfd,Zfe,Zfh,Zfn,Zfo,Zfp,Zfq,Zfr,Zfs,Zfx,Zf1,Zgh,Zgi,Zgr,Zgs,Zgt,Zgu,Zgv,Zg1,Zg2,Zg4,Zg6,Zho,Zin,Ziu,Ziv,Ziw,Zi6,Zi7,Zjh,Zji,Zjn,Zjr,Zla,Zlb,Zle,Zlj,Zlz,Zmt,Zmv,Zmw,Zmy,Zm0,Zm1,Zm2,Zm5,Zm6,Zna,Znb,Zne,Znf,Zng,Znn,Zno,Znr,Zns,Znt,Znw,Zn5,Zrd,Zos,Zot,Zo7,Zo8,Zo9,Zpc,Zpi,Zpu,Zp8,Zqf,Zqg,Zqh,Zqi,Zqk,Zql,Zqm,Zqn,List.length_replicate,eq_self,true_and,and_true,Nat.zero_add,Nat.mul_one,hI,hI2,hw,m15,m2,m16,m7,g15,g2,g16,g7,hs2,cU_length,hWl,callable_44,e3,e10]
      tactic =>
      and_intros <;> try (first | omega | rfl | assumption)
      refine cl none (turn_con _ 7 (by decide) (by decide)) trivial ?_
      sym =>
      simp [Zaa,Zab,Zac,Zad,Zae,Zaf,Zag,Zah,Zai,Zak,Zal,Zam,Zan,Zap,Zaq,Zav,Zaw,Zay,Zaz,Za0,Za1,Za2,Za3,Za4,Za5,Za9,Zba,Zbb,Zbc,Zbf,Zbg,Zbm,Zbt,Zbu,Zb0,Zb2,Zcv,Zc3,Zc4,Zc7,Zc8,Zc9,Zdf,Zdg,Zdh,Zdj,Zdk,Zdo,Zdp,Zdt,Zdu,Zdv,Zdw,Zdx,Zdy,Zdz,Zd0,Zd1,Zd2,Zeb,Zee,Zek,Zeq,Zet,Zev,Zew,Zez,Ze0,Ze1,Ze2,Ze3,Ze5,Ze8,Zfc,Zfd,Zfe,Zfh,Zfn,Zfo,Zfp,Zfq,Zfr,Zfs,Zfx,Zf1,Zgh,Zgi,Zgr,Zgs,Zgt,Zgu,Zgv,Zg1,Zg2,Zg4,Zg6,Zho,Zin,Ziu,Ziv,Ziw,Zi6,Zi7,Zjh,Zji,Zjn,Zjr,Zla,Zlb,Zle,Zlj,Zlz,Zmt,Zmv,Zmw,Zmy,Zm0,Zm1,Zm2,Zm5,Zm6,Zna,Znb,Zne,Znf,Zng,Znn,Zno,Znr,Zns,Znt,Znw,Zn5,Zrd,Zos,Zot,Zo7,Zo8,Zo9,Zpc,Zpi,Zpu,Zp8,Zqf,Zqg,Zqh,Zqi,Zqk,Zql,Zqm,Zqn,List.length_replicate,eq_self,true_and,and_true,Nat.zero_add,Nat.mul_one,hw,m15,m2,m16,m7,g15,g2,g16,g7,hs2,cU_length,hWl,callable_44,e3,e10]
      tactic =>
      refine cl none (turn_con _ 18 (by decide) (by decide)) trivial ?_
      sym =>
      simp [Zaa,Zab,Zac,Zad,Zae,Zaf,Zag,Zah,Zai,Zak,Zal,Zam,Zan,Zap,Zaq,Zav,Zaw,Zay,Zaz,Za0,Za1,Za2,Za3,Za4,Za5,Za9,Zba,Zbb,Zbc,Zbf,Zbg,Zbm,Zbt,Zbu,Zb0,Zb2,Zcv,Zc3,Zc4,Zc7,Zc8,Zc9,Zdf,Zdg,Zdh,Zdj,Zdk,Zdo,Zdp,Zdt,Zdu,Zdv,Zdw,Zdx,Zdy,Zdz,Zd0,Zd1,Zd2,Zeb,Zee,Zek,Zeq,Zet,Zev,Zew,Zez,Ze0,Ze1,Ze2,Ze3,Ze5,Ze8,Zfc,Zfd,Zfe,Zfh,Zfn,Zfo,Zfp,Zfq,Zfr,Zfs,Zfx,Zf1,Zgh,Zgi,Zgr,Zgs,Zgt,Zgu,Zgv,Zg1,Zg2,Zg4,Zg6,Zho,Zin,Ziu,Ziv,Ziw,Zi6,Zi7,Zjh,Zji,Zjn,Zjr,Zla,Zlb,Zle,Zlj,Zlz,Zmt,Zmv,Zmw,Zmy,Zm0,Zm1,Zm2,Zm5,Zm6,Zna,Znb,Zne,Znf,Zng,Znn,Zno,Znr,Zns,Znt,Znw,Zn5,Zrd,Zos,Zot,Zo7,Zo8,Zo9,Zpc,Zpi,Zpu,Zp8,Zqf,Zqg,Zqh,Zqi,Zqk,Zql,Zqm,Zqn,List.length_replicate,eq_self,true_and,and_true,Nat.zero_add,Nat.mul_one,hw,m15,m2,m16,m7,g15,g2,g16,g7,hs2,cU_length,hWl,callable_44,e3,e10]
      tactic =>
      and_intros <;> try (first | omega | rfl | assumption)
      refine cl none (turn_con _ 17 (by decide) (by decide)) trivial ?_
      sym =>
      simp [Zaa,Zab,Zac,Zad,Zae,Zaf,Zag,Zah,Zai,Zak,Zal,Zam,Zan,Zap,Zaq,Zav,Zaw,Zay,Zaz,Za0,Za1,Za2,Za3,Za4,Za5,Za9,Zba,Zbb,Zbc,Zbf,Zbg,Zbm,Zbt,Zbu,Zb0,Zb2,Zcv,Zc3,Zc4,Zc7,Zc8,Zc9,Zdf,Zdg,Zdh,Zdj,Zdk,Zdo,Zdp,Zdt,Zdu,Zdv,Zdw,Zdx,Zdy,Zdz,Zd0,Zd1,Zd2,Zeb,Zee,Zek,Zeq,Zet,Zev,Zew,Zez,Ze0,Ze1,Ze2,Ze3,Ze5,Ze8,Zfc,Zfd,Zfe,Zfh,Zfn,Zfo,Zfp,Zfq,Zfr,Zfs,Zfx,Zf1,Zgh,Zgi,Zgr,Zgs,Zgt,Zgu,Zgv,Zg1,Zg2,Zg4,Zg6,Zho,Zin,Ziu,Ziv,Ziw,Zi6,Zi7,Zjh,Zji,Zjn,Zjr,Zla,Zlb,Zle,Zlj,Zlz,Zmt,Zmv,Zmw,Zmy,Zm0,Zm1,Zm2,Zm5,Zm6,Zna,Znb,Zne,Znf,Zng,Znn,Zno,Znr,Zns,Znt,Znw,Zn5,Zrd,Zos,Zot,Zo7,Zo8,Zo9,Zpc,Zpi,Zpu,Zp8,Zqf,Zqg,Zqh,Zqi,Zqk,Zql,Zqm,Zqn,List.length_replicate,eq_self,true_and,and_true,Nat.zero_add,Nat.mul_one,hw,m15,m2,m16,m7,g15,g2,g16,g7,hs2,cU_length,hWl,callable_44,e3,e10]
      tactic =>
      refine cl none (turn_con _ 19 (by decide) (by decide)) trivial ?_
      sym =>
      simp [Zaa,Zab,Zac,Zad,Zae,Zaf,Zag,Zah,Zai,Zak,Zal,Zam,Zan,Zap,Zaq,Zav,Zaw,Zay,Zaz,Za0,Za1,Za2,Za3,Za4,Za5,Za9,Zba,Zbb,Zbc,Zbf,Zbg,Zbm,Zbt,Zbu,Zb0,Zb2,Zcv,Zc3,Zc4,Zc7,Zc8,Zc9,Zdf,Zdg,Zdh,Zdj,Zdk,Zdo,Zdp,Zdt,Zdu,Zdv,Zdw,Zdx,Zdy,Zdz,Zd0,Zd1,Zd2,Zeb,Zee,Zek,Zeq,Zet,Zev,Zew,Zez,Ze0,Ze1,Ze2,Ze3,Ze5,Ze8,Zfc,Zfd,Zfe,Zfh,Zfn,Zfo,Zfp,Zfq,Zfr,Zfs,Zfx,Zf1,Zgh,Zgi,Zgr,Zgs,Zgt,Zgu,Zgv,Zg1,Zg2,Zg4,Zg6,Zho,Zin,Ziu,Ziv,Ziw,Zi6,Zi7,Zjh,Zji,Zjn,Zjr,Zla,Zlb,Zle,Zlj,Zlz,Zmt,Zmv,Zmw,Zmy,Zm0,Zm1,Zm2,Zm5,Zm6,Zna,Znb,Zne,Znf,Zng,Znn,Zno,Znr,Zns,Znt,Znw,Zn5,Zrd,Zos,Zot,Zo7,Zo8,Zo9,Zpc,Zpi,Zpu,Zp8,Zqf,Zqg,Zqh,Zqi,Zqk,Zql,Zqm,Zqn,List.length_replicate,eq_self,true_and,and_true,Nat.zero_add,Nat.mul_one,hw,m15,m2,m16,m7,g15,g2,g16,g7,hs2,cU_length,hWl,callable_44,e3,e10]
      tactic =>
      and_intros <;> try (first | omega | rfl | assumption)
      unfold NextL; refine ⟨(k - 1), [(0, 0), (1, 1)], _, by omega, ⟨i + 1, by omega, rfl⟩, wkA ?_⟩
      rw [hstep, if_neg h2]
      sym =>
      simp [Zaa,Zab,Zac,Zad,Zae,Zaf,Zag,Zah,Zai,Zak,Zal,Zam,Zan,Zap,Zaq,Zav,Zaw,Zay,Zaz,Za0,Za1,Za2,Za3,Za4,Za5,Za9,Zba,Zbb,Zbc,Zbf,Zbg,Zbm,Zbt,Zbu,Zb0,Zb2,Zcv,Zc3,Zc4,Zc7,Zc8,Zc9,Zdf,Zdg,Zdh,Zdj,Zdk,Zdo,Zdp,Zdt,Zdu,Zdv,Zdw,Zdx,Zdy,Zdz,Zd0,Zd1,Zd2,Zeb,Zee,Zek,Zeq,Zet,Zev,Zew,Zez,Ze0,Ze1,Ze2,Ze3,Ze5,Ze8,Zfc,Zfd,Zfe,Zfh,Zfn,Zfo,Zfp,Zfq,Zfr,Zfs,Zfx,Zf1,Zgh,Zgi,Zgr,Zgs,Zgt,Zgu,Zgv,Zg1,Zg2,Zg4,Zg6,Zho,Zin,Ziu,Ziv,Ziw,Zi6,Zi7,Zjh,Zji,Zjn,Zjr,Zla,Zlb,Zle,Zlj,Zlz,Zmt,Zmv,Zmw,Zmy,Zm0,Zm1,Zm2,Zm5,Zm6,Zna,Znb,Zne,Znf,Zng,Znn,Zno,Znr,Zns,Znt,Znw,Zn5,Zrd,Zos,Zot,Zo7,Zo8,Zo9,Zpc,Zpi,Zpu,Zp8,Zqf,Zqg,Zqh,Zqi,Zqk,Zql,Zqm,Zqn,List.length_replicate,eq_self,true_and,and_true,Nat.zero_add,Nat.mul_one]
      tactic =>
      exact ⟨rs_self z64_okI, cU_rs _ _ _ _ _ rfl⟩
  · have hI : ¬ IN i < (64 : Int) := by simp only [IN]; omega
    have e64 : i = 64 := by omega
    subst e64
    rw [← hW]
    have hl2 : (cU W).length = 64 := by rw [cU_length, hWl]
    have hr : rdb (cU W) 0 64 = cU W := rdb_all hl2
    have hs : spl (List.replicate 64 (.sc (.int .u32 0))) 0 (cU W) = cU W := spl_new _ _ (by rw [hl2]; simp)
    sym =>
    simp [Zaa,Zab,Zac,Zad,Zae,Zaf,Zag,Zah,Zai,Zak,Zal,Zam,Zan,Zap,Zaq,Zav,Zaw,Zay,Zaz,Za0,Za1,Za2,Za3,Za4,Za5,Za9,Zba,Zbb,Zbc,Zbf,Zbg,Zbm,Zbt,Zbu,Zb0,Zb2,Zcv,Zc3,Zc4,Zc7,Zc8,Zc9,Zdf,Zdg,Zdh,Zdj,Zdk,Zdo,Zdp,Zdt,Zdu,Zdv,Zdw,Zdx,Zdy,Zdz,Zd0,Zd1,Zd2,Zeb,Zee,Zek,Zeq,Zet,Zev,Zew,Zez,Ze0,Ze1,Ze2,Ze3,Ze5,Ze8,Zfc,Zfd,Zfe,Zfh,Zfn,Zfo,Zfp,Zfq,Zfr,Zfs,Zfx,Zf1,Zgh,Zgi,Zgr,Zgs,Zgt,Zgu,Zgv,Zg1,Zg2,Zg4,Zg6,Zho,Zin,Ziu,Ziv,Ziw,Zi6,Zi7,Zjh,Zji,Zjn,Zjr,Zla,Zlb,Zle,Zlj,Zlz,Zmt,Zmv,Zmw,Zmy,Zm0,Zm1,Zm2,Zm5,Zm6,Zna,Znb,Zne,Znf,Zng,Znn,Zno,Znr,Zns,Znt,Znw,Zn5,Zrd,Zos,Zot,Zo7,Zo8,Zo9,Zpc,Zpi,Zpu,Zp8,Zqf,Zqg,Zqh,Zqi,Zqk,Zql,Zqm,Zqn,List.length_replicate,eq_self,true_and,and_true,Nat.zero_add,Nat.mul_one,hI,hr,hs,hl2,cU_cells]
    tactic =>
    refine endA ?_
    sym =>
    simp [Zaa,Zab,Zac,Zad,Zae,Zaf,Zag,Zah,Zai,Zak,Zal,Zam,Zan,Zap,Zaq,Zav,Zaw,Zay,Zaz,Za0,Za1,Za2,Za3,Za4,Za5,Za9,Zba,Zbb,Zbc,Zbf,Zbg,Zbm,Zbt,Zbu,Zb0,Zb2,Zcv,Zc3,Zc4,Zc7,Zc8,Zc9,Zdf,Zdg,Zdh,Zdj,Zdk,Zdo,Zdp,Zdt,Zdu,Zdv,Zdw,Zdx,Zdy,Zdz,Zd0,Zd1,Zd2,Zeb,Zee,Zek,Zeq,Zet,Zev,Zew,Zez,Ze0,Ze1,Ze2,Ze3,Ze5,Ze8,Zfc,Zfd,Zfe,Zfh,Zfn,Zfo,Zfp,Zfq,Zfr,Zfs,Zfx,Zf1,Zgh,Zgi,Zgr,Zgs,Zgt,Zgu,Zgv,Zg1,Zg2,Zg4,Zg6,Zho,Zin,Ziu,Ziv,Ziw,Zi6,Zi7,Zjh,Zji,Zjn,Zjr,Zla,Zlb,Zle,Zlj,Zlz,Zmt,Zmv,Zmw,Zmy,Zm0,Zm1,Zm2,Zm5,Zm6,Zna,Znb,Zne,Znf,Zng,Znn,Zno,Znr,Zns,Znt,Znw,Zn5,Zrd,Zos,Zot,Zo7,Zo8,Zo9,Zpc,Zpi,Zpu,Zp8,Zqf,Zqg,Zqh,Zqi,Zqk,Zql,Zqm,Zqn,List.length_replicate,eq_self,true_and,and_true,Nat.zero_add,Nat.mul_one]
    tactic =>
    exact rs_self (cU_okI W)
end Go.Proofs.Ytdjjibmjinllnaa.DigO
