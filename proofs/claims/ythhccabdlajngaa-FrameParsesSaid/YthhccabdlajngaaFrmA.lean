import Derived.Test.YthhccabdlajngaaCodA
import Derived.Test.YthhccabdlajngaaTab
import Derived.Test.YthhccabdlajngaaKrc
namespace Go.Proofs.Ythhccabdlajngaa.FrmA
open Go Go.Sim Go.Sim.E Go.RowKit Go.Proofs Go.Proofs.Ythhccabdlajngaa.Cod Go.Proofs.Ythhccabdlajngaa.Tab Go.Proofs.Ythhccabdlajngaa.Bse Go.Proofs.Ythhccabdlajngaa.Krc
set_option linter.unusedVariables false
set_option linter.unusedSimpArgs false
set_option maxRecDepth 100000
set_option maxHeartbeats 4000000
theorem mask0 : bits .and .u32 3988292384 0 = 0 := by decide
theorem mask1 : bits .and .u32 3988292384 4294967295 = 3988292384 := by decide
def i50 (y : Nat) (k : Nat) (s : St) : Prop := ∃ j : Nat, j + k = 8 ∧ s = ⟨[(0, U ((stpN j y : Nat) : Int)), (9, I (IN j))], [], 0⟩
theorem step_con (r c : Nat) (hr : r < 4294967296) (hc : c < 256) : Con Try.prog 50 [] [U (r : Int), Y (c : Int)] [] (U ((crc r c : Nat) : Int)) := by
  refine con_j b50 rfl ?_
  have hx := xor_u32 r c hr (by omega)
  have hwc : IntKind.u32.wrap (c : Int) = (c : Int) := by rw [w32u]; omega
  sym =>
  simp [Zaa,Zab,Zad,Zae,Zaf,Zag,Zah,Zai,Zak,Zal,Zam,Zan,Zap,Zaq,Zav,Zaw,Zay,Zaz,Za0,Za1,Za2,Za3,Za4,Za5,Za9,Zba,Zbb,Zbf,Zbj,Zbl,Zev,Zew,Zez,Ze0,Ze2,Zfd,Zfe,Zfh,Zfn,Zfp,Zfq,Zfv,Zfx,Zf1,Zgd,Zge,Zgh,Zgi,Zmt,Zmv,Zmw,Zmx,Zmz,Zm2,Zna,Znb,Zn5,Zoa,Zrd,Zos,Zot,Zo7,Zo8,Zo9,Zpc,Zqf,Zqg,Zqh,Zqm,Zqr,eq_self,true_and,and_true,hwc,hx]
  tactic =>
  have hy : r ^^^ c < 4294967296 := Nat.xor_lt_two_pow (n := 32) hr (by omega)
  unfold crc
  obtain ⟨y, hyy⟩ : ∃ y, y = r ^^^ c := ⟨_, rfl⟩
  rw [← hyy] at hy ⊢
  refine lpA (i50 y) 8 [] _ ⟨0, by omega, rfl⟩ (wkA ?_) ?_
  · sym =>
    simp [Zaa,Zab,Zad,Zae,Zaf,Zag,Zah,Zai,Zak,Zal,Zam,Zan,Zap,Zaq,Zav,Zaw,Zay,Zaz,Za0,Za1,Za2,Za3,Za4,Za5,Za9,Zba,Zbb,Zbf,Zbj,Zbl,Zev,Zew,Zez,Ze0,Ze2,Zfd,Zfe,Zfh,Zfn,Zfp,Zfq,Zfv,Zfx,Zf1,Zgd,Zge,Zgh,Zgi,Zmt,Zmv,Zmw,Zmx,Zmz,Zm2,Zna,Znb,Zn5,Zoa,Zrd,Zos,Zot,Zo7,Zo8,Zo9,Zpc,Zqf,Zqg,Zqh,Zqm,Zqr,eq_self,true_and,and_true]
    tactic =>
    rfl
  rintro k s ⟨j, hj, rfl⟩
  have hlt := stpN_lt hy j
  have hs : stpN (j + 1) y = if stpN j y % 2 = 1 then (stpN j y / 2) ^^^ 3988292384 else stpN j y / 2 := rfl
  obtain ⟨X, hX⟩ : ∃ X, X = stpN j y := ⟨_, rfl⟩
  rw [← hX] at hlt hs ⊢
  by_cases h : j < 8
  · have hI : IN j < (8 : Int) := by simp only [IN]; omega
    have hw := w64s j (by omega)
    have e1 : min 1 IntKind.u32.bits = 1 := by decide
    have hf : (X : Int).fdiv (2 : Int) = ((X / 2 : Nat) : Int) := by rw [Int.fdiv_eq_ediv_of_nonneg _ (by decide)]; omega
    have ha := and_one X hlt
    rcases (show X % 2 = 0 ∨ X % 2 = 1 by omega) with h2 | h2
    · rw [h2] at ha
      rw [if_neg (by omega)] at hs
      have hx2 := xor_u32 (X / 2) 0 (by omega) (by decide)
      rw [Nat.xor_zero] at hx2
      have hm := mask0
      have hn : IntKind.u32.wrap 0 = 0 := by decide
      change bits .and .u32 (X : Int) 1 = 0 at ha
      change bits .xor .u32 ((X / 2 : Nat) : Int) 0 = ((X / 2 : Nat) : Int) at hx2
      sym =>
      simp [Zaa,Zab,Zad,Zae,Zaf,Zag,Zah,Zai,Zak,Zal,Zam,Zan,Zap,Zaq,Zav,Zaw,Zay,Zaz,Za0,Za1,Za2,Za3,Za4,Za5,Za9,Zba,Zbb,Zbf,Zbj,Zbl,Zev,Zew,Zez,Ze0,Ze2,Zfd,Zfe,Zfh,Zfn,Zfp,Zfq,Zfv,Zfx,Zf1,Zgd,Zge,Zgh,Zgi,Zmt,Zmv,Zmw,Zmx,Zmz,Zm2,Zna,Znb,Zn5,Zoa,Zrd,Zos,Zot,Zo7,Zo8,Zo9,Zpc,Zqf,Zqg,Zqh,Zqm,Zqr,eq_self,true_and,and_true,hI,hw,e1,hf,ha,hn,hm,hx2]
      tactic =>
      unfold NextL; refine ⟨(k - 1), [], _, by omega, ⟨j + 1, by omega, rfl⟩, wkA ?_⟩
      rw [hs]
      sym =>
      simp [Zaa,Zab,Zad,Zae,Zaf,Zag,Zah,Zai,Zak,Zal,Zam,Zan,Zap,Zaq,Zav,Zaw,Zay,Zaz,Za0,Za1,Za2,Za3,Za4,Za5,Za9,Zba,Zbb,Zbf,Zbj,Zbl,Zev,Zew,Zez,Ze0,Ze2,Zfd,Zfe,Zfh,Zfn,Zfp,Zfq,Zfv,Zfx,Zf1,Zgd,Zge,Zgh,Zgi,Zmt,Zmv,Zmw,Zmx,Zmz,Zm2,Zna,Znb,Zn5,Zoa,Zrd,Zos,Zot,Zo7,Zo8,Zo9,Zpc,Zqf,Zqg,Zqh,Zqm,Zqr,eq_self,true_and,and_true]
    · rw [h2] at ha
      rw [if_pos h2] at hs
      have hx2 := xor_u32 (X / 2) 3988292384 (by omega) (by decide)
      have hm := mask1
      have hn : IntKind.u32.wrap (-1) = 4294967295 := by decide
      change bits .and .u32 (X : Int) 1 = 1 at ha
      change bits .xor .u32 ((X / 2 : Nat) : Int) 3988292384 = _ at hx2
      sym =>
      simp [Zaa,Zab,Zad,Zae,Zaf,Zag,Zah,Zai,Zak,Zal,Zam,Zan,Zap,Zaq,Zav,Zaw,Zay,Zaz,Za0,Za1,Za2,Za3,Za4,Za5,Za9,Zba,Zbb,Zbf,Zbj,Zbl,Zev,Zew,Zez,Ze0,Ze2,Zfd,Zfe,Zfh,Zfn,Zfp,Zfq,Zfv,Zfx,Zf1,Zgd,Zge,Zgh,Zgi,Zmt,Zmv,Zmw,Zmx,Zmz,Zm2,Zna,Znb,Zn5,Zoa,Zrd,Zos,Zot,Zo7,Zo8,Zo9,Zpc,Zqf,Zqg,Zqh,Zqm,Zqr,eq_self,true_and,and_true,hI,hw,e1,hf,ha,hn,hm,hx2]
      tactic =>
      unfold NextL; refine ⟨(k - 1), [], _, by omega, ⟨j + 1, by omega, rfl⟩, wkA ?_⟩
      rw [hs]
      sym =>
      simp [Zaa,Zab,Zad,Zae,Zaf,Zag,Zah,Zai,Zak,Zal,Zam,Zan,Zap,Zaq,Zav,Zaw,Zay,Zaz,Za0,Za1,Za2,Za3,Za4,Za5,Za9,Zba,Zbb,Zbf,Zbj,Zbl,Zev,Zew,Zez,Ze0,Ze2,Zfd,Zfe,Zfh,Zfn,Zfp,Zfq,Zfv,Zfx,Zf1,Zgd,Zge,Zgh,Zgi,Zmt,Zmv,Zmw,Zmx,Zmz,Zm2,Zna,Znb,Zn5,Zoa,Zrd,Zos,Zot,Zo7,Zo8,Zo9,Zpc,Zqf,Zqg,Zqh,Zqm,Zqr,eq_self,true_and,and_true]
  · have hI : ¬ IN j < (8 : Int) := by simp only [IN]; omega
    obtain rfl : j = 8 := by omega
    rw [← hX]
    sym =>
    simp [Zaa,Zab,Zad,Zae,Zaf,Zag,Zah,Zai,Zak,Zal,Zam,Zan,Zap,Zaq,Zav,Zaw,Zay,Zaz,Za0,Za1,Za2,Za3,Za4,Za5,Za9,Zba,Zbb,Zbf,Zbj,Zbl,Zev,Zew,Zez,Ze0,Ze2,Zfd,Zfe,Zfh,Zfn,Zfp,Zfq,Zfv,Zfx,Zf1,Zgd,Zge,Zgh,Zgi,Zmt,Zmv,Zmw,Zmx,Zmz,Zm2,Zna,Znb,Zn5,Zoa,Zrd,Zos,Zot,Zo7,Zo8,Zo9,Zpc,Zqf,Zqg,Zqh,Zqm,Zqr,eq_self,true_and,and_true,hI]
    tactic =>
    refine endA ?_
    sym =>
    simp [Zaa,Zab,Zad,Zae,Zaf,Zag,Zah,Zai,Zak,Zal,Zam,Zan,Zap,Zaq,Zav,Zaw,Zay,Zaz,Za0,Za1,Za2,Za3,Za4,Za5,Za9,Zba,Zbb,Zbf,Zbj,Zbl,Zev,Zew,Zez,Ze0,Ze2,Zfd,Zfe,Zfh,Zfn,Zfp,Zfq,Zfv,Zfx,Zf1,Zgd,Zge,Zgh,Zgi,Zmt,Zmv,Zmw,Zmx,Zmz,Zm2,Zna,Znb,Zn5,Zoa,Zrd,Zos,Zot,Zo7,Zo8,Zo9,Zpc,Zqf,Zqg,Zqh,Zqm,Zqr,eq_self,true_and,and_true]
def i47 (y : Nat) (k : Nat) (s : St) : Prop := ∃ j : Nat, j + k = 8 ∧ s = ⟨[(0, U ((stpN j y : Nat) : Int)), (5, I (IN j))], [], 0⟩
theorem rstep_con (r c : Nat) (hr : r < 4294967296) (hc : c < 256) : Con Try.prog 47 [] [U (r : Int), Y (c : Int)] [] (U ((crc r c : Nat) : Int)) := by
  refine con_j b47 rfl ?_
  have hx := xor_u32 r c hr (by omega)
  have hwc : IntKind.u32.wrap (c : Int) = (c : Int) := by rw [w32u]; omega
  sym =>
  simp [Zaa,Zab,Zad,Zae,Zaf,Zag,Zah,Zai,Zak,Zal,Zam,Zan,Zap,Zaq,Zav,Zaw,Zay,Zaz,Za0,Za1,Za2,Za3,Za4,Za5,Za9,Zba,Zbb,Zbf,Zbl,Zev,Zew,Zez,Ze0,Ze2,Zfd,Zfe,Zfh,Zfn,Zfq,Zft,Zfu,Zfx,Zfz,Zf1,Zgh,Zgi,Zmt,Zmv,Zmw,Zmx,Zmz,Zm2,Zna,Znb,Zn5,Zoa,Zos,Zot,Zo7,Zo8,Zo9,Zpc,Zqf,Zqg,Zqh,Zqm,Zqr,eq_self,true_and,and_true,hwc,hx]
  tactic =>
  have hy : r ^^^ c < 4294967296 := Nat.xor_lt_two_pow (n := 32) hr (by omega)
  unfold crc
  obtain ⟨y, hyy⟩ : ∃ y, y = r ^^^ c := ⟨_, rfl⟩
  rw [← hyy] at hy ⊢
  refine lpA (i47 y) 8 [] _ ⟨0, by omega, rfl⟩ (wkA ?_) ?_
  · sym =>
    simp [Zaa,Zab,Zad,Zae,Zaf,Zag,Zah,Zai,Zak,Zal,Zam,Zan,Zap,Zaq,Zav,Zaw,Zay,Zaz,Za0,Za1,Za2,Za3,Za4,Za5,Za9,Zba,Zbb,Zbf,Zbl,Zev,Zew,Zez,Ze0,Ze2,Zfd,Zfe,Zfh,Zfn,Zfq,Zft,Zfu,Zfx,Zfz,Zf1,Zgh,Zgi,Zmt,Zmv,Zmw,Zmx,Zmz,Zm2,Zna,Znb,Zn5,Zoa,Zos,Zot,Zo7,Zo8,Zo9,Zpc,Zqf,Zqg,Zqh,Zqm,Zqr,eq_self,true_and,and_true]
    tactic =>
    rfl
  rintro k s ⟨j, hj, rfl⟩
  have hlt := stpN_lt hy j
  have hs : stpN (j + 1) y = if stpN j y % 2 = 1 then (stpN j y / 2) ^^^ 3988292384 else stpN j y / 2 := rfl
  obtain ⟨X, hX⟩ : ∃ X, X = stpN j y := ⟨_, rfl⟩
  rw [← hX] at hlt hs ⊢
  by_cases h : j < 8
  · have hI : IN j < (8 : Int) := by simp only [IN]; omega
    have hw := w64s j (by omega)
    have hf : IntKind.u32.wrap ((X : Int).tdiv (2 : Int)) = ((X / 2 : Nat) : Int) := by rw [Int.tdiv_eq_ediv_of_nonneg (by omega), w32u]; omega
    have hr2 : (X : Int).tmod (2 : Int) = ((X % 2 : Nat) : Int) := by rw [Int.tmod_eq_emod_of_nonneg (by omega)]; omega
    rcases (show X % 2 = 0 ∨ X % 2 = 1 by omega) with h2 | h2
    · rw [if_neg (by omega)] at hs
      rw [h2] at hr2
      change (X : Int).tmod (2 : Int) = 0 at hr2
      sym =>
      simp [Zaa,Zab,Zad,Zae,Zaf,Zag,Zah,Zai,Zak,Zal,Zam,Zan,Zap,Zaq,Zav,Zaw,Zay,Zaz,Za0,Za1,Za2,Za3,Za4,Za5,Za9,Zba,Zbb,Zbf,Zbl,Zev,Zew,Zez,Ze0,Ze2,Zfd,Zfe,Zfh,Zfn,Zfq,Zft,Zfu,Zfx,Zfz,Zf1,Zgh,Zgi,Zmt,Zmv,Zmw,Zmx,Zmz,Zm2,Zna,Znb,Zn5,Zoa,Zos,Zot,Zo7,Zo8,Zo9,Zpc,Zqf,Zqg,Zqh,Zqm,Zqr,eq_self,true_and,and_true,hI,hw,hf,hr2]
      tactic =>
      unfold NextL; refine ⟨(k - 1), [], _, by omega, ⟨j + 1, by omega, rfl⟩, wkA ?_⟩
      rw [hs]
      sym =>
      simp [Zaa,Zab,Zad,Zae,Zaf,Zag,Zah,Zai,Zak,Zal,Zam,Zan,Zap,Zaq,Zav,Zaw,Zay,Zaz,Za0,Za1,Za2,Za3,Za4,Za5,Za9,Zba,Zbb,Zbf,Zbl,Zev,Zew,Zez,Ze0,Ze2,Zfd,Zfe,Zfh,Zfn,Zfq,Zft,Zfu,Zfx,Zfz,Zf1,Zgh,Zgi,Zmt,Zmv,Zmw,Zmx,Zmz,Zm2,Zna,Znb,Zn5,Zoa,Zos,Zot,Zo7,Zo8,Zo9,Zpc,Zqf,Zqg,Zqh,Zqm,Zqr,eq_self,true_and,and_true]
    · rw [if_pos h2] at hs
      rw [h2] at hr2
      change (X : Int).tmod (2 : Int) = 1 at hr2
      have hx2 := xor_u32 (X / 2) 3988292384 (by omega) (by decide)
      change bits .xor .u32 ((X / 2 : Nat) : Int) 3988292384 = _ at hx2
      sym =>
      simp [Zaa,Zab,Zad,Zae,Zaf,Zag,Zah,Zai,Zak,Zal,Zam,Zan,Zap,Zaq,Zav,Zaw,Zay,Zaz,Za0,Za1,Za2,Za3,Za4,Za5,Za9,Zba,Zbb,Zbf,Zbl,Zev,Zew,Zez,Ze0,Ze2,Zfd,Zfe,Zfh,Zfn,Zfq,Zft,Zfu,Zfx,Zfz,Zf1,Zgh,Zgi,Zmt,Zmv,Zmw,Zmx,Zmz,Zm2,Zna,Znb,Zn5,Zoa,Zos,Zot,Zo7,Zo8,Zo9,Zpc,Zqf,Zqg,Zqh,Zqm,Zqr,eq_self,true_and,and_true,hI,hw,hf,hr2,hx2]
      tactic =>
      unfold NextL; refine ⟨(k - 1), [], _, by omega, ⟨j + 1, by omega, rfl⟩, wkA ?_⟩
      rw [hs]
      sym =>
      simp [Zaa,Zab,Zad,Zae,Zaf,Zag,Zah,Zai,Zak,Zal,Zam,Zan,Zap,Zaq,Zav,Zaw,Zay,Zaz,Za0,Za1,Za2,Za3,Za4,Za5,Za9,Zba,Zbb,Zbf,Zbl,Zev,Zew,Zez,Ze0,Ze2,Zfd,Zfe,Zfh,Zfn,Zfq,Zft,Zfu,Zfx,Zfz,Zf1,Zgh,Zgi,Zmt,Zmv,Zmw,Zmx,Zmz,Zm2,Zna,Znb,Zn5,Zoa,Zos,Zot,Zo7,Zo8,Zo9,Zpc,Zqf,Zqg,Zqh,Zqm,Zqr,eq_self,true_and,and_true]
  · have hI : ¬ IN j < (8 : Int) := by simp only [IN]; omega
    obtain rfl : j = 8 := by omega
    rw [← hX]
    sym =>
    simp [Zaa,Zab,Zad,Zae,Zaf,Zag,Zah,Zai,Zak,Zal,Zam,Zan,Zap,Zaq,Zav,Zaw,Zay,Zaz,Za0,Za1,Za2,Za3,Za4,Za5,Za9,Zba,Zbb,Zbf,Zbl,Zev,Zew,Zez,Ze0,Ze2,Zfd,Zfe,Zfh,Zfn,Zfq,Zft,Zfu,Zfx,Zfz,Zf1,Zgh,Zgi,Zmt,Zmv,Zmw,Zmx,Zmz,Zm2,Zna,Znb,Zn5,Zoa,Zos,Zot,Zo7,Zo8,Zo9,Zpc,Zqf,Zqg,Zqh,Zqm,Zqr,eq_self,true_and,and_true,hI]
    tactic =>
    refine endA ?_
    sym =>
    simp [Zaa,Zab,Zad,Zae,Zaf,Zag,Zah,Zai,Zak,Zal,Zam,Zan,Zap,Zaq,Zav,Zaw,Zay,Zaz,Za0,Za1,Za2,Za3,Za4,Za5,Za9,Zba,Zbb,Zbf,Zbl,Zev,Zew,Zez,Ze0,Ze2,Zfd,Zfe,Zfh,Zfn,Zfq,Zft,Zfu,Zfx,Zfz,Zf1,Zgh,Zgi,Zmt,Zmv,Zmw,Zmx,Zmz,Zm2,Zna,Znb,Zn5,Zoa,Zos,Zot,Zo7,Zo8,Zo9,Zpc,Zqf,Zqg,Zqh,Zqm,Zqr,eq_self,true_and,and_true]
theorem byt_nat {b : List Int} (hb : byt8 b) (i : Nat) : ∃ c : Nat, b.getD i 0 = (c : Int) ∧ c < 256 ∧ (b.getD i 0).toNat % 256 = c := by
  have h := byt8_get hb i
  exact ⟨(b.getD i 0).toNat, by omega, by omega, by omega⟩
def j49 (b : List Int) (k : Nat) (s : St) : Prop := ∃ i : Nat, i + k = b.length ∧ s = ⟨[(3, U ((crcs 4294967295 (b.take i) : Nat) : Int)), (8, .fz 1 [fB b]), (9, I (IN 1)), (10, I (IN 0)), (14, fB b), (15, I (IN b.length)), (16, I (IN i))], [], 0⟩
def i49 (b : List Int) (k : Nat) (s : St) : Prop := (k = 1 ∧ s = ⟨[(3, U 4294967295), (8, .fz 1 [fB b]), (9, I (IN 1)), (10, I (IN 0))], [], 0⟩) ∨ (k = 0 ∧ s = ⟨[(3, U ((crcs 4294967295 b : Nat) : Int)), (8, .fz 1 [fB b]), (9, I (IN 1)), (10, I (IN 1))], [], 0⟩)
theorem of_con (b : List Int) (hb : byt8 b) (hl : b.length < 4611686018427387904) : Con Try.prog 49 [] [.fz 1 [fB b]] [] (U ((sumN b : Nat) : Int)) := by
  refine con_j b49 rfl ?_
  sym =>
  simp [Zaa,Zab,Zad,Zae,Zaf,Zag,Zah,Zai,Zak,Zal,Zam,Zan,Zap,Zaq,Zav,Zaw,Zay,Zaz,Za0,Za1,Za2,Za3,Za4,Za5,Za9,Zba,Zbb,Zbf,Zbj,Zbt,Zb1,Zcn,Zdc,Zdd,Zde,Zdi,Zev,Zew,Zez,Ze0,Ze2,Ze5,Zfd,Zfe,Zfh,Zfn,Zfq,Zf1,Zgd,Zgf,Zgr,Zgu,Zg4,Zg6,Zho,Zh6,Zh7,Zjr,Zla,Zlb,Zle,Zlj,Zlz,Zmt,Zmv,Zmw,Zmx,Zmz,Zm2,Zm6,Zm9,Zna,Znb,Zne,Znf,Zng,Zns,Znt,Znw,Zn5,Zn6,Zrd,Zos,Zot,Zo7,Zo8,Zo9,Zpc,Zpi,Zqf,Zqg,Zqh,Zqm,Zqr,eq_self,true_and,and_true,Nat.mul_one]
  tactic =>
  refine lpA (i49 b) 1 [] _ (.inl ⟨rfl, rfl⟩) (wkA ?_) ?_
  · sym =>
    simp [Zaa,Zab,Zad,Zae,Zaf,Zag,Zah,Zai,Zak,Zal,Zam,Zan,Zap,Zaq,Zav,Zaw,Zay,Zaz,Za0,Za1,Za2,Za3,Za4,Za5,Za9,Zba,Zbb,Zbf,Zbj,Zbt,Zb1,Zcn,Zdc,Zdd,Zde,Zdi,Zev,Zew,Zez,Ze0,Ze2,Ze5,Zfd,Zfe,Zfh,Zfn,Zfq,Zf1,Zgd,Zgf,Zgr,Zgu,Zg4,Zg6,Zho,Zh6,Zh7,Zjr,Zla,Zlb,Zle,Zlj,Zlz,Zmt,Zmv,Zmw,Zmx,Zmz,Zm2,Zm6,Zm9,Zna,Znb,Zne,Znf,Zng,Zns,Znt,Znw,Zn5,Zn6,Zrd,Zos,Zot,Zo7,Zo8,Zo9,Zpc,Zpi,Zqf,Zqg,Zqh,Zqm,Zqr,eq_self,true_and,and_true,Nat.mul_one]
  rintro k s (⟨rfl, rfl⟩ | ⟨rfl, rfl⟩)
  · sym =>
    simp [Zaa,Zab,Zad,Zae,Zaf,Zag,Zah,Zai,Zak,Zal,Zam,Zan,Zap,Zaq,Zav,Zaw,Zay,Zaz,Za0,Za1,Za2,Za3,Za4,Za5,Za9,Zba,Zbb,Zbf,Zbj,Zbt,Zb1,Zcn,Zdc,Zdd,Zde,Zdi,Zev,Zew,Zez,Ze0,Ze2,Ze5,Zfd,Zfe,Zfh,Zfn,Zfq,Zf1,Zgd,Zgf,Zgr,Zgu,Zg4,Zg6,Zho,Zh6,Zh7,Zjr,Zla,Zlb,Zle,Zlj,Zlz,Zmt,Zmv,Zmw,Zmx,Zmz,Zm2,Zm6,Zm9,Zna,Znb,Zne,Znf,Zng,Zns,Znt,Znw,Zn5,Zn6,Zrd,Zos,Zot,Zo7,Zo8,Zo9,Zpc,Zpi,Zqf,Zqg,Zqh,Zqm,Zqr,eq_self,true_and,and_true,Nat.mul_one]
    tactic =>
    refine lpA (j49 b) b.length [] _ ⟨0, by omega, rfl⟩ (wkA ?_) ?_
    · sym =>
      simp [Zaa,Zab,Zad,Zae,Zaf,Zag,Zah,Zai,Zak,Zal,Zam,Zan,Zap,Zaq,Zav,Zaw,Zay,Zaz,Za0,Za1,Za2,Za3,Za4,Za5,Za9,Zba,Zbb,Zbf,Zbj,Zbt,Zb1,Zcn,Zdc,Zdd,Zde,Zdi,Zev,Zew,Zez,Ze0,Ze2,Ze5,Zfd,Zfe,Zfh,Zfn,Zfq,Zf1,Zgd,Zgf,Zgr,Zgu,Zg4,Zg6,Zho,Zh6,Zh7,Zjr,Zla,Zlb,Zle,Zlj,Zlz,Zmt,Zmv,Zmw,Zmx,Zmz,Zm2,Zm6,Zm9,Zna,Znb,Zne,Znf,Zng,Zns,Znt,Znw,Zn5,Zn6,Zrd,Zos,Zot,Zo7,Zo8,Zo9,Zpc,Zpi,Zqf,Zqg,Zqh,Zqm,Zqr,eq_self,true_and,and_true,Nat.mul_one]
      tactic =>
      rfl
    rintro k s ⟨i, hi, rfl⟩
    by_cases h : i < b.length
    · have hw := w64s i (by omega)
      have hg := cB_get b i h
      obtain ⟨c, hc1, hc2, hc3⟩ := byt_nat hb i
      have hct := crcs_take 4294967295 b i h
      rw [hc3] at hct
      rw [hc1] at hg
      have hlt := crcs_lt (b.take i) (r := 4294967295) (by decide)
      obtain ⟨X, hX⟩ : ∃ X, X = crcs 4294967295 (b.take i) := ⟨_, rfl⟩
      rw [← hX] at hct hlt ⊢
      sym =>
      simp [Zaa,Zab,Zad,Zae,Zaf,Zag,Zah,Zai,Zak,Zal,Zam,Zan,Zap,Zaq,Zav,Zaw,Zay,Zaz,Za0,Za1,Za2,Za3,Za4,Za5,Za9,Zba,Zbb,Zbf,Zbj,Zbt,Zb1,Zcn,Zdc,Zdd,Zde,Zdi,Zev,Zew,Zez,Ze0,Ze2,Ze5,Zfd,Zfe,Zfh,Zfn,Zfq,Zf1,Zgd,Zgf,Zgr,Zgu,Zg4,Zg6,Zho,Zh6,Zh7,Zjr,Zla,Zlb,Zle,Zlj,Zlz,Zmt,Zmv,Zmw,Zmx,Zmz,Zm2,Zm6,Zm9,Zna,Znb,Zne,Znf,Zng,Zns,Znt,Znw,Zn5,Zn6,Zrd,Zos,Zot,Zo7,Zo8,Zo9,Zpc,Zpi,Zqf,Zqg,Zqh,Zqm,Zqr,eq_self,true_and,and_true,Nat.mul_one,h,hw,hg,cB_length,callable_50]
      tactic =>
      and_intros <;> try (first | omega | rfl | assumption | simp only [IN]; omega)
      refine cl none (step_con X c hlt hc2) trivial ?_
      sym =>
      simp [Zaa,Zab,Zad,Zae,Zaf,Zag,Zah,Zai,Zak,Zal,Zam,Zan,Zap,Zaq,Zav,Zaw,Zay,Zaz,Za0,Za1,Za2,Za3,Za4,Za5,Za9,Zba,Zbb,Zbf,Zbj,Zbt,Zb1,Zcn,Zdc,Zdd,Zde,Zdi,Zev,Zew,Zez,Ze0,Ze2,Ze5,Zfd,Zfe,Zfh,Zfn,Zfq,Zf1,Zgd,Zgf,Zgr,Zgu,Zg4,Zg6,Zho,Zh6,Zh7,Zjr,Zla,Zlb,Zle,Zlj,Zlz,Zmt,Zmv,Zmw,Zmx,Zmz,Zm2,Zm6,Zm9,Zna,Znb,Zne,Znf,Zng,Zns,Znt,Znw,Zn5,Zn6,Zrd,Zos,Zot,Zo7,Zo8,Zo9,Zpc,Zpi,Zqf,Zqg,Zqh,Zqm,Zqr,eq_self,true_and,and_true,Nat.mul_one,hw]
      tactic =>
      unfold NextL; refine ⟨(k - 1), [], _, by omega, ⟨i + 1, by omega, rfl⟩, wkA ?_⟩
      rw [hct]
      sym =>
      simp [Zaa,Zab,Zad,Zae,Zaf,Zag,Zah,Zai,Zak,Zal,Zam,Zan,Zap,Zaq,Zav,Zaw,Zay,Zaz,Za0,Za1,Za2,Za3,Za4,Za5,Za9,Zba,Zbb,Zbf,Zbj,Zbt,Zb1,Zcn,Zdc,Zdd,Zde,Zdi,Zev,Zew,Zez,Ze0,Ze2,Ze5,Zfd,Zfe,Zfh,Zfn,Zfq,Zf1,Zgd,Zgf,Zgr,Zgu,Zg4,Zg6,Zho,Zh6,Zh7,Zjr,Zla,Zlb,Zle,Zlj,Zlz,Zmt,Zmv,Zmw,Zmx,Zmz,Zm2,Zm6,Zm9,Zna,Znb,Zne,Znf,Zng,Zns,Znt,Znw,Zn5,Zn6,Zrd,Zos,Zot,Zo7,Zo8,Zo9,Zpc,Zpi,Zqf,Zqg,Zqh,Zqm,Zqr,eq_self,true_and,and_true,Nat.mul_one]
    · have e : b.take i = b := List.take_of_length_le (by omega)
      have hw1 : IntKind.i64.wrap 1 = 1 := by decide
      rw [e]
      sym =>
      simp [Zaa,Zab,Zad,Zae,Zaf,Zag,Zah,Zai,Zak,Zal,Zam,Zan,Zap,Zaq,Zav,Zaw,Zay,Zaz,Za0,Za1,Za2,Za3,Za4,Za5,Za9,Zba,Zbb,Zbf,Zbj,Zbt,Zb1,Zcn,Zdc,Zdd,Zde,Zdi,Zev,Zew,Zez,Ze0,Ze2,Ze5,Zfd,Zfe,Zfh,Zfn,Zfq,Zf1,Zgd,Zgf,Zgr,Zgu,Zg4,Zg6,Zho,Zh6,Zh7,Zjr,Zla,Zlb,Zle,Zlj,Zlz,Zmt,Zmv,Zmw,Zmx,Zmz,Zm2,Zm6,Zm9,Zna,Znb,Zne,Znf,Zng,Zns,Znt,Znw,Zn5,Zn6,Zrd,Zos,Zot,Zo7,Zo8,Zo9,Zpc,Zpi,Zqf,Zqg,Zqh,Zqm,Zqr,eq_self,true_and,and_true,Nat.mul_one,h,hw1]
      tactic =>
      unfold NextL; refine ⟨0, [], _, by omega, (.inr ⟨rfl, rfl⟩), wkA ?_⟩
      sym =>
      simp [Zaa,Zab,Zad,Zae,Zaf,Zag,Zah,Zai,Zak,Zal,Zam,Zan,Zap,Zaq,Zav,Zaw,Zay,Zaz,Za0,Za1,Za2,Za3,Za4,Za5,Za9,Zba,Zbb,Zbf,Zbj,Zbt,Zb1,Zcn,Zdc,Zdd,Zde,Zdi,Zev,Zew,Zez,Ze0,Ze2,Ze5,Zfd,Zfe,Zfh,Zfn,Zfq,Zf1,Zgd,Zgf,Zgr,Zgu,Zg4,Zg6,Zho,Zh6,Zh7,Zjr,Zla,Zlb,Zle,Zlj,Zlz,Zmt,Zmv,Zmw,Zmx,Zmz,Zm2,Zm6,Zm9,Zna,Znb,Zne,Znf,Zng,Zns,Znt,Znw,Zn5,Zn6,Zrd,Zos,Zot,Zo7,Zo8,Zo9,Zpc,Zpi,Zqf,Zqg,Zqh,Zqm,Zqr,eq_self,true_and,and_true,Nat.mul_one]
  · have hlt := crcs_lt b (r := 4294967295) (by decide)
    have hx := xor_ones _ hlt
    have hs : sumN b = 4294967295 - crcs 4294967295 b := rfl
    have hmx : IntKind.u32.max = 4294967295 := by decide
    have hsg : IntKind.u32.signed = false := rfl
    rw [← hs] at hx
    obtain ⟨X, hX⟩ : ∃ X, X = crcs 4294967295 b := ⟨_, rfl⟩
    rw [← hX] at hx ⊢
    sym =>
    simp [Zaa,Zab,Zad,Zae,Zaf,Zag,Zah,Zai,Zak,Zal,Zam,Zan,Zap,Zaq,Zav,Zaw,Zay,Zaz,Za0,Za1,Za2,Za3,Za4,Za5,Za9,Zba,Zbb,Zbf,Zbj,Zbt,Zb1,Zcn,Zdc,Zdd,Zde,Zdi,Zev,Zew,Zez,Ze0,Ze2,Ze5,Zfd,Zfe,Zfh,Zfn,Zfq,Zf1,Zgd,Zgf,Zgr,Zgu,Zg4,Zg6,Zho,Zh6,Zh7,Zjr,Zla,Zlb,Zle,Zlj,Zlz,Zmt,Zmv,Zmw,Zmx,Zmz,Zm2,Zm6,Zm9,Zna,Znb,Zne,Znf,Zng,Zns,Znt,Znw,Zn5,Zn6,Zrd,Zos,Zot,Zo7,Zo8,Zo9,Zpc,Zpi,Zqf,Zqg,Zqh,Zqm,Zqr,eq_self,true_and,and_true,Nat.mul_one,hmx,hsg,hx]
    tactic =>
    refine endA ?_
    sym =>
    simp [Zaa,Zab,Zad,Zae,Zaf,Zag,Zah,Zai,Zak,Zal,Zam,Zan,Zap,Zaq,Zav,Zaw,Zay,Zaz,Za0,Za1,Za2,Za3,Za4,Za5,Za9,Zba,Zbb,Zbf,Zbj,Zbt,Zb1,Zcn,Zdc,Zdd,Zde,Zdi,Zev,Zew,Zez,Ze0,Ze2,Ze5,Zfd,Zfe,Zfh,Zfn,Zfq,Zf1,Zgd,Zgf,Zgr,Zgu,Zg4,Zg6,Zho,Zh6,Zh7,Zjr,Zla,Zlb,Zle,Zlj,Zlz,Zmt,Zmv,Zmw,Zmx,Zmz,Zm2,Zm6,Zm9,Zna,Znb,Zne,Znf,Zng,Zns,Znt,Znw,Zn5,Zn6,Zrd,Zos,Zot,Zo7,Zo8,Zo9,Zpc,Zpi,Zqf,Zqg,Zqh,Zqm,Zqr,eq_self,true_and,and_true,Nat.mul_one]
theorem sum_con (b : List Int) (hb : byt8 b) (hl : b.length < 4611686018427387904) : Con Try.prog 46 [] [fB b] [] (U ((sumN b : Nat) : Int)) := by
  refine con_j b46 rfl ?_
  sym =>
  simp [Zab,Zad,Zak,Zam,Zaz,Za0,Za1,Za2,Za3,Za4,Za5,Za9,Zba,Zbb,Zcz,Zdc,Zdd,Zde,Zdi,Zev,Zew,Zez,Ze0,Ze2,Ze3,Ze5,Zfc,Zfd,Zfe,Zfh,Zhf,Zhg,Zhh,Ziq,Zir,Zjb,Zjl,Zjm,Zjr,Zj9,Zla,Zlb,Zle,Zlt,Zlx,Zlz,Zmt,Zmv,Zmw,Zmx,Zmz,Zm2,Zna,Znb,Zne,Znf,Zng,Znh,Znl,Znm,Znn,Zno,Znp,Zos,Zot,Zo7,Zpc,eq_self,true_and,and_true,callable_49]
  tactic =>
  refine cl none (of_con b hb hl) trivial ?_
  sym =>
  simp [Zab,Zad,Zak,Zam,Zaz,Za0,Za1,Za2,Za3,Za4,Za5,Za9,Zba,Zbb,Zcz,Zdc,Zdd,Zde,Zdi,Zev,Zew,Zez,Ze0,Ze2,Ze3,Ze5,Zfc,Zfd,Zfe,Zfh,Zhf,Zhg,Zhh,Ziq,Zir,Zjb,Zjl,Zjm,Zjr,Zj9,Zla,Zlb,Zle,Zlt,Zlx,Zlz,Zmt,Zmv,Zmw,Zmx,Zmz,Zm2,Zna,Znb,Zne,Znf,Zng,Znh,Znl,Znm,Znn,Zno,Znp,Zos,Zot,Zo7,Zpc,eq_self,true_and,and_true]
  tactic =>
  refine endA ?_
  sym =>
  simp [Zab,Zad,Zak,Zam,Zaz,Za0,Za1,Za2,Za3,Za4,Za5,Za9,Zba,Zbb,Zcz,Zdc,Zdd,Zde,Zdi,Zev,Zew,Zez,Ze0,Ze2,Ze3,Ze5,Zfc,Zfd,Zfe,Zfh,Zhf,Zhg,Zhh,Ziq,Zir,Zjb,Zjl,Zjm,Zjr,Zj9,Zla,Zlb,Zle,Zlt,Zlx,Zlz,Zmt,Zmv,Zmw,Zmx,Zmz,Zm2,Zna,Znb,Zne,Znf,Zng,Znh,Znl,Znm,Znn,Zno,Znp,Zos,Zot,Zo7,Zpc,eq_self,true_and,and_true]
def i34' (b : List Int) (k : Nat) (s : St) : Prop := ∃ i : Nat, i + k = b.length ∧ s = ⟨[(0, fB b), (3, U ((crcs 4294967295 (b.take i) : Nat) : Int)), (4, I (IN i))], [], 0⟩
theorem rsum_con (b : List Int) (hb : byt8 b) (hl : b.length < 4611686018427387904) : Con Try.prog 34 [] [fB b] [] (U ((sumN b : Nat) : Int)) := by
  refine con_j b34 rfl ?_
  sym =>
  simp [Zaa,Zab,Zad,Zae,Zaf,Zag,Zah,Zai,Zak,Zal,Zam,Zan,Zap,Zaq,Zav,Zaw,Zay,Zaz,Za0,Za1,Za2,Za3,Za4,Za5,Za9,Zba,Zbb,Zbf,Zbt,Zb1,Zcn,Zdc,Zdd,Zde,Zdi,Zev,Zew,Zez,Ze0,Ze2,Ze5,Zfd,Zfe,Zfh,Zfn,Zfq,Zfr,Zf1,Zgr,Zgu,Zg4,Zg6,Zho,Zh6,Zh7,Zjr,Zla,Zlb,Zle,Zlj,Zlz,Zmt,Zmv,Zmw,Zmx,Zmz,Zm2,Zm6,Zna,Znb,Zne,Znf,Zng,Zns,Znt,Znw,Zn5,Zos,Zot,Zo7,Zo8,Zo9,Zpc,Zpi,Zqf,Zqg,Zqh,Zqm,Zqr,eq_self,true_and,and_true,Nat.mul_one]
  tactic =>
  refine lpA (i34' b) b.length [] _ ⟨0, by omega, rfl⟩ (wkA ?_) ?_
  · sym =>
    simp [Zaa,Zab,Zad,Zae,Zaf,Zag,Zah,Zai,Zak,Zal,Zam,Zan,Zap,Zaq,Zav,Zaw,Zay,Zaz,Za0,Za1,Za2,Za3,Za4,Za5,Za9,Zba,Zbb,Zbf,Zbt,Zb1,Zcn,Zdc,Zdd,Zde,Zdi,Zev,Zew,Zez,Ze0,Ze2,Ze5,Zfd,Zfe,Zfh,Zfn,Zfq,Zfr,Zf1,Zgr,Zgu,Zg4,Zg6,Zho,Zh6,Zh7,Zjr,Zla,Zlb,Zle,Zlj,Zlz,Zmt,Zmv,Zmw,Zmx,Zmz,Zm2,Zm6,Zna,Znb,Zne,Znf,Zng,Zns,Znt,Znw,Zn5,Zos,Zot,Zo7,Zo8,Zo9,Zpc,Zpi,Zqf,Zqg,Zqh,Zqm,Zqr,eq_self,true_and,and_true,Nat.mul_one]
    tactic =>
    rfl
  rintro k s ⟨i, hi, rfl⟩
  have hlt := crcs_lt (b.take i) (r := 4294967295) (by decide)
  by_cases h : i < b.length
  · have hw := w64s i (by omega)
    have hg := cB_get b i h
    obtain ⟨c, hc1, hc2, hc3⟩ := byt_nat hb i
    have hct := crcs_take 4294967295 b i h
    rw [hc3] at hct
    rw [hc1] at hg
    obtain ⟨X, hX⟩ : ∃ X, X = crcs 4294967295 (b.take i) := ⟨_, rfl⟩
    rw [← hX] at hct hlt ⊢
    sym =>
    simp [Zaa,Zab,Zad,Zae,Zaf,Zag,Zah,Zai,Zak,Zal,Zam,Zan,Zap,Zaq,Zav,Zaw,Zay,Zaz,Za0,Za1,Za2,Za3,Za4,Za5,Za9,Zba,Zbb,Zbf,Zbt,Zb1,Zcn,Zdc,Zdd,Zde,Zdi,Zev,Zew,Zez,Ze0,Ze2,Ze5,Zfd,Zfe,Zfh,Zfn,Zfq,Zfr,Zf1,Zgr,Zgu,Zg4,Zg6,Zho,Zh6,Zh7,Zjr,Zla,Zlb,Zle,Zlj,Zlz,Zmt,Zmv,Zmw,Zmx,Zmz,Zm2,Zm6,Zna,Znb,Zne,Znf,Zng,Zns,Znt,Znw,Zn5,Zos,Zot,Zo7,Zo8,Zo9,Zpc,Zpi,Zqf,Zqg,Zqh,Zqm,Zqr,eq_self,true_and,and_true,Nat.mul_one,h,hw,hg,cB_length,callable_47]
    tactic =>
    and_intros <;> try (first | omega | rfl | assumption | simp only [IN]; omega)
    refine cl none (rstep_con X c hlt hc2) trivial ?_
    sym =>
    simp [Zaa,Zab,Zad,Zae,Zaf,Zag,Zah,Zai,Zak,Zal,Zam,Zan,Zap,Zaq,Zav,Zaw,Zay,Zaz,Za0,Za1,Za2,Za3,Za4,Za5,Za9,Zba,Zbb,Zbf,Zbt,Zb1,Zcn,Zdc,Zdd,Zde,Zdi,Zev,Zew,Zez,Ze0,Ze2,Ze5,Zfd,Zfe,Zfh,Zfn,Zfq,Zfr,Zf1,Zgr,Zgu,Zg4,Zg6,Zho,Zh6,Zh7,Zjr,Zla,Zlb,Zle,Zlj,Zlz,Zmt,Zmv,Zmw,Zmx,Zmz,Zm2,Zm6,Zna,Znb,Zne,Znf,Zng,Zns,Znt,Znw,Zn5,Zos,Zot,Zo7,Zo8,Zo9,Zpc,Zpi,Zqf,Zqg,Zqh,Zqm,Zqr,eq_self,true_and,and_true,Nat.mul_one,hw]
    tactic =>
    unfold NextL; refine ⟨(k - 1), [], _, by omega, ⟨i + 1, by omega, rfl⟩, wkA ?_⟩
    rw [hct]
    sym =>
    simp [Zaa,Zab,Zad,Zae,Zaf,Zag,Zah,Zai,Zak,Zal,Zam,Zan,Zap,Zaq,Zav,Zaw,Zay,Zaz,Za0,Za1,Za2,Za3,Za4,Za5,Za9,Zba,Zbb,Zbf,Zbt,Zb1,Zcn,Zdc,Zdd,Zde,Zdi,Zev,Zew,Zez,Ze0,Ze2,Ze5,Zfd,Zfe,Zfh,Zfn,Zfq,Zfr,Zf1,Zgr,Zgu,Zg4,Zg6,Zho,Zh6,Zh7,Zjr,Zla,Zlb,Zle,Zlj,Zlz,Zmt,Zmv,Zmw,Zmx,Zmz,Zm2,Zm6,Zna,Znb,Zne,Znf,Zng,Zns,Znt,Znw,Zn5,Zos,Zot,Zo7,Zo8,Zo9,Zpc,Zpi,Zqf,Zqg,Zqh,Zqm,Zqr,eq_self,true_and,and_true,Nat.mul_one]
  · have e : b.take i = b := List.take_of_length_le (by omega)
    rw [e] at hlt ⊢
    have hs : sumN b = 4294967295 - crcs 4294967295 b := rfl
    obtain ⟨X, hX⟩ : ∃ X, X = crcs 4294967295 b := ⟨_, rfl⟩
    rw [← hX] at hs hlt ⊢
    have hw : IntKind.u32.wrap (4294967295 - (X : Int)) = ((sumN b : Nat) : Int) := by rw [w32u, hs]; omega
    sym =>
    simp [Zaa,Zab,Zad,Zae,Zaf,Zag,Zah,Zai,Zak,Zal,Zam,Zan,Zap,Zaq,Zav,Zaw,Zay,Zaz,Za0,Za1,Za2,Za3,Za4,Za5,Za9,Zba,Zbb,Zbf,Zbt,Zb1,Zcn,Zdc,Zdd,Zde,Zdi,Zev,Zew,Zez,Ze0,Ze2,Ze5,Zfd,Zfe,Zfh,Zfn,Zfq,Zfr,Zf1,Zgr,Zgu,Zg4,Zg6,Zho,Zh6,Zh7,Zjr,Zla,Zlb,Zle,Zlj,Zlz,Zmt,Zmv,Zmw,Zmx,Zmz,Zm2,Zm6,Zna,Znb,Zne,Znf,Zng,Zns,Znt,Znw,Zn5,Zos,Zot,Zo7,Zo8,Zo9,Zpc,Zpi,Zqf,Zqg,Zqh,Zqm,Zqr,eq_self,true_and,and_true,Nat.mul_one,h,hw]
    tactic =>
    refine endA ?_
    sym =>
    simp [Zaa,Zab,Zad,Zae,Zaf,Zag,Zah,Zai,Zak,Zal,Zam,Zan,Zap,Zaq,Zav,Zaw,Zay,Zaz,Za0,Za1,Za2,Za3,Za4,Za5,Za9,Zba,Zbb,Zbf,Zbt,Zb1,Zcn,Zdc,Zdd,Zde,Zdi,Zev,Zew,Zez,Ze0,Ze2,Ze5,Zfd,Zfe,Zfh,Zfn,Zfq,Zfr,Zf1,Zgr,Zgu,Zg4,Zg6,Zho,Zh6,Zh7,Zjr,Zla,Zlb,Zle,Zlj,Zlz,Zmt,Zmv,Zmw,Zmx,Zmz,Zm2,Zm6,Zna,Znb,Zne,Znf,Zng,Zns,Znt,Znw,Zn5,Zos,Zot,Zo7,Zo8,Zo9,Zpc,Zpi,Zqf,Zqg,Zqh,Zqm,Zqr,eq_self,true_and,and_true,Nat.mul_one]
end Go.Proofs.Ythhccabdlajngaa.FrmA
