import Derived.Test.YthhccabdlajngaaDoorNumA
namespace Go.Proofs.YthhccabdlajngaaDoor.NumB
open Go Go.Sim Go.Sim.E Go.RowKit Go.Proofs Go.Proofs.YthhccabdlajngaaDoor.Cod Go.Proofs.YthhccabdlajngaaDoor.Tab Go.Proofs.YthhccabdlajngaaDoor.Bse Go.Proofs.YthhccabdlajngaaDoor.NumA
set_option linter.unusedVariables false
set_option linter.unusedSimpArgs false
set_option maxRecDepth 100000
set_option maxHeartbeats 4000000
theorem td_neg (n : Int) (h : n < 0) : n.tdiv 256 = -((-n) / 256) := by
  rw [show n = -(-n) from by omega, Int.neg_tdiv, Int.tdiv_eq_ediv_of_nonneg (by omega), Int.neg_neg]
theorem tm_neg (n : Int) (h : n < 0) : n.tmod 256 = -((-n) % 256) := by
  rw [show n = -(-n) from by omega, Int.neg_tmod, Int.tmod_eq_emod_of_nonneg (by omega), Int.neg_neg]
theorem tm_low (n : Int) : IntKind.u8.wrap ((IntKind.i64.wrap (n.tmod (256 : Int) + 256)).tmod 256) = n % 256 := by
  by_cases h : n < 0
  · rw [tm_neg n h, w64 _ (by omega), Int.tmod_eq_emod_of_nonneg (by omega), w8u]
    omega
  · rw [Int.tmod_eq_emod_of_nonneg (show 0 ≤ n by omega), w64 _ (by omega), Int.tmod_eq_emod_of_nonneg (by omega), w8u]
    omega
theorem low_con (n : Int) (hn : -9223372036854775808 ≤ n ∧ n ≤ 9223372036854775807) : Con Tryd.prog 23 [] [I n] [] (Y (n % 256)) := by
  have hm := tm_low n
  refine con_j b23 rfl ?_
  sym =>
  simp [Zab,Zad,Zak,Zam,Zaz,Za0,Za1,Za2,Za3,Za4,Za5,Za9,Zba,Zbb,Zbf,Zbl,Zev,Zew,Zez,Ze0,Ze2,Zfd,Zfe,Zfh,Zfn,Zfq,Zfu,Zgh,Zgi,Zmt,Zmv,Zmw,Zmx,Zmz,Zm2,Zna,Znb,Zos,Zot,Zo7,Zpc,eq_self,true_and]
  tactic =>
  rw [hm]
  refine endA ?_
  sym =>
  simp [Zab,Zad,Zak,Zam,Zaz,Za0,Za1,Za2,Za3,Za4,Za5,Za9,Zba,Zbb,Zbf,Zbl,Zev,Zew,Zez,Ze0,Ze2,Zfd,Zfe,Zfh,Zfn,Zfq,Zfu,Zgh,Zgi,Zmt,Zmv,Zmw,Zmx,Zmz,Zm2,Zna,Znb,Zos,Zot,Zo7,Zpc,eq_self,true_and]
theorem floor_con (n : Int) (hn : -9223372036854775808 ≤ n ∧ n ≤ 9223372036854775807) : Con Tryd.prog 24 [] [I n] [] (I (n / 256)) := by
  by_cases h : n.tmod 256 < 0
  · have h0 : n < 0 := by
      apply Decidable.byContradiction
      intro hh
      rw [Int.tmod_eq_emod_of_nonneg (by omega)] at h
      omega
    have e := tm_neg n h0
    have e2 := td_neg n h0
    have h1 : IntKind.i64.wrap (n.tdiv 256) = n.tdiv 256 := w64 _ (by omega)
    have h2 : IntKind.i64.wrap (n.tdiv 256 - (1 : Int)) = n / 256 := by rw [w64 _ (by omega)]; omega
    refine con_j b24 rfl ?_
    sym =>
    simp [Zaa,Zab,Zad,Zae,Zaf,Zak,Zal,Zam,Zaz,Za0,Za1,Za2,Za3,Za4,Za5,Za9,Zba,Zbb,Zbf,Zev,Zew,Zez,Ze0,Ze2,Zfd,Zfe,Zfh,Zfn,Zfr,Zft,Zfu,Zf1,Zmt,Zmv,Zmw,Zmx,Zmz,Zm2,Zna,Znb,Zos,Zot,Zou,Zo7,Zpc,eq_self,true_and]
    tactic =>
    rw [if_pos h, h1]
    sym =>
    simp [Zaa,Zab,Zad,Zae,Zaf,Zak,Zal,Zam,Zaz,Za0,Za1,Za2,Za3,Za4,Za5,Za9,Zba,Zbb,Zbf,Zev,Zew,Zez,Ze0,Ze2,Zfd,Zfe,Zfh,Zfn,Zfr,Zft,Zfu,Zf1,Zmt,Zmv,Zmw,Zmx,Zmz,Zm2,Zna,Znb,Zos,Zot,Zou,Zo7,Zpc,eq_self,true_and]
    tactic =>
    rw [h2]
    refine endA ?_
    sym =>
    simp [Zaa,Zab,Zad,Zae,Zaf,Zak,Zal,Zam,Zaz,Za0,Za1,Za2,Za3,Za4,Za5,Za9,Zba,Zbb,Zbf,Zev,Zew,Zez,Ze0,Ze2,Zfd,Zfe,Zfh,Zfn,Zfr,Zft,Zfu,Zf1,Zmt,Zmv,Zmw,Zmx,Zmz,Zm2,Zna,Znb,Zos,Zot,Zou,Zo7,Zpc,eq_self,true_and]
  · have h1 : IntKind.i64.wrap (n.tdiv 256) = n / 256 := by
      by_cases h0 : n < 0
      · have e := tm_neg n h0
        have e2 := td_neg n h0
        rw [w64 _ (by omega)]; omega
      · rw [Int.tdiv_eq_ediv_of_nonneg (by omega), w64 _ (by omega)]
    refine con_j b24 rfl ?_
    sym =>
    simp [Zaa,Zab,Zad,Zae,Zaf,Zak,Zal,Zam,Zaz,Za0,Za1,Za2,Za3,Za4,Za5,Za9,Zba,Zbb,Zbf,Zev,Zew,Zez,Ze0,Ze2,Zfd,Zfe,Zfh,Zfn,Zfr,Zft,Zfu,Zf1,Zmt,Zmv,Zmw,Zmx,Zmz,Zm2,Zna,Znb,Zos,Zot,Zou,Zo7,Zpc,eq_self,true_and]
    tactic =>
    rw [if_neg h, h1]
    sym =>
    simp [Zaa,Zab,Zad,Zae,Zaf,Zak,Zal,Zam,Zaz,Za0,Za1,Za2,Za3,Za4,Za5,Za9,Zba,Zbb,Zbf,Zev,Zew,Zez,Ze0,Ze2,Zfd,Zfe,Zfh,Zfn,Zfr,Zft,Zfu,Zf1,Zmt,Zmv,Zmw,Zmx,Zmz,Zm2,Zna,Znb,Zos,Zot,Zou,Zo7,Zpc,eq_self,true_and]
    tactic =>
    refine endA ?_
    sym =>
    simp [Zaa,Zab,Zad,Zae,Zaf,Zak,Zal,Zam,Zaz,Za0,Za1,Za2,Za3,Za4,Za5,Za9,Zba,Zbb,Zbf,Zev,Zew,Zez,Ze0,Ze2,Zfd,Zfe,Zfh,Zfn,Zfr,Zft,Zfu,Zf1,Zmt,Zmv,Zmw,Zmx,Zmz,Zm2,Zna,Znb,Zos,Zot,Zou,Zo7,Zpc,eq_self,true_and]
theorem big_shift (n : Int) (hn : -9223372036854775808 ≤ n ∧ n ≤ 9223372036854775807) (s : Nat) (h : 8 ≤ s) : n / 256 ^ s = sgn n := by
  have h8 : n / 256 ^ 8 = sgn n := by
    have e : (256 : Int) ^ 8 = 18446744073709551616 := by decide
    rw [e]
    unfold sgn
    split <;> omega
  obtain ⟨d, rfl⟩ : ∃ d, s = 8 + d := ⟨s - 8, by omega⟩
  rw [Int.pow_add, ← Int.ediv_ediv_of_nonneg (Int.le_of_lt (Int.pow_pos (by decide))), h8]
  have hp : (0 : Int) < 256 ^ d := Int.pow_pos (by decide)
  unfold sgn
  split
  · exact Int.ediv_eq_neg_one_of_neg_of_le (by decide) (by omega)
  · exact Int.zero_ediv _
/-- A byte of a number. -/
theorem byte_at (n : Int) (hn : -9223372036854775808 ≤ n ∧ n ≤ 9223372036854775807) (s : Nat) : IntKind.u8.wrap (n.fdiv (2 ^ (min (8 * s) 63))) = n / 256 ^ s % 256 := by
  rw [Int.fdiv_eq_ediv_of_nonneg _ (Int.le_of_lt (Int.pow_pos (by decide))), w8u]
  by_cases h : s < 8
  · rw [show min (8 * s) 63 = 8 * s from by omega, show (2 : Int) ^ (8 * s) = 256 ^ s from by rw [Int.pow_mul]; rfl]
  · rw [show min (8 * s) 63 = 63 from by omega, big_shift n hn s (by omega)]
    have e : (2 : Int) ^ 63 = 9223372036854775808 := by decide
    rw [e]
    unfold sgn
    split <;> omega
def i21 (n f : Int) (W : Nat) (k : Nat) (s : St) : Prop := ∃ i : Nat, i + k = W ∧ s = ⟨[(0, I n), (8, .lv 0 0 (1 + i)), (9, I (IN W - 1 - (i : Int)))], [(0, ⟨cB ((f :: beN W n).take (1 + i)), 1, 0⟩)], 1⟩
theorem base_con (n w : Int) (hn : -9223372036854775808 ≤ n ∧ n ≤ 9223372036854775807) (hw : w = 8 ∨ w = 12) : Con Tryd.prog 21 [] [I n, I w] [] (.tu [fB (baseF n w).1, I (baseF n w).2]) := by
  unfold baseF
  have hsg : n.fdiv (2 ^ 63) = sgn n := by
    rw [Int.fdiv_eq_ediv_of_nonneg _ (by decide)]
    unfold sgn
    split <;> omega
  have h56 : n.fdiv (2 ^ 56) = n / 72057594037927936 := by
    rw [Int.fdiv_eq_ediv_of_nonneg _ (by decide)]; rfl
  have b63 : min 63 IntKind.i64.bits = 63 := by decide
  have b56 : min 56 IntKind.i64.bits = 56 := by decide
  have n56 : (56 : Int).toNat = 56 := rfl
  have v1 : IntKind.i64.wrap (7 : Int) = 7 := by decide
  have v2 : IntKind.i64.wrap (56 : Int) = 56 := by decide
  have v3 : IntKind.i64.wrap (6 : Int) = 6 := by decide
  have v4 : IntKind.i64.wrap (11 : Int) = 11 := by decide
  have v5 : IntKind.i64.wrap (88 : Int) = 88 := by decide
  have v6 : IntKind.i64.wrap (10 : Int) = 10 := by decide
  have lit : (2 : Int) ^ 56 = 72057594037927936 ∧ (2 : Int) ^ 63 = 9223372036854775808 := by decide
  rw [lit.2] at hsg
  rw [lit.1] at h56
  rcases hw with rfl | rfl
  · rw [if_pos rfl]
    by_cases h : n / 72057594037927936 = sgn n
    rotate_left
    · rw [if_neg h]
      by_cases h0 : n < 0
      · refine con_j b21 rfl ?_
        sym =>
        simp [Zaa,Zab,Zad,Zae,Zaf,Zag,Zah,Zai,Zak,Zal,Zam,Zan,Zao,Zap,Zaq,Zav,Zaw,Zay,Zaz,Za0,Za1,Za2,Za3,Za4,Za5,Za6,Za7,Za8,Za9,Zba,Zbb,Zbd,Zbf,Zbl,Zct,Zcz,Zc5,Zev,Zew,Zex,Zez,Ze0,Ze2,Ze3,Ze4,Ze5,Zfc,Zfd,Zfe,Zff,Zfg,Zfh,Zfi,Zfk,Zfl,Zfn,Zfp,Zfr,Zfs,Zf0,Zf1,Zf4,Zgh,Zgi,Zhf,Zhg,Zhh,Zif,Zig,Zik,Zil,Zim,Ziq,Zir,Zix,Ziz,Zi0,Zi2,Zi3,Zi7,Zjj,Zjk,Zjo,Zmt,Zmv,Zmw,Zmx,Zmz,Zm3,Zna,Znb,Znf,Zng,Znh,Znl,Znm,Znn,Zno,Znp,Znr,Zof,Zog,Zrd,Zos,Zot,Zou,Zow,Zo7,Zo8,Zo9,Zpb,Zpc,Zpo,Zpw,Zpz,Zp1,Zp2,Zp9,Zqd,Zqe,Zqf,Zqg,Zqh,Zqi,Zqk,Zql,Zqm,Zqn,Zqr,eq_self,true_and,and_true,Nat.zero_add,Nat.mul_one,h0,v1,v2,v3,b63,b56,n56]
        tactic =>
        rw [hsg, h56, if_pos h]
        sym =>
        simp [Zaa,Zab,Zad,Zae,Zaf,Zag,Zah,Zai,Zak,Zal,Zam,Zan,Zao,Zap,Zaq,Zav,Zaw,Zay,Zaz,Za0,Za1,Za2,Za3,Za4,Za5,Za6,Za7,Za8,Za9,Zba,Zbb,Zbd,Zbf,Zbl,Zct,Zcz,Zc5,Zev,Zew,Zex,Zez,Ze0,Ze2,Ze3,Ze4,Ze5,Zfc,Zfd,Zfe,Zff,Zfg,Zfh,Zfi,Zfk,Zfl,Zfn,Zfp,Zfr,Zfs,Zf0,Zf1,Zf4,Zgh,Zgi,Zhf,Zhg,Zhh,Zif,Zig,Zik,Zil,Zim,Ziq,Zir,Zix,Ziz,Zi0,Zi2,Zi3,Zi7,Zjj,Zjk,Zjo,Zmt,Zmv,Zmw,Zmx,Zmz,Zm3,Zna,Znb,Znf,Zng,Znh,Znl,Znm,Znn,Zno,Znp,Znr,Zof,Zog,Zrd,Zos,Zot,Zou,Zow,Zo7,Zo8,Zo9,Zpb,Zpc,Zpo,Zpw,Zpz,Zp1,Zp2,Zp9,Zqd,Zqe,Zqf,Zqg,Zqh,Zqi,Zqk,Zql,Zqm,Zqn,Zqr,eq_self,true_and,and_true,Nat.zero_add,Nat.mul_one]
        tactic =>
        refine endA ?_
        sym =>
        simp [Zaa,Zab,Zad,Zae,Zaf,Zag,Zah,Zai,Zak,Zal,Zam,Zan,Zao,Zap,Zaq,Zav,Zaw,Zay,Zaz,Za0,Za1,Za2,Za3,Za4,Za5,Za6,Za7,Za8,Za9,Zba,Zbb,Zbd,Zbf,Zbl,Zct,Zcz,Zc5,Zev,Zew,Zex,Zez,Ze0,Ze2,Ze3,Ze4,Ze5,Zfc,Zfd,Zfe,Zff,Zfg,Zfh,Zfi,Zfk,Zfl,Zfn,Zfp,Zfr,Zfs,Zf0,Zf1,Zf4,Zgh,Zgi,Zhf,Zhg,Zhh,Zif,Zig,Zik,Zil,Zim,Ziq,Zir,Zix,Ziz,Zi0,Zi2,Zi3,Zi7,Zjj,Zjk,Zjo,Zmt,Zmv,Zmw,Zmx,Zmz,Zm3,Zna,Znb,Znf,Zng,Znh,Znl,Znm,Znn,Zno,Znp,Znr,Zof,Zog,Zrd,Zos,Zot,Zou,Zow,Zo7,Zo8,Zo9,Zpb,Zpc,Zpo,Zpw,Zpz,Zp1,Zp2,Zp9,Zqd,Zqe,Zqf,Zqg,Zqh,Zqi,Zqk,Zql,Zqm,Zqn,Zqr,eq_self,true_and,and_true,Nat.zero_add,Nat.mul_one]
        tactic =>
        rfl
      · refine con_j b21 rfl ?_
        sym =>
        simp [Zaa,Zab,Zad,Zae,Zaf,Zag,Zah,Zai,Zak,Zal,Zam,Zan,Zao,Zap,Zaq,Zav,Zaw,Zay,Zaz,Za0,Za1,Za2,Za3,Za4,Za5,Za6,Za7,Za8,Za9,Zba,Zbb,Zbd,Zbf,Zbl,Zct,Zcz,Zc5,Zev,Zew,Zex,Zez,Ze0,Ze2,Ze3,Ze4,Ze5,Zfc,Zfd,Zfe,Zff,Zfg,Zfh,Zfi,Zfk,Zfl,Zfn,Zfp,Zfr,Zfs,Zf0,Zf1,Zf4,Zgh,Zgi,Zhf,Zhg,Zhh,Zif,Zig,Zik,Zil,Zim,Ziq,Zir,Zix,Ziz,Zi0,Zi2,Zi3,Zi7,Zjj,Zjk,Zjo,Zmt,Zmv,Zmw,Zmx,Zmz,Zm3,Zna,Znb,Znf,Zng,Znh,Znl,Znm,Znn,Zno,Znp,Znr,Zof,Zog,Zrd,Zos,Zot,Zou,Zow,Zo7,Zo8,Zo9,Zpb,Zpc,Zpo,Zpw,Zpz,Zp1,Zp2,Zp9,Zqd,Zqe,Zqf,Zqg,Zqh,Zqi,Zqk,Zql,Zqm,Zqn,Zqr,eq_self,true_and,and_true,Nat.zero_add,Nat.mul_one,h0,v1,v2,v3,b63,b56,n56]
        tactic =>
        rw [hsg, h56, if_pos h]
        sym =>
        simp [Zaa,Zab,Zad,Zae,Zaf,Zag,Zah,Zai,Zak,Zal,Zam,Zan,Zao,Zap,Zaq,Zav,Zaw,Zay,Zaz,Za0,Za1,Za2,Za3,Za4,Za5,Za6,Za7,Za8,Za9,Zba,Zbb,Zbd,Zbf,Zbl,Zct,Zcz,Zc5,Zev,Zew,Zex,Zez,Ze0,Ze2,Ze3,Ze4,Ze5,Zfc,Zfd,Zfe,Zff,Zfg,Zfh,Zfi,Zfk,Zfl,Zfn,Zfp,Zfr,Zfs,Zf0,Zf1,Zf4,Zgh,Zgi,Zhf,Zhg,Zhh,Zif,Zig,Zik,Zil,Zim,Ziq,Zir,Zix,Ziz,Zi0,Zi2,Zi3,Zi7,Zjj,Zjk,Zjo,Zmt,Zmv,Zmw,Zmx,Zmz,Zm3,Zna,Znb,Znf,Zng,Znh,Znl,Znm,Znn,Zno,Znp,Znr,Zof,Zog,Zrd,Zos,Zot,Zou,Zow,Zo7,Zo8,Zo9,Zpb,Zpc,Zpo,Zpw,Zpz,Zp1,Zp2,Zp9,Zqd,Zqe,Zqf,Zqg,Zqh,Zqi,Zqk,Zql,Zqm,Zqn,Zqr,eq_self,true_and,and_true,Nat.zero_add,Nat.mul_one]
        tactic =>
        refine endA ?_
        sym =>
        simp [Zaa,Zab,Zad,Zae,Zaf,Zag,Zah,Zai,Zak,Zal,Zam,Zan,Zao,Zap,Zaq,Zav,Zaw,Zay,Zaz,Za0,Za1,Za2,Za3,Za4,Za5,Za6,Za7,Za8,Za9,Zba,Zbb,Zbd,Zbf,Zbl,Zct,Zcz,Zc5,Zev,Zew,Zex,Zez,Ze0,Ze2,Ze3,Ze4,Ze5,Zfc,Zfd,Zfe,Zff,Zfg,Zfh,Zfi,Zfk,Zfl,Zfn,Zfp,Zfr,Zfs,Zf0,Zf1,Zf4,Zgh,Zgi,Zhf,Zhg,Zhh,Zif,Zig,Zik,Zil,Zim,Ziq,Zir,Zix,Ziz,Zi0,Zi2,Zi3,Zi7,Zjj,Zjk,Zjo,Zmt,Zmv,Zmw,Zmx,Zmz,Zm3,Zna,Znb,Znf,Zng,Znh,Znl,Znm,Znn,Zno,Znp,Znr,Zof,Zog,Zrd,Zos,Zot,Zou,Zow,Zo7,Zo8,Zo9,Zpb,Zpc,Zpo,Zpw,Zpz,Zp1,Zp2,Zp9,Zqd,Zqe,Zqf,Zqg,Zqh,Zqi,Zqk,Zql,Zqm,Zqn,Zqr,eq_self,true_and,and_true,Nat.zero_add,Nat.mul_one]
        tactic =>
        rfl
    · rw [if_pos h]
      obtain ⟨W, hW⟩ : ∃ W, W = 7 := ⟨_, rfl⟩
      by_cases h0 : n < 0
      · rw [if_pos h0, ← hW]
        obtain ⟨f, hf⟩ : ∃ f : Int, f = 255 := ⟨_, rfl⟩
        refine con_j b21 rfl ?_
        sym =>
        simp [Zaa,Zab,Zad,Zae,Zaf,Zag,Zah,Zai,Zak,Zal,Zam,Zan,Zao,Zap,Zaq,Zav,Zaw,Zay,Zaz,Za0,Za1,Za2,Za3,Za4,Za5,Za6,Za7,Za8,Za9,Zba,Zbb,Zbd,Zbf,Zbl,Zct,Zcz,Zc5,Zev,Zew,Zex,Zez,Ze0,Ze2,Ze3,Ze4,Ze5,Zfc,Zfd,Zfe,Zff,Zfg,Zfh,Zfi,Zfk,Zfl,Zfn,Zfp,Zfr,Zfs,Zf0,Zf1,Zf4,Zgh,Zgi,Zhf,Zhg,Zhh,Zif,Zig,Zik,Zil,Zim,Ziq,Zir,Zix,Ziz,Zi0,Zi2,Zi3,Zi7,Zjj,Zjk,Zjo,Zmt,Zmv,Zmw,Zmx,Zmz,Zm3,Zna,Znb,Znf,Zng,Znh,Znl,Znm,Znn,Zno,Znp,Znr,Zof,Zog,Zrd,Zos,Zot,Zou,Zow,Zo7,Zo8,Zo9,Zpb,Zpc,Zpo,Zpw,Zpz,Zp1,Zp2,Zp9,Zqd,Zqe,Zqf,Zqg,Zqh,Zqi,Zqk,Zql,Zqm,Zqn,Zqr,eq_self,true_and,and_true,Nat.zero_add,Nat.mul_one,h0,v1,v2,v3,b63,b56,n56]
        tactic =>
        rw [hsg, h56, if_neg (fun e => e h)]
        sym =>
        simp [Zaa,Zab,Zad,Zae,Zaf,Zag,Zah,Zai,Zak,Zal,Zam,Zan,Zao,Zap,Zaq,Zav,Zaw,Zay,Zaz,Za0,Za1,Za2,Za3,Za4,Za5,Za6,Za7,Za8,Za9,Zba,Zbb,Zbd,Zbf,Zbl,Zct,Zcz,Zc5,Zev,Zew,Zex,Zez,Ze0,Ze2,Ze3,Ze4,Ze5,Zfc,Zfd,Zfe,Zff,Zfg,Zfh,Zfi,Zfk,Zfl,Zfn,Zfp,Zfr,Zfs,Zf0,Zf1,Zf4,Zgh,Zgi,Zhf,Zhg,Zhh,Zif,Zig,Zik,Zil,Zim,Ziq,Zir,Zix,Ziz,Zi0,Zi2,Zi3,Zi7,Zjj,Zjk,Zjo,Zmt,Zmv,Zmw,Zmx,Zmz,Zm3,Zna,Znb,Znf,Zng,Znh,Znl,Znm,Znn,Zno,Znp,Znr,Zof,Zog,Zrd,Zos,Zot,Zou,Zow,Zo7,Zo8,Zo9,Zpb,Zpc,Zpo,Zpw,Zpz,Zp1,Zp2,Zp9,Zqd,Zqe,Zqf,Zqg,Zqh,Zqi,Zqk,Zql,Zqm,Zqn,Zqr,eq_self,true_and,and_true,Nat.zero_add,Nat.mul_one,v3]
        tactic =>
        rw [← hf]
        refine lpA (i21 n f W) W [(0, 21)] _ ⟨0, by omega, rfl⟩ (wkA ?_) ?_
        · sym =>
          simp [Zaa,Zab,Zad,Zae,Zaf,Zag,Zah,Zai,Zak,Zal,Zam,Zan,Zao,Zap,Zaq,Zav,Zaw,Zay,Zaz,Za0,Za1,Za2,Za3,Za4,Za5,Za6,Za7,Za8,Za9,Zba,Zbb,Zbd,Zbf,Zbl,Zct,Zcz,Zc5,Zev,Zew,Zex,Zez,Ze0,Ze2,Ze3,Ze4,Ze5,Zfc,Zfd,Zfe,Zff,Zfg,Zfh,Zfi,Zfk,Zfl,Zfn,Zfp,Zfr,Zfs,Zf0,Zf1,Zf4,Zgh,Zgi,Zhf,Zhg,Zhh,Zif,Zig,Zik,Zil,Zim,Ziq,Zir,Zix,Ziz,Zi0,Zi2,Zi3,Zi7,Zjj,Zjk,Zjo,Zmt,Zmv,Zmw,Zmx,Zmz,Zm3,Zna,Znb,Znf,Zng,Znh,Znl,Znm,Znn,Zno,Znp,Znr,Zof,Zog,Zrd,Zos,Zot,Zou,Zow,Zo7,Zo8,Zo9,Zpb,Zpc,Zpo,Zpw,Zpz,Zp1,Zp2,Zp9,Zqd,Zqe,Zqf,Zqg,Zqh,Zqi,Zqk,Zql,Zqm,Zqn,Zqr,eq_self,true_and,and_true,Nat.zero_add,Nat.mul_one]
          tactic =>
          refine ⟨by rw [hW]; rfl, cB_rs _ _ _ _ _ rfl⟩
        rintro k s ⟨i, hi, rfl⟩
        have hle : (f :: beN W n).length = 1 + W := by rw [List.length_cons, beN_length]; omega
        by_cases hlt : i < W
        · have hI : IN W - 1 - (i : Int) ≥ 0 := by simp only [IN]; omega
          have hww := w64 (IN W - 1 - (i : Int) - 1) (by simp only [IN]; omega)
          have hmu := w64 (8 * (IN W - 1 - (i : Int))) (by simp only [IN]; omega)
          have hm0 : (0 : Int) ≤ min (8 * (IN W - 1 - (i : Int))) 63 := by simp only [IN]; omega
          have hby := byte_at n hn (W - 1 - i)
          have hbe := beN_get W n i hlt
          have hst := take_stepD (f :: beN W n) (1 + i) (by omega)
          have hgd : (f :: beN W n).getD (1 + i) 0 = n / 256 ^ (W - 1 - i) % 256 := by rw [← hbe, Nat.add_comm]; rfl
          rw [hgd, ← hby] at hst
          have hmn : min (min (8 * (IN W - 1 - (i : Int))) 63).toNat IntKind.i64.bits = min (8 * (W - 1 - i)) 63 := by simp only [IN, IntKind.bits]; omega
          have hcl := cB_length ((f :: beN W n).take (1 + i))
          rw [List.length_take] at hcl
          sym =>
          simp [Zaa,Zab,Zad,Zae,Zaf,Zag,Zah,Zai,Zak,Zal,Zam,Zan,Zao,Zap,Zaq,Zav,Zaw,Zay,Zaz,Za0,Za1,Za2,Za3,Za4,Za5,Za6,Za7,Za8,Za9,Zba,Zbb,Zbd,Zbf,Zbl,Zct,Zcz,Zc5,Zev,Zew,Zex,Zez,Ze0,Ze2,Ze3,Ze4,Ze5,Zfc,Zfd,Zfe,Zff,Zfg,Zfh,Zfi,Zfk,Zfl,Zfn,Zfp,Zfr,Zfs,Zf0,Zf1,Zf4,Zgh,Zgi,Zhf,Zhg,Zhh,Zif,Zig,Zik,Zil,Zim,Ziq,Zir,Zix,Ziz,Zi0,Zi2,Zi3,Zi7,Zjj,Zjk,Zjo,Zmt,Zmv,Zmw,Zmx,Zmz,Zm3,Zna,Znb,Znf,Zng,Znh,Znl,Znm,Znn,Zno,Znp,Znr,Zof,Zog,Zrd,Zos,Zot,Zou,Zow,Zo7,Zo8,Zo9,Zpb,Zpc,Zpo,Zpw,Zpz,Zp1,Zp2,Zp9,Zqd,Zqe,Zqf,Zqg,Zqh,Zqi,Zqk,Zql,Zqm,Zqn,Zqr,eq_self,true_and,and_true,Nat.zero_add,Nat.mul_one,hI,hww,hmu,hm0]
          tactic =>
          rw [hmn]
          refine ⟨⟨by omega, by omega, by omega, by omega⟩, ?_⟩
          unfold NextL; refine ⟨(k - 1), [(0, 11)], _, by omega, ⟨i + 1, by omega, rfl⟩, wkA ?_⟩
          sym =>
          simp [Zaa,Zab,Zad,Zae,Zaf,Zag,Zah,Zai,Zak,Zal,Zam,Zan,Zao,Zap,Zaq,Zav,Zaw,Zay,Zaz,Za0,Za1,Za2,Za3,Za4,Za5,Za6,Za7,Za8,Za9,Zba,Zbb,Zbd,Zbf,Zbl,Zct,Zcz,Zc5,Zev,Zew,Zex,Zez,Ze0,Ze2,Ze3,Ze4,Ze5,Zfc,Zfd,Zfe,Zff,Zfg,Zfh,Zfi,Zfk,Zfl,Zfn,Zfp,Zfr,Zfs,Zf0,Zf1,Zf4,Zgh,Zgi,Zhf,Zhg,Zhh,Zif,Zig,Zik,Zil,Zim,Ziq,Zir,Zix,Ziz,Zi0,Zi2,Zi3,Zi7,Zjj,Zjk,Zjo,Zmt,Zmv,Zmw,Zmx,Zmz,Zm3,Zna,Znb,Znf,Zng,Znh,Znl,Znm,Znn,Zno,Znp,Znr,Zof,Zog,Zrd,Zos,Zot,Zou,Zow,Zo7,Zo8,Zo9,Zpb,Zpc,Zpo,Zpw,Zpz,Zp1,Zp2,Zp9,Zqd,Zqe,Zqf,Zqg,Zqh,Zqi,Zqk,Zql,Zqm,Zqn,Zqr,eq_self,true_and,and_true,Nat.zero_add,Nat.mul_one]
          tactic =>
          refine ⟨⟨by omega, by show IN W - 1 - (i : Int) - 1 = IN W - 1 - ((i + 1 : Nat) : Int); omega⟩, cB_rs _ _ _ _ _ ?_⟩
          rw [← Nat.add_assoc, hst, cB_append]
          rfl
        · have hI : ¬ IN W - 1 - (i : Int) ≥ 0 := by simp only [IN]; omega
          obtain rfl : i = W := by omega
          have e : (f :: beN i n).take (1 + i) = f :: beN i n := List.take_of_length_le (by omega)
          rw [e]
          sym =>
          simp [Zaa,Zab,Zad,Zae,Zaf,Zag,Zah,Zai,Zak,Zal,Zam,Zan,Zao,Zap,Zaq,Zav,Zaw,Zay,Zaz,Za0,Za1,Za2,Za3,Za4,Za5,Za6,Za7,Za8,Za9,Zba,Zbb,Zbd,Zbf,Zbl,Zct,Zcz,Zc5,Zev,Zew,Zex,Zez,Ze0,Ze2,Ze3,Ze4,Ze5,Zfc,Zfd,Zfe,Zff,Zfg,Zfh,Zfi,Zfk,Zfl,Zfn,Zfp,Zfr,Zfs,Zf0,Zf1,Zf4,Zgh,Zgi,Zhf,Zhg,Zhh,Zif,Zig,Zik,Zil,Zim,Ziq,Zir,Zix,Ziz,Zi0,Zi2,Zi3,Zi7,Zjj,Zjk,Zjo,Zmt,Zmv,Zmw,Zmx,Zmz,Zm3,Zna,Znb,Znf,Zng,Znh,Znl,Znm,Znn,Zno,Znp,Znr,Zof,Zog,Zrd,Zos,Zot,Zou,Zow,Zo7,Zo8,Zo9,Zpb,Zpc,Zpo,Zpw,Zpz,Zp1,Zp2,Zp9,Zqd,Zqe,Zqf,Zqg,Zqh,Zqi,Zqk,Zql,Zqm,Zqn,Zqr,eq_self,true_and,and_true,Nat.zero_add,Nat.mul_one,hI]
          tactic =>
          refine endA ?_
          sym =>
          simp [Zaa,Zab,Zad,Zae,Zaf,Zag,Zah,Zai,Zak,Zal,Zam,Zan,Zao,Zap,Zaq,Zav,Zaw,Zay,Zaz,Za0,Za1,Za2,Za3,Za4,Za5,Za6,Za7,Za8,Za9,Zba,Zbb,Zbd,Zbf,Zbl,Zct,Zcz,Zc5,Zev,Zew,Zex,Zez,Ze0,Ze2,Ze3,Ze4,Ze5,Zfc,Zfd,Zfe,Zff,Zfg,Zfh,Zfi,Zfk,Zfl,Zfn,Zfp,Zfr,Zfs,Zf0,Zf1,Zf4,Zgh,Zgi,Zhf,Zhg,Zhh,Zif,Zig,Zik,Zil,Zim,Ziq,Zir,Zix,Ziz,Zi0,Zi2,Zi3,Zi7,Zjj,Zjk,Zjo,Zmt,Zmv,Zmw,Zmx,Zmz,Zm3,Zna,Znb,Znf,Zng,Znh,Znl,Znm,Znn,Zno,Znp,Znr,Zof,Zog,Zrd,Zos,Zot,Zou,Zow,Zo7,Zo8,Zo9,Zpb,Zpc,Zpo,Zpw,Zpz,Zp1,Zp2,Zp9,Zqd,Zqe,Zqf,Zqg,Zqh,Zqi,Zqk,Zql,Zqm,Zqn,Zqr,eq_self,true_and,and_true,Nat.zero_add,Nat.mul_one]
          tactic =>
          have hcl := cB_length (f :: beN i n)
          exact ⟨by rw [beN_length]; omega, (List.take_of_length_le (by omega)).symm, by omega, cB_okI _⟩
      · rw [if_neg h0, ← hW]
        obtain ⟨f, hf⟩ : ∃ f : Int, f = 128 := ⟨_, rfl⟩
        refine con_j b21 rfl ?_
        sym =>
        simp [Zaa,Zab,Zad,Zae,Zaf,Zag,Zah,Zai,Zak,Zal,Zam,Zan,Zao,Zap,Zaq,Zav,Zaw,Zay,Zaz,Za0,Za1,Za2,Za3,Za4,Za5,Za6,Za7,Za8,Za9,Zba,Zbb,Zbd,Zbf,Zbl,Zct,Zcz,Zc5,Zev,Zew,Zex,Zez,Ze0,Ze2,Ze3,Ze4,Ze5,Zfc,Zfd,Zfe,Zff,Zfg,Zfh,Zfi,Zfk,Zfl,Zfn,Zfp,Zfr,Zfs,Zf0,Zf1,Zf4,Zgh,Zgi,Zhf,Zhg,Zhh,Zif,Zig,Zik,Zil,Zim,Ziq,Zir,Zix,Ziz,Zi0,Zi2,Zi3,Zi7,Zjj,Zjk,Zjo,Zmt,Zmv,Zmw,Zmx,Zmz,Zm3,Zna,Znb,Znf,Zng,Znh,Znl,Znm,Znn,Zno,Znp,Znr,Zof,Zog,Zrd,Zos,Zot,Zou,Zow,Zo7,Zo8,Zo9,Zpb,Zpc,Zpo,Zpw,Zpz,Zp1,Zp2,Zp9,Zqd,Zqe,Zqf,Zqg,Zqh,Zqi,Zqk,Zql,Zqm,Zqn,Zqr,eq_self,true_and,and_true,Nat.zero_add,Nat.mul_one,h0,v1,v2,v3,b63,b56,n56]
        tactic =>
        rw [hsg, h56, if_neg (fun e => e h)]
        sym =>
        simp [Zaa,Zab,Zad,Zae,Zaf,Zag,Zah,Zai,Zak,Zal,Zam,Zan,Zao,Zap,Zaq,Zav,Zaw,Zay,Zaz,Za0,Za1,Za2,Za3,Za4,Za5,Za6,Za7,Za8,Za9,Zba,Zbb,Zbd,Zbf,Zbl,Zct,Zcz,Zc5,Zev,Zew,Zex,Zez,Ze0,Ze2,Ze3,Ze4,Ze5,Zfc,Zfd,Zfe,Zff,Zfg,Zfh,Zfi,Zfk,Zfl,Zfn,Zfp,Zfr,Zfs,Zf0,Zf1,Zf4,Zgh,Zgi,Zhf,Zhg,Zhh,Zif,Zig,Zik,Zil,Zim,Ziq,Zir,Zix,Ziz,Zi0,Zi2,Zi3,Zi7,Zjj,Zjk,Zjo,Zmt,Zmv,Zmw,Zmx,Zmz,Zm3,Zna,Znb,Znf,Zng,Znh,Znl,Znm,Znn,Zno,Znp,Znr,Zof,Zog,Zrd,Zos,Zot,Zou,Zow,Zo7,Zo8,Zo9,Zpb,Zpc,Zpo,Zpw,Zpz,Zp1,Zp2,Zp9,Zqd,Zqe,Zqf,Zqg,Zqh,Zqi,Zqk,Zql,Zqm,Zqn,Zqr,eq_self,true_and,and_true,Nat.zero_add,Nat.mul_one,v3]
        tactic =>
        rw [← hf]
        refine lpA (i21 n f W) W [(0, 20)] _ ⟨0, by omega, rfl⟩ (wkA ?_) ?_
        · sym =>
          simp [Zaa,Zab,Zad,Zae,Zaf,Zag,Zah,Zai,Zak,Zal,Zam,Zan,Zao,Zap,Zaq,Zav,Zaw,Zay,Zaz,Za0,Za1,Za2,Za3,Za4,Za5,Za6,Za7,Za8,Za9,Zba,Zbb,Zbd,Zbf,Zbl,Zct,Zcz,Zc5,Zev,Zew,Zex,Zez,Ze0,Ze2,Ze3,Ze4,Ze5,Zfc,Zfd,Zfe,Zff,Zfg,Zfh,Zfi,Zfk,Zfl,Zfn,Zfp,Zfr,Zfs,Zf0,Zf1,Zf4,Zgh,Zgi,Zhf,Zhg,Zhh,Zif,Zig,Zik,Zil,Zim,Ziq,Zir,Zix,Ziz,Zi0,Zi2,Zi3,Zi7,Zjj,Zjk,Zjo,Zmt,Zmv,Zmw,Zmx,Zmz,Zm3,Zna,Znb,Znf,Zng,Znh,Znl,Znm,Znn,Zno,Znp,Znr,Zof,Zog,Zrd,Zos,Zot,Zou,Zow,Zo7,Zo8,Zo9,Zpb,Zpc,Zpo,Zpw,Zpz,Zp1,Zp2,Zp9,Zqd,Zqe,Zqf,Zqg,Zqh,Zqi,Zqk,Zql,Zqm,Zqn,Zqr,eq_self,true_and,and_true,Nat.zero_add,Nat.mul_one]
          tactic =>
          refine ⟨by rw [hW]; rfl, cB_rs _ _ _ _ _ rfl⟩
        rintro k s ⟨i, hi, rfl⟩
        have hle : (f :: beN W n).length = 1 + W := by rw [List.length_cons, beN_length]; omega
        by_cases hlt : i < W
        · have hI : IN W - 1 - (i : Int) ≥ 0 := by simp only [IN]; omega
          have hww := w64 (IN W - 1 - (i : Int) - 1) (by simp only [IN]; omega)
          have hmu := w64 (8 * (IN W - 1 - (i : Int))) (by simp only [IN]; omega)
          have hm0 : (0 : Int) ≤ min (8 * (IN W - 1 - (i : Int))) 63 := by simp only [IN]; omega
          have hby := byte_at n hn (W - 1 - i)
          have hbe := beN_get W n i hlt
          have hst := take_stepD (f :: beN W n) (1 + i) (by omega)
          have hgd : (f :: beN W n).getD (1 + i) 0 = n / 256 ^ (W - 1 - i) % 256 := by rw [← hbe, Nat.add_comm]; rfl
          rw [hgd, ← hby] at hst
          have hmn : min (min (8 * (IN W - 1 - (i : Int))) 63).toNat IntKind.i64.bits = min (8 * (W - 1 - i)) 63 := by simp only [IN, IntKind.bits]; omega
          have hcl := cB_length ((f :: beN W n).take (1 + i))
          rw [List.length_take] at hcl
          sym =>
          simp [Zaa,Zab,Zad,Zae,Zaf,Zag,Zah,Zai,Zak,Zal,Zam,Zan,Zao,Zap,Zaq,Zav,Zaw,Zay,Zaz,Za0,Za1,Za2,Za3,Za4,Za5,Za6,Za7,Za8,Za9,Zba,Zbb,Zbd,Zbf,Zbl,Zct,Zcz,Zc5,Zev,Zew,Zex,Zez,Ze0,Ze2,Ze3,Ze4,Ze5,Zfc,Zfd,Zfe,Zff,Zfg,Zfh,Zfi,Zfk,Zfl,Zfn,Zfp,Zfr,Zfs,Zf0,Zf1,Zf4,Zgh,Zgi,Zhf,Zhg,Zhh,Zif,Zig,Zik,Zil,Zim,Ziq,Zir,Zix,Ziz,Zi0,Zi2,Zi3,Zi7,Zjj,Zjk,Zjo,Zmt,Zmv,Zmw,Zmx,Zmz,Zm3,Zna,Znb,Znf,Zng,Znh,Znl,Znm,Znn,Zno,Znp,Znr,Zof,Zog,Zrd,Zos,Zot,Zou,Zow,Zo7,Zo8,Zo9,Zpb,Zpc,Zpo,Zpw,Zpz,Zp1,Zp2,Zp9,Zqd,Zqe,Zqf,Zqg,Zqh,Zqi,Zqk,Zql,Zqm,Zqn,Zqr,eq_self,true_and,and_true,Nat.zero_add,Nat.mul_one,hI,hww,hmu,hm0]
          tactic =>
          rw [hmn]
          refine ⟨⟨by omega, by omega, by omega, by omega⟩, ?_⟩
          unfold NextL; refine ⟨(k - 1), [(0, 11)], _, by omega, ⟨i + 1, by omega, rfl⟩, wkA ?_⟩
          sym =>
          simp [Zaa,Zab,Zad,Zae,Zaf,Zag,Zah,Zai,Zak,Zal,Zam,Zan,Zao,Zap,Zaq,Zav,Zaw,Zay,Zaz,Za0,Za1,Za2,Za3,Za4,Za5,Za6,Za7,Za8,Za9,Zba,Zbb,Zbd,Zbf,Zbl,Zct,Zcz,Zc5,Zev,Zew,Zex,Zez,Ze0,Ze2,Ze3,Ze4,Ze5,Zfc,Zfd,Zfe,Zff,Zfg,Zfh,Zfi,Zfk,Zfl,Zfn,Zfp,Zfr,Zfs,Zf0,Zf1,Zf4,Zgh,Zgi,Zhf,Zhg,Zhh,Zif,Zig,Zik,Zil,Zim,Ziq,Zir,Zix,Ziz,Zi0,Zi2,Zi3,Zi7,Zjj,Zjk,Zjo,Zmt,Zmv,Zmw,Zmx,Zmz,Zm3,Zna,Znb,Znf,Zng,Znh,Znl,Znm,Znn,Zno,Znp,Znr,Zof,Zog,Zrd,Zos,Zot,Zou,Zow,Zo7,Zo8,Zo9,Zpb,Zpc,Zpo,Zpw,Zpz,Zp1,Zp2,Zp9,Zqd,Zqe,Zqf,Zqg,Zqh,Zqi,Zqk,Zql,Zqm,Zqn,Zqr,eq_self,true_and,and_true,Nat.zero_add,Nat.mul_one]
          tactic =>
          refine ⟨⟨by omega, by show IN W - 1 - (i : Int) - 1 = IN W - 1 - ((i + 1 : Nat) : Int); omega⟩, cB_rs _ _ _ _ _ ?_⟩
          rw [← Nat.add_assoc, hst, cB_append]
          rfl
        · have hI : ¬ IN W - 1 - (i : Int) ≥ 0 := by simp only [IN]; omega
          obtain rfl : i = W := by omega
          have e : (f :: beN i n).take (1 + i) = f :: beN i n := List.take_of_length_le (by omega)
          rw [e]
          sym =>
          simp [Zaa,Zab,Zad,Zae,Zaf,Zag,Zah,Zai,Zak,Zal,Zam,Zan,Zao,Zap,Zaq,Zav,Zaw,Zay,Zaz,Za0,Za1,Za2,Za3,Za4,Za5,Za6,Za7,Za8,Za9,Zba,Zbb,Zbd,Zbf,Zbl,Zct,Zcz,Zc5,Zev,Zew,Zex,Zez,Ze0,Ze2,Ze3,Ze4,Ze5,Zfc,Zfd,Zfe,Zff,Zfg,Zfh,Zfi,Zfk,Zfl,Zfn,Zfp,Zfr,Zfs,Zf0,Zf1,Zf4,Zgh,Zgi,Zhf,Zhg,Zhh,Zif,Zig,Zik,Zil,Zim,Ziq,Zir,Zix,Ziz,Zi0,Zi2,Zi3,Zi7,Zjj,Zjk,Zjo,Zmt,Zmv,Zmw,Zmx,Zmz,Zm3,Zna,Znb,Znf,Zng,Znh,Znl,Znm,Znn,Zno,Znp,Znr,Zof,Zog,Zrd,Zos,Zot,Zou,Zow,Zo7,Zo8,Zo9,Zpb,Zpc,Zpo,Zpw,Zpz,Zp1,Zp2,Zp9,Zqd,Zqe,Zqf,Zqg,Zqh,Zqi,Zqk,Zql,Zqm,Zqn,Zqr,eq_self,true_and,and_true,Nat.zero_add,Nat.mul_one,hI]
          tactic =>
          refine endA ?_
          sym =>
          simp [Zaa,Zab,Zad,Zae,Zaf,Zag,Zah,Zai,Zak,Zal,Zam,Zan,Zao,Zap,Zaq,Zav,Zaw,Zay,Zaz,Za0,Za1,Za2,Za3,Za4,Za5,Za6,Za7,Za8,Za9,Zba,Zbb,Zbd,Zbf,Zbl,Zct,Zcz,Zc5,Zev,Zew,Zex,Zez,Ze0,Ze2,Ze3,Ze4,Ze5,Zfc,Zfd,Zfe,Zff,Zfg,Zfh,Zfi,Zfk,Zfl,Zfn,Zfp,Zfr,Zfs,Zf0,Zf1,Zf4,Zgh,Zgi,Zhf,Zhg,Zhh,Zif,Zig,Zik,Zil,Zim,Ziq,Zir,Zix,Ziz,Zi0,Zi2,Zi3,Zi7,Zjj,Zjk,Zjo,Zmt,Zmv,Zmw,Zmx,Zmz,Zm3,Zna,Znb,Znf,Zng,Znh,Znl,Znm,Znn,Zno,Znp,Znr,Zof,Zog,Zrd,Zos,Zot,Zou,Zow,Zo7,Zo8,Zo9,Zpb,Zpc,Zpo,Zpw,Zpz,Zp1,Zp2,Zp9,Zqd,Zqe,Zqf,Zqg,Zqh,Zqi,Zqk,Zql,Zqm,Zqn,Zqr,eq_self,true_and,and_true,Nat.zero_add,Nat.mul_one]
          tactic =>
          have hcl := cB_length (f :: beN i n)
          exact ⟨by rw [beN_length]; omega, (List.take_of_length_le (by omega)).symm, by omega, cB_okI _⟩
  · rw [if_neg (by decide)]
    obtain ⟨W, hW⟩ : ∃ W, W = 11 := ⟨_, rfl⟩
    by_cases h0 : n < 0
    · rw [if_pos h0, ← hW]
      obtain ⟨f, hf⟩ : ∃ f : Int, f = 255 := ⟨_, rfl⟩
      refine con_j b21 rfl ?_
      sym =>
      simp [Zaa,Zab,Zad,Zae,Zaf,Zag,Zah,Zai,Zak,Zal,Zam,Zan,Zao,Zap,Zaq,Zav,Zaw,Zay,Zaz,Za0,Za1,Za2,Za3,Za4,Za5,Za6,Za7,Za8,Za9,Zba,Zbb,Zbd,Zbf,Zbl,Zct,Zcz,Zc5,Zev,Zew,Zex,Zez,Ze0,Ze2,Ze3,Ze4,Ze5,Zfc,Zfd,Zfe,Zff,Zfg,Zfh,Zfi,Zfk,Zfl,Zfn,Zfp,Zfr,Zfs,Zf0,Zf1,Zf4,Zgh,Zgi,Zhf,Zhg,Zhh,Zif,Zig,Zik,Zil,Zim,Ziq,Zir,Zix,Ziz,Zi0,Zi2,Zi3,Zi7,Zjj,Zjk,Zjo,Zmt,Zmv,Zmw,Zmx,Zmz,Zm3,Zna,Znb,Znf,Zng,Znh,Znl,Znm,Znn,Zno,Znp,Znr,Zof,Zog,Zrd,Zos,Zot,Zou,Zow,Zo7,Zo8,Zo9,Zpb,Zpc,Zpo,Zpw,Zpz,Zp1,Zp2,Zp9,Zqd,Zqe,Zqf,Zqg,Zqh,Zqi,Zqk,Zql,Zqm,Zqn,Zqr,eq_self,true_and,and_true,Nat.zero_add,Nat.mul_one,h0,v4,v5,v6]
      tactic =>
      rw [← hf]
      refine lpA (i21 n f W) W [(0, 21)] _ ⟨0, by omega, rfl⟩ (wkA ?_) ?_
      · sym =>
        simp [Zaa,Zab,Zad,Zae,Zaf,Zag,Zah,Zai,Zak,Zal,Zam,Zan,Zao,Zap,Zaq,Zav,Zaw,Zay,Zaz,Za0,Za1,Za2,Za3,Za4,Za5,Za6,Za7,Za8,Za9,Zba,Zbb,Zbd,Zbf,Zbl,Zct,Zcz,Zc5,Zev,Zew,Zex,Zez,Ze0,Ze2,Ze3,Ze4,Ze5,Zfc,Zfd,Zfe,Zff,Zfg,Zfh,Zfi,Zfk,Zfl,Zfn,Zfp,Zfr,Zfs,Zf0,Zf1,Zf4,Zgh,Zgi,Zhf,Zhg,Zhh,Zif,Zig,Zik,Zil,Zim,Ziq,Zir,Zix,Ziz,Zi0,Zi2,Zi3,Zi7,Zjj,Zjk,Zjo,Zmt,Zmv,Zmw,Zmx,Zmz,Zm3,Zna,Znb,Znf,Zng,Znh,Znl,Znm,Znn,Zno,Znp,Znr,Zof,Zog,Zrd,Zos,Zot,Zou,Zow,Zo7,Zo8,Zo9,Zpb,Zpc,Zpo,Zpw,Zpz,Zp1,Zp2,Zp9,Zqd,Zqe,Zqf,Zqg,Zqh,Zqi,Zqk,Zql,Zqm,Zqn,Zqr,eq_self,true_and,and_true,Nat.zero_add,Nat.mul_one]
        tactic =>
        refine ⟨by rw [hW]; rfl, cB_rs _ _ _ _ _ rfl⟩
      rintro k s ⟨i, hi, rfl⟩
      have hle : (f :: beN W n).length = 1 + W := by rw [List.length_cons, beN_length]; omega
      by_cases hlt : i < W
      · have hI : IN W - 1 - (i : Int) ≥ 0 := by simp only [IN]; omega
        have hww := w64 (IN W - 1 - (i : Int) - 1) (by simp only [IN]; omega)
        have hmu := w64 (8 * (IN W - 1 - (i : Int))) (by simp only [IN]; omega)
        have hm0 : (0 : Int) ≤ min (8 * (IN W - 1 - (i : Int))) 63 := by simp only [IN]; omega
        have hby := byte_at n hn (W - 1 - i)
        have hbe := beN_get W n i hlt
        have hst := take_stepD (f :: beN W n) (1 + i) (by omega)
        have hgd : (f :: beN W n).getD (1 + i) 0 = n / 256 ^ (W - 1 - i) % 256 := by rw [← hbe, Nat.add_comm]; rfl
        rw [hgd, ← hby] at hst
        have hmn : min (min (8 * (IN W - 1 - (i : Int))) 63).toNat IntKind.i64.bits = min (8 * (W - 1 - i)) 63 := by simp only [IN, IntKind.bits]; omega
        have hcl := cB_length ((f :: beN W n).take (1 + i))
        rw [List.length_take] at hcl
        sym =>
        simp [Zaa,Zab,Zad,Zae,Zaf,Zag,Zah,Zai,Zak,Zal,Zam,Zan,Zao,Zap,Zaq,Zav,Zaw,Zay,Zaz,Za0,Za1,Za2,Za3,Za4,Za5,Za6,Za7,Za8,Za9,Zba,Zbb,Zbd,Zbf,Zbl,Zct,Zcz,Zc5,Zev,Zew,Zex,Zez,Ze0,Ze2,Ze3,Ze4,Ze5,Zfc,Zfd,Zfe,Zff,Zfg,Zfh,Zfi,Zfk,Zfl,Zfn,Zfp,Zfr,Zfs,Zf0,Zf1,Zf4,Zgh,Zgi,Zhf,Zhg,Zhh,Zif,Zig,Zik,Zil,Zim,Ziq,Zir,Zix,Ziz,Zi0,Zi2,Zi3,Zi7,Zjj,Zjk,Zjo,Zmt,Zmv,Zmw,Zmx,Zmz,Zm3,Zna,Znb,Znf,Zng,Znh,Znl,Znm,Znn,Zno,Znp,Znr,Zof,Zog,Zrd,Zos,Zot,Zou,Zow,Zo7,Zo8,Zo9,Zpb,Zpc,Zpo,Zpw,Zpz,Zp1,Zp2,Zp9,Zqd,Zqe,Zqf,Zqg,Zqh,Zqi,Zqk,Zql,Zqm,Zqn,Zqr,eq_self,true_and,and_true,Nat.zero_add,Nat.mul_one,hI,hww,hmu,hm0]
        tactic =>
        rw [hmn]
        refine ⟨⟨by omega, by omega, by omega, by omega⟩, ?_⟩
        unfold NextL; refine ⟨(k - 1), [(0, 11)], _, by omega, ⟨i + 1, by omega, rfl⟩, wkA ?_⟩
        sym =>
        simp [Zaa,Zab,Zad,Zae,Zaf,Zag,Zah,Zai,Zak,Zal,Zam,Zan,Zao,Zap,Zaq,Zav,Zaw,Zay,Zaz,Za0,Za1,Za2,Za3,Za4,Za5,Za6,Za7,Za8,Za9,Zba,Zbb,Zbd,Zbf,Zbl,Zct,Zcz,Zc5,Zev,Zew,Zex,Zez,Ze0,Ze2,Ze3,Ze4,Ze5,Zfc,Zfd,Zfe,Zff,Zfg,Zfh,Zfi,Zfk,Zfl,Zfn,Zfp,Zfr,Zfs,Zf0,Zf1,Zf4,Zgh,Zgi,Zhf,Zhg,Zhh,Zif,Zig,Zik,Zil,Zim,Ziq,Zir,Zix,Ziz,Zi0,Zi2,Zi3,Zi7,Zjj,Zjk,Zjo,Zmt,Zmv,Zmw,Zmx,Zmz,Zm3,Zna,Znb,Znf,Zng,Znh,Znl,Znm,Znn,Zno,Znp,Znr,Zof,Zog,Zrd,Zos,Zot,Zou,Zow,Zo7,Zo8,Zo9,Zpb,Zpc,Zpo,Zpw,Zpz,Zp1,Zp2,Zp9,Zqd,Zqe,Zqf,Zqg,Zqh,Zqi,Zqk,Zql,Zqm,Zqn,Zqr,eq_self,true_and,and_true,Nat.zero_add,Nat.mul_one]
        tactic =>
        refine ⟨⟨by omega, by show IN W - 1 - (i : Int) - 1 = IN W - 1 - ((i + 1 : Nat) : Int); omega⟩, cB_rs _ _ _ _ _ ?_⟩
        rw [← Nat.add_assoc, hst, cB_append]
        rfl
      · have hI : ¬ IN W - 1 - (i : Int) ≥ 0 := by simp only [IN]; omega
        obtain rfl : i = W := by omega
        have e : (f :: beN i n).take (1 + i) = f :: beN i n := List.take_of_length_le (by omega)
        rw [e]
        sym =>
        simp [Zaa,Zab,Zad,Zae,Zaf,Zag,Zah,Zai,Zak,Zal,Zam,Zan,Zao,Zap,Zaq,Zav,Zaw,Zay,Zaz,Za0,Za1,Za2,Za3,Za4,Za5,Za6,Za7,Za8,Za9,Zba,Zbb,Zbd,Zbf,Zbl,Zct,Zcz,Zc5,Zev,Zew,Zex,Zez,Ze0,Ze2,Ze3,Ze4,Ze5,Zfc,Zfd,Zfe,Zff,Zfg,Zfh,Zfi,Zfk,Zfl,Zfn,Zfp,Zfr,Zfs,Zf0,Zf1,Zf4,Zgh,Zgi,Zhf,Zhg,Zhh,Zif,Zig,Zik,Zil,Zim,Ziq,Zir,Zix,Ziz,Zi0,Zi2,Zi3,Zi7,Zjj,Zjk,Zjo,Zmt,Zmv,Zmw,Zmx,Zmz,Zm3,Zna,Znb,Znf,Zng,Znh,Znl,Znm,Znn,Zno,Znp,Znr,Zof,Zog,Zrd,Zos,Zot,Zou,Zow,Zo7,Zo8,Zo9,Zpb,Zpc,Zpo,Zpw,Zpz,Zp1,Zp2,Zp9,Zqd,Zqe,Zqf,Zqg,Zqh,Zqi,Zqk,Zql,Zqm,Zqn,Zqr,eq_self,true_and,and_true,Nat.zero_add,Nat.mul_one,hI]
        tactic =>
        refine endA ?_
        sym =>
        simp [Zaa,Zab,Zad,Zae,Zaf,Zag,Zah,Zai,Zak,Zal,Zam,Zan,Zao,Zap,Zaq,Zav,Zaw,Zay,Zaz,Za0,Za1,Za2,Za3,Za4,Za5,Za6,Za7,Za8,Za9,Zba,Zbb,Zbd,Zbf,Zbl,Zct,Zcz,Zc5,Zev,Zew,Zex,Zez,Ze0,Ze2,Ze3,Ze4,Ze5,Zfc,Zfd,Zfe,Zff,Zfg,Zfh,Zfi,Zfk,Zfl,Zfn,Zfp,Zfr,Zfs,Zf0,Zf1,Zf4,Zgh,Zgi,Zhf,Zhg,Zhh,Zif,Zig,Zik,Zil,Zim,Ziq,Zir,Zix,Ziz,Zi0,Zi2,Zi3,Zi7,Zjj,Zjk,Zjo,Zmt,Zmv,Zmw,Zmx,Zmz,Zm3,Zna,Znb,Znf,Zng,Znh,Znl,Znm,Znn,Zno,Znp,Znr,Zof,Zog,Zrd,Zos,Zot,Zou,Zow,Zo7,Zo8,Zo9,Zpb,Zpc,Zpo,Zpw,Zpz,Zp1,Zp2,Zp9,Zqd,Zqe,Zqf,Zqg,Zqh,Zqi,Zqk,Zql,Zqm,Zqn,Zqr,eq_self,true_and,and_true,Nat.zero_add,Nat.mul_one]
        tactic =>
        have hcl := cB_length (f :: beN i n)
        exact ⟨by rw [beN_length]; omega, (List.take_of_length_le (by omega)).symm, by omega, cB_okI _⟩
    · rw [if_neg h0, ← hW]
      obtain ⟨f, hf⟩ : ∃ f : Int, f = 128 := ⟨_, rfl⟩
      refine con_j b21 rfl ?_
      sym =>
      simp [Zaa,Zab,Zad,Zae,Zaf,Zag,Zah,Zai,Zak,Zal,Zam,Zan,Zao,Zap,Zaq,Zav,Zaw,Zay,Zaz,Za0,Za1,Za2,Za3,Za4,Za5,Za6,Za7,Za8,Za9,Zba,Zbb,Zbd,Zbf,Zbl,Zct,Zcz,Zc5,Zev,Zew,Zex,Zez,Ze0,Ze2,Ze3,Ze4,Ze5,Zfc,Zfd,Zfe,Zff,Zfg,Zfh,Zfi,Zfk,Zfl,Zfn,Zfp,Zfr,Zfs,Zf0,Zf1,Zf4,Zgh,Zgi,Zhf,Zhg,Zhh,Zif,Zig,Zik,Zil,Zim,Ziq,Zir,Zix,Ziz,Zi0,Zi2,Zi3,Zi7,Zjj,Zjk,Zjo,Zmt,Zmv,Zmw,Zmx,Zmz,Zm3,Zna,Znb,Znf,Zng,Znh,Znl,Znm,Znn,Zno,Znp,Znr,Zof,Zog,Zrd,Zos,Zot,Zou,Zow,Zo7,Zo8,Zo9,Zpb,Zpc,Zpo,Zpw,Zpz,Zp1,Zp2,Zp9,Zqd,Zqe,Zqf,Zqg,Zqh,Zqi,Zqk,Zql,Zqm,Zqn,Zqr,eq_self,true_and,and_true,Nat.zero_add,Nat.mul_one,h0,v4,v5,v6]
      tactic =>
      rw [← hf]
      refine lpA (i21 n f W) W [(0, 20)] _ ⟨0, by omega, rfl⟩ (wkA ?_) ?_
      · sym =>
        simp [Zaa,Zab,Zad,Zae,Zaf,Zag,Zah,Zai,Zak,Zal,Zam,Zan,Zao,Zap,Zaq,Zav,Zaw,Zay,Zaz,Za0,Za1,Za2,Za3,Za4,Za5,Za6,Za7,Za8,Za9,Zba,Zbb,Zbd,Zbf,Zbl,Zct,Zcz,Zc5,Zev,Zew,Zex,Zez,Ze0,Ze2,Ze3,Ze4,Ze5,Zfc,Zfd,Zfe,Zff,Zfg,Zfh,Zfi,Zfk,Zfl,Zfn,Zfp,Zfr,Zfs,Zf0,Zf1,Zf4,Zgh,Zgi,Zhf,Zhg,Zhh,Zif,Zig,Zik,Zil,Zim,Ziq,Zir,Zix,Ziz,Zi0,Zi2,Zi3,Zi7,Zjj,Zjk,Zjo,Zmt,Zmv,Zmw,Zmx,Zmz,Zm3,Zna,Znb,Znf,Zng,Znh,Znl,Znm,Znn,Zno,Znp,Znr,Zof,Zog,Zrd,Zos,Zot,Zou,Zow,Zo7,Zo8,Zo9,Zpb,Zpc,Zpo,Zpw,Zpz,Zp1,Zp2,Zp9,Zqd,Zqe,Zqf,Zqg,Zqh,Zqi,Zqk,Zql,Zqm,Zqn,Zqr,eq_self,true_and,and_true,Nat.zero_add,Nat.mul_one]
        tactic =>
        refine ⟨by rw [hW]; rfl, cB_rs _ _ _ _ _ rfl⟩
      rintro k s ⟨i, hi, rfl⟩
      have hle : (f :: beN W n).length = 1 + W := by rw [List.length_cons, beN_length]; omega
      by_cases hlt : i < W
      · have hI : IN W - 1 - (i : Int) ≥ 0 := by simp only [IN]; omega
        have hww := w64 (IN W - 1 - (i : Int) - 1) (by simp only [IN]; omega)
        have hmu := w64 (8 * (IN W - 1 - (i : Int))) (by simp only [IN]; omega)
        have hm0 : (0 : Int) ≤ min (8 * (IN W - 1 - (i : Int))) 63 := by simp only [IN]; omega
        have hby := byte_at n hn (W - 1 - i)
        have hbe := beN_get W n i hlt
        have hst := take_stepD (f :: beN W n) (1 + i) (by omega)
        have hgd : (f :: beN W n).getD (1 + i) 0 = n / 256 ^ (W - 1 - i) % 256 := by rw [← hbe, Nat.add_comm]; rfl
        rw [hgd, ← hby] at hst
        have hmn : min (min (8 * (IN W - 1 - (i : Int))) 63).toNat IntKind.i64.bits = min (8 * (W - 1 - i)) 63 := by simp only [IN, IntKind.bits]; omega
        have hcl := cB_length ((f :: beN W n).take (1 + i))
        rw [List.length_take] at hcl
        sym =>
        simp [Zaa,Zab,Zad,Zae,Zaf,Zag,Zah,Zai,Zak,Zal,Zam,Zan,Zao,Zap,Zaq,Zav,Zaw,Zay,Zaz,Za0,Za1,Za2,Za3,Za4,Za5,Za6,Za7,Za8,Za9,Zba,Zbb,Zbd,Zbf,Zbl,Zct,Zcz,Zc5,Zev,Zew,Zex,Zez,Ze0,Ze2,Ze3,Ze4,Ze5,Zfc,Zfd,Zfe,Zff,Zfg,Zfh,Zfi,Zfk,Zfl,Zfn,Zfp,Zfr,Zfs,Zf0,Zf1,Zf4,Zgh,Zgi,Zhf,Zhg,Zhh,Zif,Zig,Zik,Zil,Zim,Ziq,Zir,Zix,Ziz,Zi0,Zi2,Zi3,Zi7,Zjj,Zjk,Zjo,Zmt,Zmv,Zmw,Zmx,Zmz,Zm3,Zna,Znb,Znf,Zng,Znh,Znl,Znm,Znn,Zno,Znp,Znr,Zof,Zog,Zrd,Zos,Zot,Zou,Zow,Zo7,Zo8,Zo9,Zpb,Zpc,Zpo,Zpw,Zpz,Zp1,Zp2,Zp9,Zqd,Zqe,Zqf,Zqg,Zqh,Zqi,Zqk,Zql,Zqm,Zqn,Zqr,eq_self,true_and,and_true,Nat.zero_add,Nat.mul_one,hI,hww,hmu,hm0]
        tactic =>
        rw [hmn]
        refine ⟨⟨by omega, by omega, by omega, by omega⟩, ?_⟩
        unfold NextL; refine ⟨(k - 1), [(0, 11)], _, by omega, ⟨i + 1, by omega, rfl⟩, wkA ?_⟩
        sym =>
        simp [Zaa,Zab,Zad,Zae,Zaf,Zag,Zah,Zai,Zak,Zal,Zam,Zan,Zao,Zap,Zaq,Zav,Zaw,Zay,Zaz,Za0,Za1,Za2,Za3,Za4,Za5,Za6,Za7,Za8,Za9,Zba,Zbb,Zbd,Zbf,Zbl,Zct,Zcz,Zc5,Zev,Zew,Zex,Zez,Ze0,Ze2,Ze3,Ze4,Ze5,Zfc,Zfd,Zfe,Zff,Zfg,Zfh,Zfi,Zfk,Zfl,Zfn,Zfp,Zfr,Zfs,Zf0,Zf1,Zf4,Zgh,Zgi,Zhf,Zhg,Zhh,Zif,Zig,Zik,Zil,Zim,Ziq,Zir,Zix,Ziz,Zi0,Zi2,Zi3,Zi7,Zjj,Zjk,Zjo,Zmt,Zmv,Zmw,Zmx,Zmz,Zm3,Zna,Znb,Znf,Zng,Znh,Znl,Znm,Znn,Zno,Znp,Znr,Zof,Zog,Zrd,Zos,Zot,Zou,Zow,Zo7,Zo8,Zo9,Zpb,Zpc,Zpo,Zpw,Zpz,Zp1,Zp2,Zp9,Zqd,Zqe,Zqf,Zqg,Zqh,Zqi,Zqk,Zql,Zqm,Zqn,Zqr,eq_self,true_and,and_true,Nat.zero_add,Nat.mul_one]
        tactic =>
        refine ⟨⟨by omega, by show IN W - 1 - (i : Int) - 1 = IN W - 1 - ((i + 1 : Nat) : Int); omega⟩, cB_rs _ _ _ _ _ ?_⟩
        rw [← Nat.add_assoc, hst, cB_append]
        rfl
      · have hI : ¬ IN W - 1 - (i : Int) ≥ 0 := by simp only [IN]; omega
        obtain rfl : i = W := by omega
        have e : (f :: beN i n).take (1 + i) = f :: beN i n := List.take_of_length_le (by omega)
        rw [e]
        sym =>
        simp [Zaa,Zab,Zad,Zae,Zaf,Zag,Zah,Zai,Zak,Zal,Zam,Zan,Zao,Zap,Zaq,Zav,Zaw,Zay,Zaz,Za0,Za1,Za2,Za3,Za4,Za5,Za6,Za7,Za8,Za9,Zba,Zbb,Zbd,Zbf,Zbl,Zct,Zcz,Zc5,Zev,Zew,Zex,Zez,Ze0,Ze2,Ze3,Ze4,Ze5,Zfc,Zfd,Zfe,Zff,Zfg,Zfh,Zfi,Zfk,Zfl,Zfn,Zfp,Zfr,Zfs,Zf0,Zf1,Zf4,Zgh,Zgi,Zhf,Zhg,Zhh,Zif,Zig,Zik,Zil,Zim,Ziq,Zir,Zix,Ziz,Zi0,Zi2,Zi3,Zi7,Zjj,Zjk,Zjo,Zmt,Zmv,Zmw,Zmx,Zmz,Zm3,Zna,Znb,Znf,Zng,Znh,Znl,Znm,Znn,Zno,Znp,Znr,Zof,Zog,Zrd,Zos,Zot,Zou,Zow,Zo7,Zo8,Zo9,Zpb,Zpc,Zpo,Zpw,Zpz,Zp1,Zp2,Zp9,Zqd,Zqe,Zqf,Zqg,Zqh,Zqi,Zqk,Zql,Zqm,Zqn,Zqr,eq_self,true_and,and_true,Nat.zero_add,Nat.mul_one,hI]
        tactic =>
        refine endA ?_
        sym =>
        simp [Zaa,Zab,Zad,Zae,Zaf,Zag,Zah,Zai,Zak,Zal,Zam,Zan,Zao,Zap,Zaq,Zav,Zaw,Zay,Zaz,Za0,Za1,Za2,Za3,Za4,Za5,Za6,Za7,Za8,Za9,Zba,Zbb,Zbd,Zbf,Zbl,Zct,Zcz,Zc5,Zev,Zew,Zex,Zez,Ze0,Ze2,Ze3,Ze4,Ze5,Zfc,Zfd,Zfe,Zff,Zfg,Zfh,Zfi,Zfk,Zfl,Zfn,Zfp,Zfr,Zfs,Zf0,Zf1,Zf4,Zgh,Zgi,Zhf,Zhg,Zhh,Zif,Zig,Zik,Zil,Zim,Ziq,Zir,Zix,Ziz,Zi0,Zi2,Zi3,Zi7,Zjj,Zjk,Zjo,Zmt,Zmv,Zmw,Zmx,Zmz,Zm3,Zna,Znb,Znf,Zng,Znh,Znl,Znm,Znn,Zno,Znp,Znr,Zof,Zog,Zrd,Zos,Zot,Zou,Zow,Zo7,Zo8,Zo9,Zpb,Zpc,Zpo,Zpw,Zpz,Zp1,Zp2,Zp9,Zqd,Zqe,Zqf,Zqg,Zqh,Zqi,Zqk,Zql,Zqm,Zqn,Zqr,eq_self,true_and,and_true,Nat.zero_add,Nat.mul_one]
        tactic =>
        have hcl := cB_length (f :: beN i n)
        exact ⟨by rw [beN_length]; omega, (List.take_of_length_le (by omega)).symm, by omega, cB_okI _⟩
theorem plain_most {n w : Int} (h : plainF n w = true) : isW w = true ∧ 0 ≤ n ∧ n ≤ mostI (w - 1) := by
  unfold plainF at h
  by_cases h1 : isW w = true
  · rw [if_pos h1] at h
    by_cases h2 : 0 ≤ n
    · rw [if_pos h2] at h
      exact ⟨h1, h2, of_decide_eq_true h⟩
    · rw [if_neg h2] at h; cases h
  · rw [if_neg h1] at h; cases h
theorem isW_iff {w : Int} (h : isW w = true) : w = 8 ∨ w = 12 := by
  unfold isW at h
  by_cases h8 : w = 8
  · exact .inl h8
  · rw [if_neg h8] at h; exact .inr (of_decide_eq_true h)
theorem octal_ok_own (n : Int) (w : Nat) (hw : 1 ≤ w ∧ w ≤ 20) (h0 : 0 ≤ n) (hn : n ≤ mostN w) : Con Tryd.prog 9 [] [I n, I (IN w)] [(0, ⟨cB (octN w n), 1, 0⟩)] (.tu [.lv 0 0 w, I 0]) := by
  have hmo := most_con (IN w)
  have hmi : mostI (IN w) = mostN w := rfl
  rw [hmi] at hmo
  have hb := mostN_bd w
  have g1 : ¬ IN w < (1 : Int) := by simp only [IN]; omega
  have g2 : ¬ IN w > (20 : Int) := by simp only [IN]; omega
  have g3 : ¬ n < 0 := by omega
  have g4 : ¬ n > mostN w := by omega
  have g5 : (0 : Int) ≤ IN w := by simp only [IN]; omega
  have hl := octN_length w n
  refine con_o b9 rfl ?_
  sym =>
  simp [Zaa,Zab,Zad,Zae,Zaf,Zag,Zah,Zai,Zak,Zal,Zam,Zan,Zap,Zaq,Zav,Zaw,Zay,Zaz,Za0,Za1,Za2,Za3,Za4,Za5,Za6,Za7,Za9,Zba,Zbb,Zbd,Zbf,Zbl,Zb1,Zcn,Zc1,Zc3,Zdc,Zdd,Zde,Zdi,Zev,Zew,Zex,Zez,Ze0,Ze1,Ze2,Ze3,Ze5,Zfc,Zfd,Zfe,Zfh,Zfi,Zfl,Zfn,Zfp,Zfq,Zfr,Zfs,Zfv,Zf1,Zf3,Zgh,Zgi,Zgv,Zg4,Zg5,Zho,Zh6,Zh9,Zis,Zit,Ziu,Ziv,Ziw,Zi7,Zjh,Zji,Zjn,Zjr,Zla,Zlb,Zle,Zlj,Zlz,Zmt,Zmv,Zmw,Zmx,Zmz,Zm3,Zna,Znb,Zne,Znf,Zng,Znn,Zno,Znr,Zns,Znt,Znu,Znw,Zn5,Zos,Zot,Zo7,Zo8,Zo9,Zpb,Zpc,Zpn,Zpo,Zp9,Zqd,Zqe,Zqf,Zqg,Zqh,Zqi,Zqk,Zql,Zqm,Zqn,eq_self,true_and,and_true,Nat.zero_add,Nat.mul_one,g1,g2,g3,callable_14]
  tactic =>
  refine cl none (hmo) trivial ?_
  sym =>
  simp [Zaa,Zab,Zad,Zae,Zaf,Zag,Zah,Zai,Zak,Zal,Zam,Zan,Zap,Zaq,Zav,Zaw,Zay,Zaz,Za0,Za1,Za2,Za3,Za4,Za5,Za6,Za7,Za9,Zba,Zbb,Zbd,Zbf,Zbl,Zb1,Zcn,Zc1,Zc3,Zdc,Zdd,Zde,Zdi,Zev,Zew,Zex,Zez,Ze0,Ze1,Ze2,Ze3,Ze5,Zfc,Zfd,Zfe,Zfh,Zfi,Zfl,Zfn,Zfp,Zfq,Zfr,Zfs,Zfv,Zf1,Zf3,Zgh,Zgi,Zgv,Zg4,Zg5,Zho,Zh6,Zh9,Zis,Zit,Ziu,Ziv,Ziw,Zi7,Zjh,Zji,Zjn,Zjr,Zla,Zlb,Zle,Zlj,Zlz,Zmt,Zmv,Zmw,Zmx,Zmz,Zm3,Zna,Znb,Zne,Znf,Zng,Znn,Zno,Znr,Zns,Znt,Znu,Znw,Zn5,Zos,Zot,Zo7,Zo8,Zo9,Zpb,Zpc,Zpn,Zpo,Zp9,Zqd,Zqe,Zqf,Zqg,Zqh,Zqi,Zqk,Zql,Zqm,Zqn,eq_self,true_and,and_true,Nat.zero_add,Nat.mul_one,g4,g5]
  tactic =>
  and_intros <;> try (first | omega | rfl | assumption | simp only [IN]; omega)
  refine lpA (i9 n w) w [(0, 19)] _ ⟨0, by omega, rfl⟩ (wkA ?_) ?_
  · have e0 : cB (fro (octN w n) w 0) = List.replicate w (Y 0) := by simp [fro, cB]
    rw [e0]
    sym =>
    simp [Zaa,Zab,Zad,Zae,Zaf,Zag,Zah,Zai,Zak,Zal,Zam,Zan,Zap,Zaq,Zav,Zaw,Zay,Zaz,Za0,Za1,Za2,Za3,Za4,Za5,Za6,Za7,Za9,Zba,Zbb,Zbd,Zbf,Zbl,Zb1,Zcn,Zc1,Zc3,Zdc,Zdd,Zde,Zdi,Zev,Zew,Zex,Zez,Ze0,Ze1,Ze2,Ze3,Ze5,Zfc,Zfd,Zfe,Zfh,Zfi,Zfl,Zfn,Zfp,Zfq,Zfr,Zfs,Zfv,Zf1,Zf3,Zgh,Zgi,Zgv,Zg4,Zg5,Zho,Zh6,Zh9,Zis,Zit,Ziu,Ziv,Ziw,Zi7,Zjh,Zji,Zjn,Zjr,Zla,Zlb,Zle,Zlj,Zlz,Zmt,Zmv,Zmw,Zmx,Zmz,Zm3,Zna,Znb,Zne,Znf,Zng,Znn,Zno,Znr,Zns,Znt,Znu,Znw,Zn5,Zos,Zot,Zo7,Zo8,Zo9,Zpb,Zpc,Zpn,Zpo,Zp9,Zqd,Zqe,Zqf,Zqg,Zqh,Zqi,Zqk,Zql,Zqm,Zqn,eq_self,true_and,and_true,Nat.zero_add,Nat.mul_one]
    tactic =>
    exact rs_self (by intro x hx; rw [List.eq_of_mem_replicate hx]; rfl)
  rintro k s ⟨i, hi, rfl⟩
  by_cases h : i < w
  · have hws := w64s i (by omega)
    have q1 : IntKind.i64.wrap (IN w - (1 : Int)) = IN (w - 1) := w64m _ _ 1 (by omega) (by omega)
    have q2 : IntKind.i64.wrap (IN (w - 1) - IN i) = IN (w - 1 - i) := w64d _ _ (by omega) (by omega)
    have q3 : IntKind.i64.wrap (3 * IN (w - 1 - i)) = IN (3 * (w - 1 - i)) := by rw [w64 _ (by simp only [IN]; omega)]; simp only [IN]; omega
    have hb2 : min (3 * (w - 1 - i)) IntKind.i64.bits = 3 * (w - 1 - i) := by simp only [IntKind.bits]; omega
    have hp : (2 : Int) ^ (3 * (w - 1 - i)) = 8 ^ (w - 1 - i) := by rw [Int.pow_mul]; rfl
    have hg := octN_get w n i h
    have hst := fro_step (octN w n) w i hl h
    rw [hg] at hst
    have hfl := fro_length (octN w n) w i hl (by omega)
    have hcs := cB_set (fro (octN w n) w i) i
    have hfc := cB_length (fro (octN w n) w i)
    have hv : IntKind.u8.wrap (48 + bits .and .u8 (IntKind.u8.wrap (n.fdiv (2 ^ min (3 * (w - 1 - i)) IntKind.i64.bits))) 7) = 48 + n / 8 ^ (w - 1 - i) % 8 := by
      rw [hb2, hp, Int.fdiv_eq_ediv_of_nonneg _ (Int.le_of_lt (Int.pow_pos (by decide)))]
      obtain ⟨x, hx⟩ : ∃ x, x = n / 8 ^ (w - 1 - i) := ⟨_, rfl⟩
      rw [← hx, w8u x, and7 (x % 256) (by omega), w8u]
      omega
    sym =>
    simp [Zaa,Zab,Zad,Zae,Zaf,Zag,Zah,Zai,Zak,Zal,Zam,Zan,Zap,Zaq,Zav,Zaw,Zay,Zaz,Za0,Za1,Za2,Za3,Za4,Za5,Za6,Za7,Za9,Zba,Zbb,Zbd,Zbf,Zbl,Zb1,Zcn,Zc1,Zc3,Zdc,Zdd,Zde,Zdi,Zev,Zew,Zex,Zez,Ze0,Ze1,Ze2,Ze3,Ze5,Zfc,Zfd,Zfe,Zfh,Zfi,Zfl,Zfn,Zfp,Zfq,Zfr,Zfs,Zfv,Zf1,Zf3,Zgh,Zgi,Zgv,Zg4,Zg5,Zho,Zh6,Zh9,Zis,Zit,Ziu,Ziv,Ziw,Zi7,Zjh,Zji,Zjn,Zjr,Zla,Zlb,Zle,Zlj,Zlz,Zmt,Zmv,Zmw,Zmx,Zmz,Zm3,Zna,Znb,Zne,Znf,Zng,Znn,Zno,Znr,Zns,Znt,Znu,Znw,Zn5,Zos,Zot,Zo7,Zo8,Zo9,Zpb,Zpc,Zpn,Zpo,Zp9,Zqd,Zqe,Zqf,Zqg,Zqh,Zqi,Zqk,Zql,Zqm,Zqn,eq_self,true_and,and_true,Nat.zero_add,Nat.mul_one,h,hws,q1,q2,q3]
    tactic =>
    and_intros <;> try (first | omega | rfl | assumption | simp only [IN]; omega)
    rw [hv, hcs, hst]
    unfold NextL; refine ⟨(k - 1), [(0, 0)], _, by omega, ⟨i + 1, by omega, rfl⟩, wkA ?_⟩
    sym =>
    simp [Zaa,Zab,Zad,Zae,Zaf,Zag,Zah,Zai,Zak,Zal,Zam,Zan,Zap,Zaq,Zav,Zaw,Zay,Zaz,Za0,Za1,Za2,Za3,Za4,Za5,Za6,Za7,Za9,Zba,Zbb,Zbd,Zbf,Zbl,Zb1,Zcn,Zc1,Zc3,Zdc,Zdd,Zde,Zdi,Zev,Zew,Zex,Zez,Ze0,Ze1,Ze2,Ze3,Ze5,Zfc,Zfd,Zfe,Zfh,Zfi,Zfl,Zfn,Zfp,Zfq,Zfr,Zfs,Zfv,Zf1,Zf3,Zgh,Zgi,Zgv,Zg4,Zg5,Zho,Zh6,Zh9,Zis,Zit,Ziu,Ziv,Ziw,Zi7,Zjh,Zji,Zjn,Zjr,Zla,Zlb,Zle,Zlj,Zlz,Zmt,Zmv,Zmw,Zmx,Zmz,Zm3,Zna,Znb,Zne,Znf,Zng,Znn,Zno,Znr,Zns,Znt,Znu,Znw,Zn5,Zos,Zot,Zo7,Zo8,Zo9,Zpb,Zpc,Zpn,Zpo,Zp9,Zqd,Zqe,Zqf,Zqg,Zqh,Zqi,Zqk,Zql,Zqm,Zqn,eq_self,true_and,and_true,Nat.zero_add,Nat.mul_one]
    tactic =>
    exact rs_self (cB_okI _)
  · obtain rfl : i = w := by omega
    have e : fro (octN i n) i i = octN i n := by
      unfold fro
      rw [List.take_of_length_le (by omega), Nat.sub_self]; simp
    rw [e]
    sym =>
    simp [Zaa,Zab,Zad,Zae,Zaf,Zag,Zah,Zai,Zak,Zal,Zam,Zan,Zap,Zaq,Zav,Zaw,Zay,Zaz,Za0,Za1,Za2,Za3,Za4,Za5,Za6,Za7,Za9,Zba,Zbb,Zbd,Zbf,Zbl,Zb1,Zcn,Zc1,Zc3,Zdc,Zdd,Zde,Zdi,Zev,Zew,Zex,Zez,Ze0,Ze1,Ze2,Ze3,Ze5,Zfc,Zfd,Zfe,Zfh,Zfi,Zfl,Zfn,Zfp,Zfq,Zfr,Zfs,Zfv,Zf1,Zf3,Zgh,Zgi,Zgv,Zg4,Zg5,Zho,Zh6,Zh9,Zis,Zit,Ziu,Ziv,Ziw,Zi7,Zjh,Zji,Zjn,Zjr,Zla,Zlb,Zle,Zlj,Zlz,Zmt,Zmv,Zmw,Zmx,Zmz,Zm3,Zna,Znb,Zne,Znf,Zng,Znn,Zno,Znr,Zns,Znt,Znu,Znw,Zn5,Zos,Zot,Zo7,Zo8,Zo9,Zpb,Zpc,Zpn,Zpo,Zp9,Zqd,Zqe,Zqf,Zqg,Zqh,Zqi,Zqk,Zql,Zqm,Zqn,eq_self,true_and,and_true,Nat.zero_add,Nat.mul_one,h]
    tactic =>
    refine endO [(0, 0)] (nx := 1) ?_
    sym =>
    simp [Zaa,Zab,Zad,Zae,Zaf,Zag,Zah,Zai,Zak,Zal,Zam,Zan,Zap,Zaq,Zav,Zaw,Zay,Zaz,Za0,Za1,Za2,Za3,Za4,Za5,Za6,Za7,Za9,Zba,Zbb,Zbd,Zbf,Zbl,Zb1,Zcn,Zc1,Zc3,Zdc,Zdd,Zde,Zdi,Zev,Zew,Zex,Zez,Ze0,Ze1,Ze2,Ze3,Ze5,Zfc,Zfd,Zfe,Zfh,Zfi,Zfl,Zfn,Zfp,Zfq,Zfr,Zfs,Zfv,Zf1,Zf3,Zgh,Zgi,Zgv,Zg4,Zg5,Zho,Zh6,Zh9,Zis,Zit,Ziu,Ziv,Ziw,Zi7,Zjh,Zji,Zjn,Zjr,Zla,Zlb,Zle,Zlj,Zlz,Zmt,Zmv,Zmw,Zmx,Zmz,Zm3,Zna,Znb,Zne,Znf,Zng,Znn,Zno,Znr,Zns,Znt,Znu,Znw,Zn5,Zos,Zot,Zo7,Zo8,Zo9,Zpb,Zpc,Zpn,Zpo,Zp9,Zqd,Zqe,Zqf,Zqg,Zqh,Zqi,Zqk,Zql,Zqm,Zqn,eq_self,true_and,and_true,Nat.zero_add,Nat.mul_one]
    tactic =>
    exact rs_self (cB_okI _)
theorem roctal_ok_own (n : Int) (w : Nat) (hw : 1 ≤ w ∧ w ≤ 20) (h0 : 0 ≤ n) (hn : n ≤ mostN w) : Con Tryd.prog 10 [] [I n, I (IN w)] [(0, ⟨cB (octN w n), 1, 0⟩)] (.tu [.lv 0 0 w, I 0]) := by
  have hmo := rmost_con (IN w) (by simp only [IN]; omega)
  have hmi : mostI (IN w) = mostN w := rfl
  rw [hmi] at hmo
  have hb := mostN_bd w
  have g1 : ¬ IN w < (1 : Int) := by simp only [IN]; omega
  have g2 : ¬ IN w > (20 : Int) := by simp only [IN]; omega
  have g3 : ¬ n < 0 := by omega
  have g4 : ¬ n > mostN w := by omega
  have g5 : (0 : Int) ≤ IN w := by simp only [IN]; omega
  have hl := octN_length w n
  have hw1 : IntKind.i64.wrap (IN w - (1 : Int)) = IN w - (1 : Int) := by simp only [IN]; exact w64 _ (by omega)
  refine con_o b10 rfl ?_
  sym =>
  simp [Zaa,Zab,Zad,Zae,Zaf,Zag,Zah,Zai,Zak,Zal,Zam,Zan,Zap,Zaq,Zav,Zaw,Zaz,Za0,Za1,Za2,Za3,Za4,Za5,Za6,Za7,Za9,Zba,Zbb,Zbd,Zbf,Zbl,Zb1,Zc1,Zc3,Zdc,Zdd,Zde,Zdi,Zev,Zew,Zex,Zez,Ze0,Ze1,Ze2,Ze3,Ze5,Zfc,Zfd,Zfe,Zfh,Zfi,Zfl,Zfn,Zfq,Zfr,Zft,Zfu,Zf1,Zf3,Zf4,Zgh,Zgi,Zgv,Zg4,Zg5,Zho,Zis,Zit,Ziu,Ziv,Ziw,Zi7,Zjh,Zji,Zjn,Zjr,Zla,Zlb,Zle,Zlj,Zlz,Zmt,Zmv,Zmw,Zmx,Zmz,Zm3,Zna,Znb,Zne,Znf,Zng,Znn,Zno,Znr,Zns,Znu,Znw,Zos,Zot,Zo7,Zo8,Zo9,Zpb,Zpc,Zpn,Zpo,Zp9,Zqd,Zqe,Zqf,Zqg,Zqh,Zqi,Zqk,Zql,Zqm,Zqn,Zqr,eq_self,true_and,and_true,Nat.zero_add,Nat.mul_one,Nat.sub_zero,g1,g2,g3,callable_15]
  tactic =>
  refine cl none (hmo) trivial ?_
  sym =>
  simp [Zaa,Zab,Zad,Zae,Zaf,Zag,Zah,Zai,Zak,Zal,Zam,Zan,Zap,Zaq,Zav,Zaw,Zaz,Za0,Za1,Za2,Za3,Za4,Za5,Za6,Za7,Za9,Zba,Zbb,Zbd,Zbf,Zbl,Zb1,Zc1,Zc3,Zdc,Zdd,Zde,Zdi,Zev,Zew,Zex,Zez,Ze0,Ze1,Ze2,Ze3,Ze5,Zfc,Zfd,Zfe,Zfh,Zfi,Zfl,Zfn,Zfq,Zfr,Zft,Zfu,Zf1,Zf3,Zf4,Zgh,Zgi,Zgv,Zg4,Zg5,Zho,Zis,Zit,Ziu,Ziv,Ziw,Zi7,Zjh,Zji,Zjn,Zjr,Zla,Zlb,Zle,Zlj,Zlz,Zmt,Zmv,Zmw,Zmx,Zmz,Zm3,Zna,Znb,Zne,Znf,Zng,Znn,Zno,Znr,Zns,Znu,Znw,Zos,Zot,Zo7,Zo8,Zo9,Zpb,Zpc,Zpn,Zpo,Zp9,Zqd,Zqe,Zqf,Zqg,Zqh,Zqi,Zqk,Zql,Zqm,Zqn,Zqr,eq_self,true_and,and_true,Nat.zero_add,Nat.mul_one,Nat.sub_zero,g4,g5,hw1]
  tactic =>
  and_intros <;> try (first | omega | rfl | assumption | simp only [IN]; omega)
  refine lpA (i10 n w) w [(0, 17)] _ ⟨0, by omega, rfl⟩ (wkA ?_) ?_
  · have e0 : bak (octN w n) w 0 = List.replicate w 0 := by rw [bak, Nat.sub_zero, List.drop_of_length_le (by omega), List.append_nil]
    have e1 : cB (List.replicate w 0) = List.replicate w (Y 0) := by simp [cB]
    rw [e0, e1]
    sym =>
    simp [Zaa,Zab,Zad,Zae,Zaf,Zag,Zah,Zai,Zak,Zal,Zam,Zan,Zap,Zaq,Zav,Zaw,Zaz,Za0,Za1,Za2,Za3,Za4,Za5,Za6,Za7,Za9,Zba,Zbb,Zbd,Zbf,Zbl,Zb1,Zc1,Zc3,Zdc,Zdd,Zde,Zdi,Zev,Zew,Zex,Zez,Ze0,Ze1,Ze2,Ze3,Ze5,Zfc,Zfd,Zfe,Zfh,Zfi,Zfl,Zfn,Zfq,Zfr,Zft,Zfu,Zf1,Zf3,Zf4,Zgh,Zgi,Zgv,Zg4,Zg5,Zho,Zis,Zit,Ziu,Ziv,Ziw,Zi7,Zjh,Zji,Zjn,Zjr,Zla,Zlb,Zle,Zlj,Zlz,Zmt,Zmv,Zmw,Zmx,Zmz,Zm3,Zna,Znb,Zne,Znf,Zng,Znn,Zno,Znr,Zns,Znu,Znw,Zos,Zot,Zo7,Zo8,Zo9,Zpb,Zpc,Zpn,Zpo,Zp9,Zqd,Zqe,Zqf,Zqg,Zqh,Zqi,Zqk,Zql,Zqm,Zqn,Zqr,eq_self,true_and,and_true,Nat.zero_add,Nat.mul_one,Nat.sub_zero]
    tactic =>
    exact ⟨by simp, rs_self (by intro x hx; rw [List.eq_of_mem_replicate hx]; rfl)⟩
  rintro k s ⟨j, hj, rfl⟩
  by_cases h : j < w
  · have hI : IN w - 1 - (j : Int) ≥ 0 := by simp only [IN]; omega
    have hww := w64 (IN w - 1 - (j : Int) - 1) (by simp only [IN]; omega)
    have hn0 : 0 ≤ n / 8 ^ j := Int.ediv_nonneg h0 (Int.le_of_lt (Int.pow_pos (by decide)))
    have hnl : n / 8 ^ j ≤ n := Int.ediv_le_self _ h0
    have hd : n / 8 ^ (j + 1) = n / 8 ^ j / 8 := by rw [Int.pow_succ, Int.ediv_ediv_of_nonneg (Int.le_of_lt (Int.pow_pos (by decide)))]
    have hg := octN_get w n (w - 1 - j) (by omega)
    rw [show w - 1 - (w - 1 - j) = j from by omega] at hg
    have hst := bak_step (octN w n) w j hl h
    rw [hg] at hst
    obtain ⟨x, hx⟩ : ∃ x, x = n / 8 ^ j := ⟨_, rfl⟩
    rw [← hx] at hn0 hnl hd hst ⊢
    have hr : IntKind.u8.wrap (IntKind.i64.wrap (48 + x.tmod (8 : Int))) = 48 + x % 8 := by rw [Int.tmod_eq_emod_of_nonneg hn0, w64 _ (by omega), w8u]; omega
    have hq : IntKind.i64.wrap (x.tdiv (8 : Int)) = x / 8 := by rw [Int.tdiv_eq_ediv_of_nonneg hn0, w64 _ (by omega)]
    have hix : (IN w - 1 - (j : Int)).toNat = w - 1 - j := by simp only [IN]; omega
    have hlt : IN w - 1 - (j : Int) < IN w := by simp only [IN]; omega
    have hbl := bak_length (octN w n) w j hl (by omega)
    have hcs := cB_set (bak (octN w n) w j) (w - 1 - j)
    sym =>
    simp [Zaa,Zab,Zad,Zae,Zaf,Zag,Zah,Zai,Zak,Zal,Zam,Zan,Zap,Zaq,Zav,Zaw,Zaz,Za0,Za1,Za2,Za3,Za4,Za5,Za6,Za7,Za9,Zba,Zbb,Zbd,Zbf,Zbl,Zb1,Zc1,Zc3,Zdc,Zdd,Zde,Zdi,Zev,Zew,Zex,Zez,Ze0,Ze1,Ze2,Ze3,Ze5,Zfc,Zfd,Zfe,Zfh,Zfi,Zfl,Zfn,Zfq,Zfr,Zft,Zfu,Zf1,Zf3,Zf4,Zgh,Zgi,Zgv,Zg4,Zg5,Zho,Zis,Zit,Ziu,Ziv,Ziw,Zi7,Zjh,Zji,Zjn,Zjr,Zla,Zlb,Zle,Zlj,Zlz,Zmt,Zmv,Zmw,Zmx,Zmz,Zm3,Zna,Znb,Zne,Znf,Zng,Znn,Zno,Znr,Zns,Znu,Znw,Zos,Zot,Zo7,Zo8,Zo9,Zpb,Zpc,Zpn,Zpo,Zp9,Zqd,Zqe,Zqf,Zqg,Zqh,Zqi,Zqk,Zql,Zqm,Zqn,Zqr,eq_self,true_and,and_true,Nat.zero_add,Nat.mul_one,Nat.sub_zero,hI,hww,hr,hq,hix,hlt,hcs,cB_length,hbl]
    tactic =>
    and_intros <;> try (first | omega | rfl | assumption | simp only [IN]; omega)
    unfold NextL; refine ⟨(k - 1), [(0, 0)], _, by omega, ⟨j + 1, by omega, rfl⟩, wkA ?_⟩
    sym =>
    simp [Zaa,Zab,Zad,Zae,Zaf,Zag,Zah,Zai,Zak,Zal,Zam,Zan,Zap,Zaq,Zav,Zaw,Zaz,Za0,Za1,Za2,Za3,Za4,Za5,Za6,Za7,Za9,Zba,Zbb,Zbd,Zbf,Zbl,Zb1,Zc1,Zc3,Zdc,Zdd,Zde,Zdi,Zev,Zew,Zex,Zez,Ze0,Ze1,Ze2,Ze3,Ze5,Zfc,Zfd,Zfe,Zfh,Zfi,Zfl,Zfn,Zfq,Zfr,Zft,Zfu,Zf1,Zf3,Zf4,Zgh,Zgi,Zgv,Zg4,Zg5,Zho,Zis,Zit,Ziu,Ziv,Ziw,Zi7,Zjh,Zji,Zjn,Zjr,Zla,Zlb,Zle,Zlj,Zlz,Zmt,Zmv,Zmw,Zmx,Zmz,Zm3,Zna,Znb,Zne,Znf,Zng,Znn,Zno,Znr,Zns,Znu,Znw,Zos,Zot,Zo7,Zo8,Zo9,Zpb,Zpc,Zpn,Zpo,Zp9,Zqd,Zqe,Zqf,Zqg,Zqh,Zqi,Zqk,Zql,Zqm,Zqn,Zqr,eq_self,true_and,and_true,Nat.zero_add,Nat.mul_one,Nat.sub_zero]
    tactic =>
    rw [hst, hd]
    refine ⟨⟨rfl, by show IN w - 1 - (j : Int) - 1 = IN w - 1 - ((j + 1 : Nat) : Int); omega⟩, rs_self (cB_okI _)⟩
  · have hI : ¬ IN w - 1 - (j : Int) ≥ 0 := by simp only [IN]; omega
    obtain rfl : j = w := by omega
    have e : bak (octN j n) j j = octN j n := by simp [bak]
    rw [e]
    sym =>
    simp [Zaa,Zab,Zad,Zae,Zaf,Zag,Zah,Zai,Zak,Zal,Zam,Zan,Zap,Zaq,Zav,Zaw,Zaz,Za0,Za1,Za2,Za3,Za4,Za5,Za6,Za7,Za9,Zba,Zbb,Zbd,Zbf,Zbl,Zb1,Zc1,Zc3,Zdc,Zdd,Zde,Zdi,Zev,Zew,Zex,Zez,Ze0,Ze1,Ze2,Ze3,Ze5,Zfc,Zfd,Zfe,Zfh,Zfi,Zfl,Zfn,Zfq,Zfr,Zft,Zfu,Zf1,Zf3,Zf4,Zgh,Zgi,Zgv,Zg4,Zg5,Zho,Zis,Zit,Ziu,Ziv,Ziw,Zi7,Zjh,Zji,Zjn,Zjr,Zla,Zlb,Zle,Zlj,Zlz,Zmt,Zmv,Zmw,Zmx,Zmz,Zm3,Zna,Znb,Zne,Znf,Zng,Znn,Zno,Znr,Zns,Znu,Znw,Zos,Zot,Zo7,Zo8,Zo9,Zpb,Zpc,Zpn,Zpo,Zp9,Zqd,Zqe,Zqf,Zqg,Zqh,Zqi,Zqk,Zql,Zqm,Zqn,Zqr,eq_self,true_and,and_true,Nat.zero_add,Nat.mul_one,Nat.sub_zero,hI]
    tactic =>
    refine endO [(0, 0)] (nx := 1) ?_
    sym =>
    simp [Zaa,Zab,Zad,Zae,Zaf,Zag,Zah,Zai,Zak,Zal,Zam,Zan,Zap,Zaq,Zav,Zaw,Zaz,Za0,Za1,Za2,Za3,Za4,Za5,Za6,Za7,Za9,Zba,Zbb,Zbd,Zbf,Zbl,Zb1,Zc1,Zc3,Zdc,Zdd,Zde,Zdi,Zev,Zew,Zex,Zez,Ze0,Ze1,Ze2,Ze3,Ze5,Zfc,Zfd,Zfe,Zfh,Zfi,Zfl,Zfn,Zfq,Zfr,Zft,Zfu,Zf1,Zf3,Zf4,Zgh,Zgi,Zgv,Zg4,Zg5,Zho,Zis,Zit,Ziu,Ziv,Ziw,Zi7,Zjh,Zji,Zjn,Zjr,Zla,Zlb,Zle,Zlj,Zlz,Zmt,Zmv,Zmw,Zmx,Zmz,Zm3,Zna,Znb,Zne,Znf,Zng,Znn,Zno,Znr,Zns,Znu,Znw,Zos,Zot,Zo7,Zo8,Zo9,Zpb,Zpc,Zpn,Zpo,Zp9,Zqd,Zqe,Zqf,Zqg,Zqh,Zqi,Zqk,Zql,Zqm,Zqn,Zqr,eq_self,true_and,and_true,Nat.zero_add,Nat.mul_one,Nat.sub_zero]
    tactic =>
    exact rs_self (cB_okI _)
theorem put_con (n w : Int) (hn : -9223372036854775808 ≤ n ∧ n ≤ 9223372036854775807) (hw : -9223372036854775808 ≤ w ∧ w ≤ 9223372036854775807) : Con Tryd.prog 7 [] [I n, I w] [] (.tu [fB (putF n w).1, I (putF n w).2]) := by
  have hi := isW_con w
  have hp := plain_con n w hn hw
  unfold putF
  by_cases h1 : isW w = true
  rotate_left
  · rw [if_neg h1]
    have h1' : isW w = false := by simpa using h1
    rw [h1'] at hi
    refine con_j b7 rfl ?_
    sym =>
    simp [Zaa,Zab,Zad,Zae,Zaf,Zak,Zal,Zam,Zao,Zay,Zaz,Za0,Za1,Za2,Za3,Za4,Za5,Za9,Zba,Zbb,Zbf,Zbj,Zb7,Zcz,Zc5,Zdc,Zdd,Zde,Zdi,Zev,Zew,Zez,Ze0,Ze2,Ze3,Ze4,Ze5,Zfc,Zfd,Zfe,Zff,Zfg,Zfh,Zfn,Zfr,Zgd,Zgg,Zhb,Zhc,Zhf,Zhg,Zhh,Ziq,Zir,Zix,Ziz,Zi0,Zi2,Zi3,Zi7,Zjj,Zjk,Zjo,Zjw,Zka,Zky,Zk0,Zk4,Zla,Zlb,Zle,Zlj,Zlz,Zl0,Zl1,Zl2,Zl6,Zml,Zms,Zmt,Zmv,Zmw,Zmx,Zmz,Zm3,Zm9,Zna,Znb,Zne,Znf,Zng,Znh,Znl,Znm,Znn,Zno,Znp,Zof,Zog,Zos,Zot,Zo3,Zo4,Zo7,Zpb,Zph,Zpw,Zpz,Zp1,Zp2,Zp9,Zqd,Zqe,List.length_append,eq_self,true_and,and_true,Nat.zero_add,Nat.mul_one,callable_20]
    tactic =>
    refine cl none (hi) trivial ?_
    sym =>
    simp [Zaa,Zab,Zad,Zae,Zaf,Zak,Zal,Zam,Zao,Zay,Zaz,Za0,Za1,Za2,Za3,Za4,Za5,Za9,Zba,Zbb,Zbf,Zbj,Zb7,Zcz,Zc5,Zdc,Zdd,Zde,Zdi,Zev,Zew,Zez,Ze0,Ze2,Ze3,Ze4,Ze5,Zfc,Zfd,Zfe,Zff,Zfg,Zfh,Zfn,Zfr,Zgd,Zgg,Zhb,Zhc,Zhf,Zhg,Zhh,Ziq,Zir,Zix,Ziz,Zi0,Zi2,Zi3,Zi7,Zjj,Zjk,Zjo,Zjw,Zka,Zky,Zk0,Zk4,Zla,Zlb,Zle,Zlj,Zlz,Zl0,Zl1,Zl2,Zl6,Zml,Zms,Zmt,Zmv,Zmw,Zmx,Zmz,Zm3,Zm9,Zna,Znb,Zne,Znf,Zng,Znh,Znl,Znm,Znn,Zno,Znp,Zof,Zog,Zos,Zot,Zo3,Zo4,Zo7,Zpb,Zph,Zpw,Zpz,Zp1,Zp2,Zp9,Zqd,Zqe,List.length_append,eq_self,true_and,and_true,Nat.zero_add,Nat.mul_one]
    tactic =>
    refine endA ?_
    sym =>
    simp [Zaa,Zab,Zad,Zae,Zaf,Zak,Zal,Zam,Zao,Zay,Zaz,Za0,Za1,Za2,Za3,Za4,Za5,Za9,Zba,Zbb,Zbf,Zbj,Zb7,Zcz,Zc5,Zdc,Zdd,Zde,Zdi,Zev,Zew,Zez,Ze0,Ze2,Ze3,Ze4,Ze5,Zfc,Zfd,Zfe,Zff,Zfg,Zfh,Zfn,Zfr,Zgd,Zgg,Zhb,Zhc,Zhf,Zhg,Zhh,Ziq,Zir,Zix,Ziz,Zi0,Zi2,Zi3,Zi7,Zjj,Zjk,Zjo,Zjw,Zka,Zky,Zk0,Zk4,Zla,Zlb,Zle,Zlj,Zlz,Zl0,Zl1,Zl2,Zl6,Zml,Zms,Zmt,Zmv,Zmw,Zmx,Zmz,Zm3,Zm9,Zna,Znb,Zne,Znf,Zng,Znh,Znl,Znm,Znn,Zno,Znp,Zof,Zog,Zos,Zot,Zo3,Zo4,Zo7,Zpb,Zph,Zpw,Zpz,Zp1,Zp2,Zp9,Zqd,Zqe,List.length_append,eq_self,true_and,and_true,Nat.zero_add,Nat.mul_one]
    tactic =>
    rfl
  rw [if_pos h1]
  rw [h1] at hi
  by_cases h2 : plainF n w = true
  rotate_left
  · rw [if_neg h2]
    have h2' : plainF n w = false := by simpa using h2
    rw [h2'] at hp
    have hb := base_con n w hn (isW_iff h1)
    obtain ⟨R, hR⟩ : ∃ R, R = baseF n w := ⟨_, rfl⟩
    rw [← hR] at hb ⊢
    refine con_j b7 rfl ?_
    sym =>
    simp [Zaa,Zab,Zad,Zae,Zaf,Zak,Zal,Zam,Zao,Zay,Zaz,Za0,Za1,Za2,Za3,Za4,Za5,Za9,Zba,Zbb,Zbf,Zbj,Zb7,Zcz,Zc5,Zdc,Zdd,Zde,Zdi,Zev,Zew,Zez,Ze0,Ze2,Ze3,Ze4,Ze5,Zfc,Zfd,Zfe,Zff,Zfg,Zfh,Zfn,Zfr,Zgd,Zgg,Zhb,Zhc,Zhf,Zhg,Zhh,Ziq,Zir,Zix,Ziz,Zi0,Zi2,Zi3,Zi7,Zjj,Zjk,Zjo,Zjw,Zka,Zky,Zk0,Zk4,Zla,Zlb,Zle,Zlj,Zlz,Zl0,Zl1,Zl2,Zl6,Zml,Zms,Zmt,Zmv,Zmw,Zmx,Zmz,Zm3,Zm9,Zna,Znb,Zne,Znf,Zng,Znh,Znl,Znm,Znn,Zno,Znp,Zof,Zog,Zos,Zot,Zo3,Zo4,Zo7,Zpb,Zph,Zpw,Zpz,Zp1,Zp2,Zp9,Zqd,Zqe,List.length_append,eq_self,true_and,and_true,Nat.zero_add,Nat.mul_one,callable_20]
    tactic =>
    refine cl none (hi) trivial ?_
    sym =>
    simp [Zaa,Zab,Zad,Zae,Zaf,Zak,Zal,Zam,Zao,Zay,Zaz,Za0,Za1,Za2,Za3,Za4,Za5,Za9,Zba,Zbb,Zbf,Zbj,Zb7,Zcz,Zc5,Zdc,Zdd,Zde,Zdi,Zev,Zew,Zez,Ze0,Ze2,Ze3,Ze4,Ze5,Zfc,Zfd,Zfe,Zff,Zfg,Zfh,Zfn,Zfr,Zgd,Zgg,Zhb,Zhc,Zhf,Zhg,Zhh,Ziq,Zir,Zix,Ziz,Zi0,Zi2,Zi3,Zi7,Zjj,Zjk,Zjo,Zjw,Zka,Zky,Zk0,Zk4,Zla,Zlb,Zle,Zlj,Zlz,Zl0,Zl1,Zl2,Zl6,Zml,Zms,Zmt,Zmv,Zmw,Zmx,Zmz,Zm3,Zm9,Zna,Znb,Zne,Znf,Zng,Znh,Znl,Znm,Znn,Zno,Znp,Zof,Zog,Zos,Zot,Zo3,Zo4,Zo7,Zpb,Zph,Zpw,Zpz,Zp1,Zp2,Zp9,Zqd,Zqe,List.length_append,eq_self,true_and,and_true,Nat.zero_add,Nat.mul_one,callable_12]
    tactic =>
    refine cl none (hp) trivial ?_
    sym =>
    simp [Zaa,Zab,Zad,Zae,Zaf,Zak,Zal,Zam,Zao,Zay,Zaz,Za0,Za1,Za2,Za3,Za4,Za5,Za9,Zba,Zbb,Zbf,Zbj,Zb7,Zcz,Zc5,Zdc,Zdd,Zde,Zdi,Zev,Zew,Zez,Ze0,Ze2,Ze3,Ze4,Ze5,Zfc,Zfd,Zfe,Zff,Zfg,Zfh,Zfn,Zfr,Zgd,Zgg,Zhb,Zhc,Zhf,Zhg,Zhh,Ziq,Zir,Zix,Ziz,Zi0,Zi2,Zi3,Zi7,Zjj,Zjk,Zjo,Zjw,Zka,Zky,Zk0,Zk4,Zla,Zlb,Zle,Zlj,Zlz,Zl0,Zl1,Zl2,Zl6,Zml,Zms,Zmt,Zmv,Zmw,Zmx,Zmz,Zm3,Zm9,Zna,Znb,Zne,Znf,Zng,Znh,Znl,Znm,Znn,Zno,Znp,Zof,Zog,Zos,Zot,Zo3,Zo4,Zo7,Zpb,Zph,Zpw,Zpz,Zp1,Zp2,Zp9,Zqd,Zqe,List.length_append,eq_self,true_and,and_true,Nat.zero_add,Nat.mul_one,callable_21]
    tactic =>
    refine cl none (hb) trivial ?_
    sym =>
    simp [Zaa,Zab,Zad,Zae,Zaf,Zak,Zal,Zam,Zao,Zay,Zaz,Za0,Za1,Za2,Za3,Za4,Za5,Za9,Zba,Zbb,Zbf,Zbj,Zb7,Zcz,Zc5,Zdc,Zdd,Zde,Zdi,Zev,Zew,Zez,Ze0,Ze2,Ze3,Ze4,Ze5,Zfc,Zfd,Zfe,Zff,Zfg,Zfh,Zfn,Zfr,Zgd,Zgg,Zhb,Zhc,Zhf,Zhg,Zhh,Ziq,Zir,Zix,Ziz,Zi0,Zi2,Zi3,Zi7,Zjj,Zjk,Zjo,Zjw,Zka,Zky,Zk0,Zk4,Zla,Zlb,Zle,Zlj,Zlz,Zl0,Zl1,Zl2,Zl6,Zml,Zms,Zmt,Zmv,Zmw,Zmx,Zmz,Zm3,Zm9,Zna,Znb,Zne,Znf,Zng,Znh,Znl,Znm,Znn,Zno,Znp,Zof,Zog,Zos,Zot,Zo3,Zo4,Zo7,Zpb,Zph,Zpw,Zpz,Zp1,Zp2,Zp9,Zqd,Zqe,List.length_append,eq_self,true_and,and_true,Nat.zero_add,Nat.mul_one]
    tactic =>
    refine endA ?_
    sym =>
    simp [Zaa,Zab,Zad,Zae,Zaf,Zak,Zal,Zam,Zao,Zay,Zaz,Za0,Za1,Za2,Za3,Za4,Za5,Za9,Zba,Zbb,Zbf,Zbj,Zb7,Zcz,Zc5,Zdc,Zdd,Zde,Zdi,Zev,Zew,Zez,Ze0,Ze2,Ze3,Ze4,Ze5,Zfc,Zfd,Zfe,Zff,Zfg,Zfh,Zfn,Zfr,Zgd,Zgg,Zhb,Zhc,Zhf,Zhg,Zhh,Ziq,Zir,Zix,Ziz,Zi0,Zi2,Zi3,Zi7,Zjj,Zjk,Zjo,Zjw,Zka,Zky,Zk0,Zk4,Zla,Zlb,Zle,Zlj,Zlz,Zl0,Zl1,Zl2,Zl6,Zml,Zms,Zmt,Zmv,Zmw,Zmx,Zmz,Zm3,Zm9,Zna,Znb,Zne,Znf,Zng,Znh,Znl,Znm,Znn,Zno,Znp,Zof,Zog,Zos,Zot,Zo3,Zo4,Zo7,Zpb,Zph,Zpw,Zpz,Zp1,Zp2,Zp9,Zqd,Zqe,List.length_append,eq_self,true_and,and_true,Nat.zero_add,Nat.mul_one]
  · rw [if_pos h2]
    rw [h2] at hp
    obtain ⟨_, g1, g2⟩ := plain_most h2
    have hww : IntKind.i64.wrap (w - (1 : Int)) = w - 1 := w64 _ (by have := isW_iff h1; omega)
    obtain ⟨W, hW⟩ : ∃ W : Nat, w - 1 = IN W := ⟨(w - 1).toNat, by have := isW_iff h1; simp only [IN]; omega⟩
    have hWb : 1 ≤ W ∧ W ≤ 20 := by have := isW_iff h1; simp only [IN] at hW; omega
    rw [hW] at g2 ⊢
    rw [show w - 1 = IN W from hW] at hww
    have hww' : IntKind.i64.wrap (w - (1 : Int)) = IN W := by rw [hW]; exact hww
    have ho := octal_ok_own n W hWb g1 g2
    have hWn : (IN W).toNat = W := rfl
    rw [hWn]
    have hl := octN_length W n
    have hc := cB_length (octN W n)
    rw [hl] at hc
    have hlf : (octN W n ++ [0]).length = W + 1 := by simp [hl]
    have hca : cB (octN W n) ++ [Y 0] = cB (octN W n ++ [0]) := by rw [cB_append]; rfl
    have hI := cB_okI (octN W n)
    have hF := cB_okF (octN W n)
    refine con_j b7 rfl ?_
    sym =>
    simp [Zaa,Zab,Zad,Zae,Zaf,Zak,Zal,Zam,Zao,Zay,Zaz,Za0,Za1,Za2,Za3,Za4,Za5,Za9,Zba,Zbb,Zbf,Zbj,Zb7,Zcz,Zc5,Zdc,Zdd,Zde,Zdi,Zev,Zew,Zez,Ze0,Ze2,Ze3,Ze4,Ze5,Zfc,Zfd,Zfe,Zff,Zfg,Zfh,Zfn,Zfr,Zgd,Zgg,Zhb,Zhc,Zhf,Zhg,Zhh,Ziq,Zir,Zix,Ziz,Zi0,Zi2,Zi3,Zi7,Zjj,Zjk,Zjo,Zjw,Zka,Zky,Zk0,Zk4,Zla,Zlb,Zle,Zlj,Zlz,Zl0,Zl1,Zl2,Zl6,Zml,Zms,Zmt,Zmv,Zmw,Zmx,Zmz,Zm3,Zm9,Zna,Znb,Zne,Znf,Zng,Znh,Znl,Znm,Znn,Zno,Znp,Zof,Zog,Zos,Zot,Zo3,Zo4,Zo7,Zpb,Zph,Zpw,Zpz,Zp1,Zp2,Zp9,Zqd,Zqe,List.length_append,eq_self,true_and,and_true,Nat.zero_add,Nat.mul_one,callable_20]
    tactic =>
    refine cl none (hi) trivial ?_
    sym =>
    simp [Zaa,Zab,Zad,Zae,Zaf,Zak,Zal,Zam,Zao,Zay,Zaz,Za0,Za1,Za2,Za3,Za4,Za5,Za9,Zba,Zbb,Zbf,Zbj,Zb7,Zcz,Zc5,Zdc,Zdd,Zde,Zdi,Zev,Zew,Zez,Ze0,Ze2,Ze3,Ze4,Ze5,Zfc,Zfd,Zfe,Zff,Zfg,Zfh,Zfn,Zfr,Zgd,Zgg,Zhb,Zhc,Zhf,Zhg,Zhh,Ziq,Zir,Zix,Ziz,Zi0,Zi2,Zi3,Zi7,Zjj,Zjk,Zjo,Zjw,Zka,Zky,Zk0,Zk4,Zla,Zlb,Zle,Zlj,Zlz,Zl0,Zl1,Zl2,Zl6,Zml,Zms,Zmt,Zmv,Zmw,Zmx,Zmz,Zm3,Zm9,Zna,Znb,Zne,Znf,Zng,Znh,Znl,Znm,Znn,Zno,Znp,Zof,Zog,Zos,Zot,Zo3,Zo4,Zo7,Zpb,Zph,Zpw,Zpz,Zp1,Zp2,Zp9,Zqd,Zqe,List.length_append,eq_self,true_and,and_true,Nat.zero_add,Nat.mul_one,callable_12]
    tactic =>
    refine cl none (hp) trivial ?_
    sym =>
    simp [Zaa,Zab,Zad,Zae,Zaf,Zak,Zal,Zam,Zao,Zay,Zaz,Za0,Za1,Za2,Za3,Za4,Za5,Za9,Zba,Zbb,Zbf,Zbj,Zb7,Zcz,Zc5,Zdc,Zdd,Zde,Zdi,Zev,Zew,Zez,Ze0,Ze2,Ze3,Ze4,Ze5,Zfc,Zfd,Zfe,Zff,Zfg,Zfh,Zfn,Zfr,Zgd,Zgg,Zhb,Zhc,Zhf,Zhg,Zhh,Ziq,Zir,Zix,Ziz,Zi0,Zi2,Zi3,Zi7,Zjj,Zjk,Zjo,Zjw,Zka,Zky,Zk0,Zk4,Zla,Zlb,Zle,Zlj,Zlz,Zl0,Zl1,Zl2,Zl6,Zml,Zms,Zmt,Zmv,Zmw,Zmx,Zmz,Zm3,Zm9,Zna,Znb,Zne,Znf,Zng,Znh,Znl,Znm,Znn,Zno,Znp,Zof,Zog,Zos,Zot,Zo3,Zo4,Zo7,Zpb,Zph,Zpw,Zpz,Zp1,Zp2,Zp9,Zqd,Zqe,List.length_append,eq_self,true_and,and_true,Nat.zero_add,Nat.mul_one,hww',callable_9]
    tactic =>
    refine cl (some ⟨cB (octN W n), 1, 0⟩) ho ⟨rfl, cB_okI _⟩ ?_
    sym =>
    simp [Zaa,Zab,Zad,Zae,Zaf,Zak,Zal,Zam,Zao,Zay,Zaz,Za0,Za1,Za2,Za3,Za4,Za5,Za9,Zba,Zbb,Zbf,Zbj,Zb7,Zcz,Zc5,Zdc,Zdd,Zde,Zdi,Zev,Zew,Zez,Ze0,Ze2,Ze3,Ze4,Ze5,Zfc,Zfd,Zfe,Zff,Zfg,Zfh,Zfn,Zfr,Zgd,Zgg,Zhb,Zhc,Zhf,Zhg,Zhh,Ziq,Zir,Zix,Ziz,Zi0,Zi2,Zi3,Zi7,Zjj,Zjk,Zjo,Zjw,Zka,Zky,Zk0,Zk4,Zla,Zlb,Zle,Zlj,Zlz,Zl0,Zl1,Zl2,Zl6,Zml,Zms,Zmt,Zmv,Zmw,Zmx,Zmz,Zm3,Zm9,Zna,Znb,Zne,Znf,Zng,Znh,Znl,Znm,Znn,Zno,Znp,Zof,Zog,Zos,Zot,Zo3,Zo4,Zo7,Zpb,Zph,Zpw,Zpz,Zp1,Zp2,Zp9,Zqd,Zqe,List.length_append,eq_self,true_and,and_true,Nat.zero_add,Nat.mul_one,hc]
    tactic =>
    refine ⟨by omega, ?_⟩
    have hcl := cB_length (octN W n ++ [0])
    rw [hca, hl]
    refine endA ?_
    sym =>
    simp [Zaa,Zab,Zad,Zae,Zaf,Zak,Zal,Zam,Zao,Zay,Zaz,Za0,Za1,Za2,Za3,Za4,Za5,Za9,Zba,Zbb,Zbf,Zbj,Zb7,Zcz,Zc5,Zdc,Zdd,Zde,Zdi,Zev,Zew,Zez,Ze0,Ze2,Ze3,Ze4,Ze5,Zfc,Zfd,Zfe,Zff,Zfg,Zfh,Zfn,Zfr,Zgd,Zgg,Zhb,Zhc,Zhf,Zhg,Zhh,Ziq,Zir,Zix,Ziz,Zi0,Zi2,Zi3,Zi7,Zjj,Zjk,Zjo,Zjw,Zka,Zky,Zk0,Zk4,Zla,Zlb,Zle,Zlj,Zlz,Zl0,Zl1,Zl2,Zl6,Zml,Zms,Zmt,Zmv,Zmw,Zmx,Zmz,Zm3,Zm9,Zna,Znb,Zne,Znf,Zng,Znh,Znl,Znm,Znn,Zno,Znp,Zof,Zog,Zos,Zot,Zo3,Zo4,Zo7,Zpb,Zph,Zpw,Zpz,Zp1,Zp2,Zp9,Zqd,Zqe,List.length_append,eq_self,true_and,and_true,Nat.zero_add,Nat.mul_one]
    tactic =>
    exact ⟨(List.take_of_length_le (by omega)).symm, by omega, cB_okI _⟩
/-- The loop of the document's Put: the first byte, behind it what is written from the end. -/
def i8 (n w : Int) (W : Nat) (k : Nat) (s : St) : Prop := ∃ j : Nat, j + k = W ∧ s = ⟨[(0, I n), (8, .lv 0 0 (W + 1)), (9, I (n / 256 ^ j)), (10, I (IN W - (j : Int)))], [(0, ⟨cB (0 :: bak (beN W n) W j), 1, 0⟩)], 1⟩
theorem rput_con (n w : Int) (hn : -9223372036854775808 ≤ n ∧ n ≤ 9223372036854775807) (hw : -9223372036854775808 ≤ w ∧ w ≤ 9223372036854775807) : Con Tryd.prog 8 [] [I n, I w] [] (.tu [fB (putF n w).1, I (putF n w).2]) := by
  have hi := rW_con w
  have hp := rplain_con n w hn hw
  unfold putF
  by_cases h1 : isW w = true
  rotate_left
  · rw [if_neg h1]
    have h1' : isW w = false := by simpa using h1
    rw [h1'] at hi
    refine con_j b8 rfl ?_
    sym =>
    simp [Zaa,Zab,Zad,Zae,Zaf,Zag,Zah,Zai,Zak,Zal,Zam,Zan,Zao,Zap,Zaq,Zav,Zaw,Zay,Zaz,Za0,Za1,Za2,Za3,Za4,Za5,Za6,Za7,Zrh,Za8,Za9,Zba,Zbb,Zbd,Zbf,Zbj,Zb1,Zb7,Zcz,Zc1,Zc3,Zc5,Zdc,Zdd,Zde,Zdi,Zev,Zew,Zex,Zez,Ze0,Ze1,Ze2,Ze3,Ze4,Ze5,Zfc,Zfd,Zfe,Zff,Zfg,Zfh,Zfi,Zfj,Zfk,Zfl,Zfn,Zfr,Zf0,Zf1,Zf3,Zf4,Zgd,Zgg,Zgv,Zg4,Zg5,Zhb,Zhc,Zhf,Zhg,Zhh,Zho,Ziq,Zir,Zis,Zit,Ziu,Ziv,Ziw,Zix,Ziz,Zi0,Zi2,Zi3,Zi7,Zjh,Zji,Zjj,Zjk,Zjn,Zjo,Zjr,Zjw,Zla,Zlb,Zle,Zlj,Zlz,Zl0,Zl1,Zl2,Zl6,Zml,Zms,Zmt,Zmv,Zmw,Zmx,Zmz,Zm3,Zm9,Zna,Znb,Zne,Znf,Zng,Znh,Znl,Znm,Znn,Zno,Znp,Znr,Zns,Znu,Znw,Znx,Zof,Zog,Zoh,Zrd,Zos,Zot,Zo3,Zo4,Zo6,Zo7,Zo8,Zo9,Zpb,Zpc,Zpo,Zpw,Zpz,Zp1,Zp2,Zp9,Zqd,Zqe,Zqf,Zqg,Zqh,Zqi,Zqk,Zql,Zqm,Zqn,Zqr,List.length_append,eq_self,true_and,and_true,Nat.zero_add,Nat.mul_one,Nat.sub_zero,callable_22]
    tactic =>
    refine cl none (hi) trivial ?_
    sym =>
    simp [Zaa,Zab,Zad,Zae,Zaf,Zag,Zah,Zai,Zak,Zal,Zam,Zan,Zao,Zap,Zaq,Zav,Zaw,Zay,Zaz,Za0,Za1,Za2,Za3,Za4,Za5,Za6,Za7,Zrh,Za8,Za9,Zba,Zbb,Zbd,Zbf,Zbj,Zb1,Zb7,Zcz,Zc1,Zc3,Zc5,Zdc,Zdd,Zde,Zdi,Zev,Zew,Zex,Zez,Ze0,Ze1,Ze2,Ze3,Ze4,Ze5,Zfc,Zfd,Zfe,Zff,Zfg,Zfh,Zfi,Zfj,Zfk,Zfl,Zfn,Zfr,Zf0,Zf1,Zf3,Zf4,Zgd,Zgg,Zgv,Zg4,Zg5,Zhb,Zhc,Zhf,Zhg,Zhh,Zho,Ziq,Zir,Zis,Zit,Ziu,Ziv,Ziw,Zix,Ziz,Zi0,Zi2,Zi3,Zi7,Zjh,Zji,Zjj,Zjk,Zjn,Zjo,Zjr,Zjw,Zla,Zlb,Zle,Zlj,Zlz,Zl0,Zl1,Zl2,Zl6,Zml,Zms,Zmt,Zmv,Zmw,Zmx,Zmz,Zm3,Zm9,Zna,Znb,Zne,Znf,Zng,Znh,Znl,Znm,Znn,Zno,Znp,Znr,Zns,Znu,Znw,Znx,Zof,Zog,Zoh,Zrd,Zos,Zot,Zo3,Zo4,Zo6,Zo7,Zo8,Zo9,Zpb,Zpc,Zpo,Zpw,Zpz,Zp1,Zp2,Zp9,Zqd,Zqe,Zqf,Zqg,Zqh,Zqi,Zqk,Zql,Zqm,Zqn,Zqr,List.length_append,eq_self,true_and,and_true,Nat.zero_add,Nat.mul_one,Nat.sub_zero]
    tactic =>
    refine endA ?_
    sym =>
    simp [Zaa,Zab,Zad,Zae,Zaf,Zag,Zah,Zai,Zak,Zal,Zam,Zan,Zao,Zap,Zaq,Zav,Zaw,Zay,Zaz,Za0,Za1,Za2,Za3,Za4,Za5,Za6,Za7,Zrh,Za8,Za9,Zba,Zbb,Zbd,Zbf,Zbj,Zb1,Zb7,Zcz,Zc1,Zc3,Zc5,Zdc,Zdd,Zde,Zdi,Zev,Zew,Zex,Zez,Ze0,Ze1,Ze2,Ze3,Ze4,Ze5,Zfc,Zfd,Zfe,Zff,Zfg,Zfh,Zfi,Zfj,Zfk,Zfl,Zfn,Zfr,Zf0,Zf1,Zf3,Zf4,Zgd,Zgg,Zgv,Zg4,Zg5,Zhb,Zhc,Zhf,Zhg,Zhh,Zho,Ziq,Zir,Zis,Zit,Ziu,Ziv,Ziw,Zix,Ziz,Zi0,Zi2,Zi3,Zi7,Zjh,Zji,Zjj,Zjk,Zjn,Zjo,Zjr,Zjw,Zla,Zlb,Zle,Zlj,Zlz,Zl0,Zl1,Zl2,Zl6,Zml,Zms,Zmt,Zmv,Zmw,Zmx,Zmz,Zm3,Zm9,Zna,Znb,Zne,Znf,Zng,Znh,Znl,Znm,Znn,Zno,Znp,Znr,Zns,Znu,Znw,Znx,Zof,Zog,Zoh,Zrd,Zos,Zot,Zo3,Zo4,Zo6,Zo7,Zo8,Zo9,Zpb,Zpc,Zpo,Zpw,Zpz,Zp1,Zp2,Zp9,Zqd,Zqe,Zqf,Zqg,Zqh,Zqi,Zqk,Zql,Zqm,Zqn,Zqr,List.length_append,eq_self,true_and,and_true,Nat.zero_add,Nat.mul_one,Nat.sub_zero]
    tactic =>
    rfl
  rw [if_pos h1]
  rw [h1] at hi
  obtain ⟨W, hW⟩ : ∃ W : Nat, w - 1 = IN W := ⟨(w - 1).toNat, by have := isW_iff h1; simp only [IN]; omega⟩
  have hWb : W = 7 ∨ W = 11 := by have := isW_iff h1; simp only [IN] at hW; omega
  have hww' : IntKind.i64.wrap (w - (1 : Int)) = IN W := by rw [hW]; exact w64 _ (by simp only [IN]; omega)
  by_cases h2 : plainF n w = true
  · rw [if_pos h2]
    rw [h2] at hp
    obtain ⟨_, g1, g2⟩ := plain_most h2
    rw [hW] at g2 ⊢
    have ho := roctal_ok_own n W (by omega) g1 g2
    have hWn : (IN W).toNat = W := rfl
    rw [hWn]
    have hl := octN_length W n
    have hc := cB_length (octN W n)
    rw [hl] at hc
    have hca : cB (octN W n) ++ [Y 0] = cB (octN W n ++ [0]) := by rw [cB_append]; rfl
    refine con_j b8 rfl ?_
    sym =>
    simp [Zaa,Zab,Zad,Zae,Zaf,Zag,Zah,Zai,Zak,Zal,Zam,Zan,Zao,Zap,Zaq,Zav,Zaw,Zay,Zaz,Za0,Za1,Za2,Za3,Za4,Za5,Za6,Za7,Zrh,Za8,Za9,Zba,Zbb,Zbd,Zbf,Zbj,Zb1,Zb7,Zcz,Zc1,Zc3,Zc5,Zdc,Zdd,Zde,Zdi,Zev,Zew,Zex,Zez,Ze0,Ze1,Ze2,Ze3,Ze4,Ze5,Zfc,Zfd,Zfe,Zff,Zfg,Zfh,Zfi,Zfj,Zfk,Zfl,Zfn,Zfr,Zf0,Zf1,Zf3,Zf4,Zgd,Zgg,Zgv,Zg4,Zg5,Zhb,Zhc,Zhf,Zhg,Zhh,Zho,Ziq,Zir,Zis,Zit,Ziu,Ziv,Ziw,Zix,Ziz,Zi0,Zi2,Zi3,Zi7,Zjh,Zji,Zjj,Zjk,Zjn,Zjo,Zjr,Zjw,Zla,Zlb,Zle,Zlj,Zlz,Zl0,Zl1,Zl2,Zl6,Zml,Zms,Zmt,Zmv,Zmw,Zmx,Zmz,Zm3,Zm9,Zna,Znb,Zne,Znf,Zng,Znh,Znl,Znm,Znn,Zno,Znp,Znr,Zns,Znu,Znw,Znx,Zof,Zog,Zoh,Zrd,Zos,Zot,Zo3,Zo4,Zo6,Zo7,Zo8,Zo9,Zpb,Zpc,Zpo,Zpw,Zpz,Zp1,Zp2,Zp9,Zqd,Zqe,Zqf,Zqg,Zqh,Zqi,Zqk,Zql,Zqm,Zqn,Zqr,List.length_append,eq_self,true_and,and_true,Nat.zero_add,Nat.mul_one,Nat.sub_zero,callable_22]
    tactic =>
    refine cl none (hi) trivial ?_
    sym =>
    simp [Zaa,Zab,Zad,Zae,Zaf,Zag,Zah,Zai,Zak,Zal,Zam,Zan,Zao,Zap,Zaq,Zav,Zaw,Zay,Zaz,Za0,Za1,Za2,Za3,Za4,Za5,Za6,Za7,Zrh,Za8,Za9,Zba,Zbb,Zbd,Zbf,Zbj,Zb1,Zb7,Zcz,Zc1,Zc3,Zc5,Zdc,Zdd,Zde,Zdi,Zev,Zew,Zex,Zez,Ze0,Ze1,Ze2,Ze3,Ze4,Ze5,Zfc,Zfd,Zfe,Zff,Zfg,Zfh,Zfi,Zfj,Zfk,Zfl,Zfn,Zfr,Zf0,Zf1,Zf3,Zf4,Zgd,Zgg,Zgv,Zg4,Zg5,Zhb,Zhc,Zhf,Zhg,Zhh,Zho,Ziq,Zir,Zis,Zit,Ziu,Ziv,Ziw,Zix,Ziz,Zi0,Zi2,Zi3,Zi7,Zjh,Zji,Zjj,Zjk,Zjn,Zjo,Zjr,Zjw,Zla,Zlb,Zle,Zlj,Zlz,Zl0,Zl1,Zl2,Zl6,Zml,Zms,Zmt,Zmv,Zmw,Zmx,Zmz,Zm3,Zm9,Zna,Znb,Zne,Znf,Zng,Znh,Znl,Znm,Znn,Zno,Znp,Znr,Zns,Znu,Znw,Znx,Zof,Zog,Zoh,Zrd,Zos,Zot,Zo3,Zo4,Zo6,Zo7,Zo8,Zo9,Zpb,Zpc,Zpo,Zpw,Zpz,Zp1,Zp2,Zp9,Zqd,Zqe,Zqf,Zqg,Zqh,Zqi,Zqk,Zql,Zqm,Zqn,Zqr,List.length_append,eq_self,true_and,and_true,Nat.zero_add,Nat.mul_one,Nat.sub_zero,callable_13]
    tactic =>
    refine cl none (hp) trivial ?_
    sym =>
    simp [Zaa,Zab,Zad,Zae,Zaf,Zag,Zah,Zai,Zak,Zal,Zam,Zan,Zao,Zap,Zaq,Zav,Zaw,Zay,Zaz,Za0,Za1,Za2,Za3,Za4,Za5,Za6,Za7,Zrh,Za8,Za9,Zba,Zbb,Zbd,Zbf,Zbj,Zb1,Zb7,Zcz,Zc1,Zc3,Zc5,Zdc,Zdd,Zde,Zdi,Zev,Zew,Zex,Zez,Ze0,Ze1,Ze2,Ze3,Ze4,Ze5,Zfc,Zfd,Zfe,Zff,Zfg,Zfh,Zfi,Zfj,Zfk,Zfl,Zfn,Zfr,Zf0,Zf1,Zf3,Zf4,Zgd,Zgg,Zgv,Zg4,Zg5,Zhb,Zhc,Zhf,Zhg,Zhh,Zho,Ziq,Zir,Zis,Zit,Ziu,Ziv,Ziw,Zix,Ziz,Zi0,Zi2,Zi3,Zi7,Zjh,Zji,Zjj,Zjk,Zjn,Zjo,Zjr,Zjw,Zla,Zlb,Zle,Zlj,Zlz,Zl0,Zl1,Zl2,Zl6,Zml,Zms,Zmt,Zmv,Zmw,Zmx,Zmz,Zm3,Zm9,Zna,Znb,Zne,Znf,Zng,Znh,Znl,Znm,Znn,Zno,Znp,Znr,Zns,Znu,Znw,Znx,Zof,Zog,Zoh,Zrd,Zos,Zot,Zo3,Zo4,Zo6,Zo7,Zo8,Zo9,Zpb,Zpc,Zpo,Zpw,Zpz,Zp1,Zp2,Zp9,Zqd,Zqe,Zqf,Zqg,Zqh,Zqi,Zqk,Zql,Zqm,Zqn,Zqr,List.length_append,eq_self,true_and,and_true,Nat.zero_add,Nat.mul_one,Nat.sub_zero,hww',callable_10]
    tactic =>
    refine cl (some ⟨cB (octN W n), 1, 0⟩) ho ⟨rfl, cB_okI _⟩ ?_
    sym =>
    simp [Zaa,Zab,Zad,Zae,Zaf,Zag,Zah,Zai,Zak,Zal,Zam,Zan,Zao,Zap,Zaq,Zav,Zaw,Zay,Zaz,Za0,Za1,Za2,Za3,Za4,Za5,Za6,Za7,Zrh,Za8,Za9,Zba,Zbb,Zbd,Zbf,Zbj,Zb1,Zb7,Zcz,Zc1,Zc3,Zc5,Zdc,Zdd,Zde,Zdi,Zev,Zew,Zex,Zez,Ze0,Ze1,Ze2,Ze3,Ze4,Ze5,Zfc,Zfd,Zfe,Zff,Zfg,Zfh,Zfi,Zfj,Zfk,Zfl,Zfn,Zfr,Zf0,Zf1,Zf3,Zf4,Zgd,Zgg,Zgv,Zg4,Zg5,Zhb,Zhc,Zhf,Zhg,Zhh,Zho,Ziq,Zir,Zis,Zit,Ziu,Ziv,Ziw,Zix,Ziz,Zi0,Zi2,Zi3,Zi7,Zjh,Zji,Zjj,Zjk,Zjn,Zjo,Zjr,Zjw,Zla,Zlb,Zle,Zlj,Zlz,Zl0,Zl1,Zl2,Zl6,Zml,Zms,Zmt,Zmv,Zmw,Zmx,Zmz,Zm3,Zm9,Zna,Znb,Zne,Znf,Zng,Znh,Znl,Znm,Znn,Zno,Znp,Znr,Zns,Znu,Znw,Znx,Zof,Zog,Zoh,Zrd,Zos,Zot,Zo3,Zo4,Zo6,Zo7,Zo8,Zo9,Zpb,Zpc,Zpo,Zpw,Zpz,Zp1,Zp2,Zp9,Zqd,Zqe,Zqf,Zqg,Zqh,Zqi,Zqk,Zql,Zqm,Zqn,Zqr,List.length_append,eq_self,true_and,and_true,Nat.zero_add,Nat.mul_one,Nat.sub_zero,hc]
    tactic =>
    refine ⟨by omega, ?_⟩
    have hcl := cB_length (octN W n ++ [0])
    have hlf : (octN W n ++ [0]).length = W + 1 := by simp [hl]
    rw [hca, hl]
    refine endA ?_
    sym =>
    simp [Zaa,Zab,Zad,Zae,Zaf,Zag,Zah,Zai,Zak,Zal,Zam,Zan,Zao,Zap,Zaq,Zav,Zaw,Zay,Zaz,Za0,Za1,Za2,Za3,Za4,Za5,Za6,Za7,Zrh,Za8,Za9,Zba,Zbb,Zbd,Zbf,Zbj,Zb1,Zb7,Zcz,Zc1,Zc3,Zc5,Zdc,Zdd,Zde,Zdi,Zev,Zew,Zex,Zez,Ze0,Ze1,Ze2,Ze3,Ze4,Ze5,Zfc,Zfd,Zfe,Zff,Zfg,Zfh,Zfi,Zfj,Zfk,Zfl,Zfn,Zfr,Zf0,Zf1,Zf3,Zf4,Zgd,Zgg,Zgv,Zg4,Zg5,Zhb,Zhc,Zhf,Zhg,Zhh,Zho,Ziq,Zir,Zis,Zit,Ziu,Ziv,Ziw,Zix,Ziz,Zi0,Zi2,Zi3,Zi7,Zjh,Zji,Zjj,Zjk,Zjn,Zjo,Zjr,Zjw,Zla,Zlb,Zle,Zlj,Zlz,Zl0,Zl1,Zl2,Zl6,Zml,Zms,Zmt,Zmv,Zmw,Zmx,Zmz,Zm3,Zm9,Zna,Znb,Zne,Znf,Zng,Znh,Znl,Znm,Znn,Zno,Znp,Znr,Zns,Znu,Znw,Znx,Zof,Zog,Zoh,Zrd,Zos,Zot,Zo3,Zo4,Zo6,Zo7,Zo8,Zo9,Zpb,Zpc,Zpo,Zpw,Zpz,Zp1,Zp2,Zp9,Zqd,Zqe,Zqf,Zqg,Zqh,Zqi,Zqk,Zql,Zqm,Zqn,Zqr,List.length_append,eq_self,true_and,and_true,Nat.zero_add,Nat.mul_one,Nat.sub_zero]
    tactic =>
    exact ⟨(List.take_of_length_le (by omega)).symm, by omega, cB_okI _⟩
  rw [if_neg h2]
  have h2' : plainF n w = false := by simpa using h2
  rw [h2'] at hp
  have hwW : w = IN (W + 1) := by simp only [IN] at hW ⊢; omega
  have g5 : (0 : Int) ≤ IN (W + 1) := by simp only [IN]; omega
  have hww2 : IntKind.i64.wrap (IN (W + 1) - (1 : Int)) = IN W := by rw [← hwW]; exact hww'
  have hl := beN_length W n
  rw [hwW] at hi hp ⊢
  refine con_j b8 rfl ?_
  sym =>
  simp [Zaa,Zab,Zad,Zae,Zaf,Zag,Zah,Zai,Zak,Zal,Zam,Zan,Zao,Zap,Zaq,Zav,Zaw,Zay,Zaz,Za0,Za1,Za2,Za3,Za4,Za5,Za6,Za7,Zrh,Za8,Za9,Zba,Zbb,Zbd,Zbf,Zbj,Zb1,Zb7,Zcz,Zc1,Zc3,Zc5,Zdc,Zdd,Zde,Zdi,Zev,Zew,Zex,Zez,Ze0,Ze1,Ze2,Ze3,Ze4,Ze5,Zfc,Zfd,Zfe,Zff,Zfg,Zfh,Zfi,Zfj,Zfk,Zfl,Zfn,Zfr,Zf0,Zf1,Zf3,Zf4,Zgd,Zgg,Zgv,Zg4,Zg5,Zhb,Zhc,Zhf,Zhg,Zhh,Zho,Ziq,Zir,Zis,Zit,Ziu,Ziv,Ziw,Zix,Ziz,Zi0,Zi2,Zi3,Zi7,Zjh,Zji,Zjj,Zjk,Zjn,Zjo,Zjr,Zjw,Zla,Zlb,Zle,Zlj,Zlz,Zl0,Zl1,Zl2,Zl6,Zml,Zms,Zmt,Zmv,Zmw,Zmx,Zmz,Zm3,Zm9,Zna,Znb,Zne,Znf,Zng,Znh,Znl,Znm,Znn,Zno,Znp,Znr,Zns,Znu,Znw,Znx,Zof,Zog,Zoh,Zrd,Zos,Zot,Zo3,Zo4,Zo6,Zo7,Zo8,Zo9,Zpb,Zpc,Zpo,Zpw,Zpz,Zp1,Zp2,Zp9,Zqd,Zqe,Zqf,Zqg,Zqh,Zqi,Zqk,Zql,Zqm,Zqn,Zqr,List.length_append,eq_self,true_and,and_true,Nat.zero_add,Nat.mul_one,Nat.sub_zero,callable_22]
  tactic =>
  refine cl none (hi) trivial ?_
  sym =>
  simp [Zaa,Zab,Zad,Zae,Zaf,Zag,Zah,Zai,Zak,Zal,Zam,Zan,Zao,Zap,Zaq,Zav,Zaw,Zay,Zaz,Za0,Za1,Za2,Za3,Za4,Za5,Za6,Za7,Zrh,Za8,Za9,Zba,Zbb,Zbd,Zbf,Zbj,Zb1,Zb7,Zcz,Zc1,Zc3,Zc5,Zdc,Zdd,Zde,Zdi,Zev,Zew,Zex,Zez,Ze0,Ze1,Ze2,Ze3,Ze4,Ze5,Zfc,Zfd,Zfe,Zff,Zfg,Zfh,Zfi,Zfj,Zfk,Zfl,Zfn,Zfr,Zf0,Zf1,Zf3,Zf4,Zgd,Zgg,Zgv,Zg4,Zg5,Zhb,Zhc,Zhf,Zhg,Zhh,Zho,Ziq,Zir,Zis,Zit,Ziu,Ziv,Ziw,Zix,Ziz,Zi0,Zi2,Zi3,Zi7,Zjh,Zji,Zjj,Zjk,Zjn,Zjo,Zjr,Zjw,Zla,Zlb,Zle,Zlj,Zlz,Zl0,Zl1,Zl2,Zl6,Zml,Zms,Zmt,Zmv,Zmw,Zmx,Zmz,Zm3,Zm9,Zna,Znb,Zne,Znf,Zng,Znh,Znl,Znm,Znn,Zno,Znp,Znr,Zns,Znu,Znw,Znx,Zof,Zog,Zoh,Zrd,Zos,Zot,Zo3,Zo4,Zo6,Zo7,Zo8,Zo9,Zpb,Zpc,Zpo,Zpw,Zpz,Zp1,Zp2,Zp9,Zqd,Zqe,Zqf,Zqg,Zqh,Zqi,Zqk,Zql,Zqm,Zqn,Zqr,List.length_append,eq_self,true_and,and_true,Nat.zero_add,Nat.mul_one,Nat.sub_zero,callable_13]
  tactic =>
  refine cl none (hp) trivial ?_
  sym =>
  simp [Zaa,Zab,Zad,Zae,Zaf,Zag,Zah,Zai,Zak,Zal,Zam,Zan,Zao,Zap,Zaq,Zav,Zaw,Zay,Zaz,Za0,Za1,Za2,Za3,Za4,Za5,Za6,Za7,Zrh,Za8,Za9,Zba,Zbb,Zbd,Zbf,Zbj,Zb1,Zb7,Zcz,Zc1,Zc3,Zc5,Zdc,Zdd,Zde,Zdi,Zev,Zew,Zex,Zez,Ze0,Ze1,Ze2,Ze3,Ze4,Ze5,Zfc,Zfd,Zfe,Zff,Zfg,Zfh,Zfi,Zfj,Zfk,Zfl,Zfn,Zfr,Zf0,Zf1,Zf3,Zf4,Zgd,Zgg,Zgv,Zg4,Zg5,Zhb,Zhc,Zhf,Zhg,Zhh,Zho,Ziq,Zir,Zis,Zit,Ziu,Ziv,Ziw,Zix,Ziz,Zi0,Zi2,Zi3,Zi7,Zjh,Zji,Zjj,Zjk,Zjn,Zjo,Zjr,Zjw,Zla,Zlb,Zle,Zlj,Zlz,Zl0,Zl1,Zl2,Zl6,Zml,Zms,Zmt,Zmv,Zmw,Zmx,Zmz,Zm3,Zm9,Zna,Znb,Zne,Znf,Zng,Znh,Znl,Znm,Znn,Zno,Znp,Znr,Zns,Znu,Znw,Znx,Zof,Zog,Zoh,Zrd,Zos,Zot,Zo3,Zo4,Zo6,Zo7,Zo8,Zo9,Zpb,Zpc,Zpo,Zpw,Zpz,Zp1,Zp2,Zp9,Zqd,Zqe,Zqf,Zqg,Zqh,Zqi,Zqk,Zql,Zqm,Zqn,Zqr,List.length_append,eq_self,true_and,and_true,Nat.zero_add,Nat.mul_one,Nat.sub_zero,hww2,g5]
  tactic =>
  refine ⟨⟨Nat.le_refl _, by simp only [IN]; omega⟩, ?_⟩
  refine lpA (i8 n w W) W [(0, 9)] _ ⟨0, by omega, rfl⟩ (wkA ?_) ?_
  · have e0 : bak (beN W n) W 0 = List.replicate W 0 := by rw [bak, Nat.sub_zero, List.drop_of_length_le (by omega), List.append_nil]
    have e1 : cB (0 :: List.replicate W 0) = List.replicate (W + 1) (Y 0) := by rw [List.replicate_succ]; simp [cB]
    rw [e0, e1]
    sym =>
    simp [Zaa,Zab,Zad,Zae,Zaf,Zag,Zah,Zai,Zak,Zal,Zam,Zan,Zao,Zap,Zaq,Zav,Zaw,Zay,Zaz,Za0,Za1,Za2,Za3,Za4,Za5,Za6,Za7,Zrh,Za8,Za9,Zba,Zbb,Zbd,Zbf,Zbj,Zb1,Zb7,Zcz,Zc1,Zc3,Zc5,Zdc,Zdd,Zde,Zdi,Zev,Zew,Zex,Zez,Ze0,Ze1,Ze2,Ze3,Ze4,Ze5,Zfc,Zfd,Zfe,Zff,Zfg,Zfh,Zfi,Zfj,Zfk,Zfl,Zfn,Zfr,Zf0,Zf1,Zf3,Zf4,Zgd,Zgg,Zgv,Zg4,Zg5,Zhb,Zhc,Zhf,Zhg,Zhh,Zho,Ziq,Zir,Zis,Zit,Ziu,Ziv,Ziw,Zix,Ziz,Zi0,Zi2,Zi3,Zi7,Zjh,Zji,Zjj,Zjk,Zjn,Zjo,Zjr,Zjw,Zla,Zlb,Zle,Zlj,Zlz,Zl0,Zl1,Zl2,Zl6,Zml,Zms,Zmt,Zmv,Zmw,Zmx,Zmz,Zm3,Zm9,Zna,Znb,Zne,Znf,Zng,Znh,Znl,Znm,Znn,Zno,Znp,Znr,Zns,Znu,Znw,Znx,Zof,Zog,Zoh,Zrd,Zos,Zot,Zo3,Zo4,Zo6,Zo7,Zo8,Zo9,Zpb,Zpc,Zpo,Zpw,Zpz,Zp1,Zp2,Zp9,Zqd,Zqe,Zqf,Zqg,Zqh,Zqi,Zqk,Zql,Zqm,Zqn,Zqr,List.length_append,eq_self,true_and,and_true,Nat.zero_add,Nat.mul_one,Nat.sub_zero]
    tactic =>
    exact ⟨⟨by simp, by show IN W = IN W - ((0 : Nat) : Int); omega⟩, rs_self (by intro x hx; rw [List.eq_of_mem_replicate hx]; rfl)⟩
  rintro k s ⟨j, hj, rfl⟩
  have hbl := bak_length (beN W n) W j hl (by omega)
  have hcl : (cB (0 :: bak (beN W n) W j)).length = W + 1 := by rw [cB_length, List.length_cons, hbl]
  by_cases h : j < W
  · have hI : IN W - (j : Int) > 0 := by simp only [IN]; omega
    have hw1 := w64 (IN W - (j : Int) - 1) (by simp only [IN]; omega)
    have hd : n / 256 ^ (j + 1) = n / 256 ^ j / 256 := by rw [Int.pow_succ, Int.ediv_ediv_of_nonneg (Int.le_of_lt (Int.pow_pos (by decide)))]
    have hg := beN_get W n (W - 1 - j) (by omega)
    rw [show W - 1 - (W - 1 - j) = j from by omega] at hg
    have hst := bak_step (beN W n) W j hl h
    rw [hg] at hst
    have hr : -9223372036854775808 ≤ n / 256 ^ j ∧ n / 256 ^ j ≤ 9223372036854775807 := by
      have hp : (0 : Int) < 256 ^ j := Int.pow_pos (by decide)
      by_cases h0 : 0 ≤ n
      · have := Int.ediv_nonneg h0 (Int.le_of_lt hp)
        have := Int.ediv_le_self (256 ^ j) h0
        omega
      · have a1 : n ≤ n / 256 ^ j := by
          rw [Int.le_ediv_iff_mul_le hp]
          have : n * 256 ^ j ≤ n * 1 := Int.mul_le_mul_of_nonpos_left (by omega) (by omega)
          omega
        have a2 : n / 256 ^ j < 0 := Int.ediv_neg_of_neg_of_pos (by omega) hp
        omega
    obtain ⟨x, hx⟩ : ∃ x, x = n / 256 ^ j := ⟨_, rfl⟩
    rw [← hx] at hd hst hr ⊢
    have hlo := low_con x hr
    have hfo := floor_con x hr
    have hix : (IN W - (j : Int)).toNat = W - j := by simp only [IN]; omega
    have hlt : IN W - (j : Int) < IN (W + 1) := by simp only [IN]; omega
    have hse : (cB (0 :: bak (beN W n) W j)).set (W - j) (Y (x % 256)) = cB (0 :: bak (beN W n) W (j + 1)) := by
      rw [cB_set, show W - j = (W - 1 - j) + 1 from by omega, List.set_cons_succ, hst]
    sym =>
    simp [Zaa,Zab,Zad,Zae,Zaf,Zag,Zah,Zai,Zak,Zal,Zam,Zan,Zao,Zap,Zaq,Zav,Zaw,Zay,Zaz,Za0,Za1,Za2,Za3,Za4,Za5,Za6,Za7,Zrh,Za8,Za9,Zba,Zbb,Zbd,Zbf,Zbj,Zb1,Zb7,Zcz,Zc1,Zc3,Zc5,Zdc,Zdd,Zde,Zdi,Zev,Zew,Zex,Zez,Ze0,Ze1,Ze2,Ze3,Ze4,Ze5,Zfc,Zfd,Zfe,Zff,Zfg,Zfh,Zfi,Zfj,Zfk,Zfl,Zfn,Zfr,Zf0,Zf1,Zf3,Zf4,Zgd,Zgg,Zgv,Zg4,Zg5,Zhb,Zhc,Zhf,Zhg,Zhh,Zho,Ziq,Zir,Zis,Zit,Ziu,Ziv,Ziw,Zix,Ziz,Zi0,Zi2,Zi3,Zi7,Zjh,Zji,Zjj,Zjk,Zjn,Zjo,Zjr,Zjw,Zla,Zlb,Zle,Zlj,Zlz,Zl0,Zl1,Zl2,Zl6,Zml,Zms,Zmt,Zmv,Zmw,Zmx,Zmz,Zm3,Zm9,Zna,Znb,Zne,Znf,Zng,Znh,Znl,Znm,Znn,Zno,Znp,Znr,Zns,Znu,Znw,Znx,Zof,Zog,Zoh,Zrd,Zos,Zot,Zo3,Zo4,Zo6,Zo7,Zo8,Zo9,Zpb,Zpc,Zpo,Zpw,Zpz,Zp1,Zp2,Zp9,Zqd,Zqe,Zqf,Zqg,Zqh,Zqi,Zqk,Zql,Zqm,Zqn,Zqr,List.length_append,eq_self,true_and,and_true,Nat.zero_add,Nat.mul_one,Nat.sub_zero,hI,callable_23]
    tactic =>
    refine cl none (hlo) trivial ?_
    sym =>
    simp [Zaa,Zab,Zad,Zae,Zaf,Zag,Zah,Zai,Zak,Zal,Zam,Zan,Zao,Zap,Zaq,Zav,Zaw,Zay,Zaz,Za0,Za1,Za2,Za3,Za4,Za5,Za6,Za7,Zrh,Za8,Za9,Zba,Zbb,Zbd,Zbf,Zbj,Zb1,Zb7,Zcz,Zc1,Zc3,Zc5,Zdc,Zdd,Zde,Zdi,Zev,Zew,Zex,Zez,Ze0,Ze1,Ze2,Ze3,Ze4,Ze5,Zfc,Zfd,Zfe,Zff,Zfg,Zfh,Zfi,Zfj,Zfk,Zfl,Zfn,Zfr,Zf0,Zf1,Zf3,Zf4,Zgd,Zgg,Zgv,Zg4,Zg5,Zhb,Zhc,Zhf,Zhg,Zhh,Zho,Ziq,Zir,Zis,Zit,Ziu,Ziv,Ziw,Zix,Ziz,Zi0,Zi2,Zi3,Zi7,Zjh,Zji,Zjj,Zjk,Zjn,Zjo,Zjr,Zjw,Zla,Zlb,Zle,Zlj,Zlz,Zl0,Zl1,Zl2,Zl6,Zml,Zms,Zmt,Zmv,Zmw,Zmx,Zmz,Zm3,Zm9,Zna,Znb,Zne,Znf,Zng,Znh,Znl,Znm,Znn,Zno,Znp,Znr,Zns,Znu,Znw,Znx,Zof,Zog,Zoh,Zrd,Zos,Zot,Zo3,Zo4,Zo6,Zo7,Zo8,Zo9,Zpb,Zpc,Zpo,Zpw,Zpz,Zp1,Zp2,Zp9,Zqd,Zqe,Zqf,Zqg,Zqh,Zqi,Zqk,Zql,Zqm,Zqn,Zqr,List.length_append,eq_self,true_and,and_true,Nat.zero_add,Nat.mul_one,Nat.sub_zero,hix,hlt,callable_24]
    tactic =>
    and_intros <;> try (first | omega | rfl | assumption | simp only [IN]; omega)
    refine cl none (hfo) trivial ?_
    sym =>
    simp [Zaa,Zab,Zad,Zae,Zaf,Zag,Zah,Zai,Zak,Zal,Zam,Zan,Zao,Zap,Zaq,Zav,Zaw,Zay,Zaz,Za0,Za1,Za2,Za3,Za4,Za5,Za6,Za7,Zrh,Za8,Za9,Zba,Zbb,Zbd,Zbf,Zbj,Zb1,Zb7,Zcz,Zc1,Zc3,Zc5,Zdc,Zdd,Zde,Zdi,Zev,Zew,Zex,Zez,Ze0,Ze1,Ze2,Ze3,Ze4,Ze5,Zfc,Zfd,Zfe,Zff,Zfg,Zfh,Zfi,Zfj,Zfk,Zfl,Zfn,Zfr,Zf0,Zf1,Zf3,Zf4,Zgd,Zgg,Zgv,Zg4,Zg5,Zhb,Zhc,Zhf,Zhg,Zhh,Zho,Ziq,Zir,Zis,Zit,Ziu,Ziv,Ziw,Zix,Ziz,Zi0,Zi2,Zi3,Zi7,Zjh,Zji,Zjj,Zjk,Zjn,Zjo,Zjr,Zjw,Zla,Zlb,Zle,Zlj,Zlz,Zl0,Zl1,Zl2,Zl6,Zml,Zms,Zmt,Zmv,Zmw,Zmx,Zmz,Zm3,Zm9,Zna,Znb,Zne,Znf,Zng,Znh,Znl,Znm,Znn,Zno,Znp,Znr,Zns,Znu,Znw,Znx,Zof,Zog,Zoh,Zrd,Zos,Zot,Zo3,Zo4,Zo6,Zo7,Zo8,Zo9,Zpb,Zpc,Zpo,Zpw,Zpz,Zp1,Zp2,Zp9,Zqd,Zqe,Zqf,Zqg,Zqh,Zqi,Zqk,Zql,Zqm,Zqn,Zqr,List.length_append,eq_self,true_and,and_true,Nat.zero_add,Nat.mul_one,Nat.sub_zero,hw1,hse]
    tactic =>
    unfold NextL; refine ⟨(k - 1), [(0, 0)], _, by omega, ⟨j + 1, by omega, rfl⟩, wkA ?_⟩
    sym =>
    simp [Zaa,Zab,Zad,Zae,Zaf,Zag,Zah,Zai,Zak,Zal,Zam,Zan,Zao,Zap,Zaq,Zav,Zaw,Zay,Zaz,Za0,Za1,Za2,Za3,Za4,Za5,Za6,Za7,Zrh,Za8,Za9,Zba,Zbb,Zbd,Zbf,Zbj,Zb1,Zb7,Zcz,Zc1,Zc3,Zc5,Zdc,Zdd,Zde,Zdi,Zev,Zew,Zex,Zez,Ze0,Ze1,Ze2,Ze3,Ze4,Ze5,Zfc,Zfd,Zfe,Zff,Zfg,Zfh,Zfi,Zfj,Zfk,Zfl,Zfn,Zfr,Zf0,Zf1,Zf3,Zf4,Zgd,Zgg,Zgv,Zg4,Zg5,Zhb,Zhc,Zhf,Zhg,Zhh,Zho,Ziq,Zir,Zis,Zit,Ziu,Ziv,Ziw,Zix,Ziz,Zi0,Zi2,Zi3,Zi7,Zjh,Zji,Zjj,Zjk,Zjn,Zjo,Zjr,Zjw,Zla,Zlb,Zle,Zlj,Zlz,Zl0,Zl1,Zl2,Zl6,Zml,Zms,Zmt,Zmv,Zmw,Zmx,Zmz,Zm3,Zm9,Zna,Znb,Zne,Znf,Zng,Znh,Znl,Znm,Znn,Zno,Znp,Znr,Zns,Znu,Znw,Znx,Zof,Zog,Zoh,Zrd,Zos,Zot,Zo3,Zo4,Zo6,Zo7,Zo8,Zo9,Zpb,Zpc,Zpo,Zpw,Zpz,Zp1,Zp2,Zp9,Zqd,Zqe,Zqf,Zqg,Zqh,Zqi,Zqk,Zql,Zqm,Zqn,Zqr,List.length_append,eq_self,true_and,and_true,Nat.zero_add,Nat.mul_one,Nat.sub_zero]
    tactic =>
    rw [hd]
    refine ⟨⟨rfl, by show IN W - (j : Int) - 1 = IN W - ((j + 1 : Nat) : Int); omega⟩, rs_self (cB_okI _)⟩
  · obtain rfl : j = W := by omega
    have hI : ¬ IN j - (j : Int) > 0 := by simp only [IN]; omega
    have eb : bak (beN j n) j j = beN j n := by simp [bak]
    have hbase : baseF n (IN (j + 1)) = if n / 256 ^ j = sgn n then ((if n < 0 then 255 else 128) :: beN j n, 0) else ([], 10) := by
      unfold baseF
      rcases hWb with rfl | rfl
      · rw [if_pos (show IN (7 + 1) = 8 from rfl)]; rfl
      · rw [if_neg (show ¬ IN (11 + 1) = 8 by simp only [IN]; omega), if_pos (big_shift n hn 11 (by decide))]
    rw [hbase, eb]
    rw [eb] at hcl
    obtain ⟨x, hx⟩ : ∃ x, x = n / 256 ^ j := ⟨_, rfl⟩
    rw [← hx]
    have h00 : (0 : Int) < IN (j + 1) := by simp only [IN]; omega
    have s1 : (cB (0 :: beN j n)).set 0 (Y 128) = cB (128 :: beN j n) := by rw [cB_set]; rfl
    have s2 : (cB (128 :: beN j n)).set 0 (Y 255) = cB (255 :: beN j n) := by rw [cB_set]; rfl
    have c1 : (cB (128 :: beN j n)).length = j + 1 := by rw [cB_length, List.length_cons, hl]
    have c2 : (cB (255 :: beN j n)).length = j + 1 := by rw [cB_length, List.length_cons, hl]
    by_cases h0 : n < 0
    · rw [if_pos h0]
      have hs : sgn n = -1 := if_pos h0
      have h0' : ¬ n ≥ 0 := by omega
      rw [hs]
      by_cases hx1 : x = -1
      · rw [if_pos hx1]
        sym =>
        simp [Zaa,Zab,Zad,Zae,Zaf,Zag,Zah,Zai,Zak,Zal,Zam,Zan,Zao,Zap,Zaq,Zav,Zaw,Zay,Zaz,Za0,Za1,Za2,Za3,Za4,Za5,Za6,Za7,Zrh,Za8,Za9,Zba,Zbb,Zbd,Zbf,Zbj,Zb1,Zb7,Zcz,Zc1,Zc3,Zc5,Zdc,Zdd,Zde,Zdi,Zev,Zew,Zex,Zez,Ze0,Ze1,Ze2,Ze3,Ze4,Ze5,Zfc,Zfd,Zfe,Zff,Zfg,Zfh,Zfi,Zfj,Zfk,Zfl,Zfn,Zfr,Zf0,Zf1,Zf3,Zf4,Zgd,Zgg,Zgv,Zg4,Zg5,Zhb,Zhc,Zhf,Zhg,Zhh,Zho,Ziq,Zir,Zis,Zit,Ziu,Ziv,Ziw,Zix,Ziz,Zi0,Zi2,Zi3,Zi7,Zjh,Zji,Zjj,Zjk,Zjn,Zjo,Zjr,Zjw,Zla,Zlb,Zle,Zlj,Zlz,Zl0,Zl1,Zl2,Zl6,Zml,Zms,Zmt,Zmv,Zmw,Zmx,Zmz,Zm3,Zm9,Zna,Znb,Zne,Znf,Zng,Znh,Znl,Znm,Znn,Zno,Znp,Znr,Zns,Znu,Znw,Znx,Zof,Zog,Zoh,Zrd,Zos,Zot,Zo3,Zo4,Zo6,Zo7,Zo8,Zo9,Zpb,Zpc,Zpo,Zpw,Zpz,Zp1,Zp2,Zp9,Zqd,Zqe,Zqf,Zqg,Zqh,Zqi,Zqk,Zql,Zqm,Zqn,Zqr,List.length_append,eq_self,true_and,and_true,Nat.zero_add,Nat.mul_one,Nat.sub_zero,hI,h00,s1,s2,h0,h0',hx1]
        tactic =>
        and_intros <;> try (first | omega | rfl | assumption | simp only [IN]; omega)
        refine endA ?_
        sym =>
        simp [Zaa,Zab,Zad,Zae,Zaf,Zag,Zah,Zai,Zak,Zal,Zam,Zan,Zao,Zap,Zaq,Zav,Zaw,Zay,Zaz,Za0,Za1,Za2,Za3,Za4,Za5,Za6,Za7,Zrh,Za8,Za9,Zba,Zbb,Zbd,Zbf,Zbj,Zb1,Zb7,Zcz,Zc1,Zc3,Zc5,Zdc,Zdd,Zde,Zdi,Zev,Zew,Zex,Zez,Ze0,Ze1,Ze2,Ze3,Ze4,Ze5,Zfc,Zfd,Zfe,Zff,Zfg,Zfh,Zfi,Zfj,Zfk,Zfl,Zfn,Zfr,Zf0,Zf1,Zf3,Zf4,Zgd,Zgg,Zgv,Zg4,Zg5,Zhb,Zhc,Zhf,Zhg,Zhh,Zho,Ziq,Zir,Zis,Zit,Ziu,Ziv,Ziw,Zix,Ziz,Zi0,Zi2,Zi3,Zi7,Zjh,Zji,Zjj,Zjk,Zjn,Zjo,Zjr,Zjw,Zla,Zlb,Zle,Zlj,Zlz,Zl0,Zl1,Zl2,Zl6,Zml,Zms,Zmt,Zmv,Zmw,Zmx,Zmz,Zm3,Zm9,Zna,Znb,Zne,Znf,Zng,Znh,Znl,Znm,Znn,Zno,Znp,Znr,Zns,Znu,Znw,Znx,Zof,Zog,Zoh,Zrd,Zos,Zot,Zo3,Zo4,Zo6,Zo7,Zo8,Zo9,Zpb,Zpc,Zpo,Zpw,Zpz,Zp1,Zp2,Zp9,Zqd,Zqe,Zqf,Zqg,Zqh,Zqi,Zqk,Zql,Zqm,Zqn,Zqr,List.length_append,eq_self,true_and,and_true,Nat.zero_add,Nat.mul_one,Nat.sub_zero]
        tactic =>
        exact ⟨by omega, (List.take_of_length_le (by omega)).symm, by omega, cB_okI _⟩
      · rw [if_neg hx1]
        sym =>
        simp [Zaa,Zab,Zad,Zae,Zaf,Zag,Zah,Zai,Zak,Zal,Zam,Zan,Zao,Zap,Zaq,Zav,Zaw,Zay,Zaz,Za0,Za1,Za2,Za3,Za4,Za5,Za6,Za7,Zrh,Za8,Za9,Zba,Zbb,Zbd,Zbf,Zbj,Zb1,Zb7,Zcz,Zc1,Zc3,Zc5,Zdc,Zdd,Zde,Zdi,Zev,Zew,Zex,Zez,Ze0,Ze1,Ze2,Ze3,Ze4,Ze5,Zfc,Zfd,Zfe,Zff,Zfg,Zfh,Zfi,Zfj,Zfk,Zfl,Zfn,Zfr,Zf0,Zf1,Zf3,Zf4,Zgd,Zgg,Zgv,Zg4,Zg5,Zhb,Zhc,Zhf,Zhg,Zhh,Zho,Ziq,Zir,Zis,Zit,Ziu,Ziv,Ziw,Zix,Ziz,Zi0,Zi2,Zi3,Zi7,Zjh,Zji,Zjj,Zjk,Zjn,Zjo,Zjr,Zjw,Zla,Zlb,Zle,Zlj,Zlz,Zl0,Zl1,Zl2,Zl6,Zml,Zms,Zmt,Zmv,Zmw,Zmx,Zmz,Zm3,Zm9,Zna,Znb,Zne,Znf,Zng,Znh,Znl,Znm,Znn,Zno,Znp,Znr,Zns,Znu,Znw,Znx,Zof,Zog,Zoh,Zrd,Zos,Zot,Zo3,Zo4,Zo6,Zo7,Zo8,Zo9,Zpb,Zpc,Zpo,Zpw,Zpz,Zp1,Zp2,Zp9,Zqd,Zqe,Zqf,Zqg,Zqh,Zqi,Zqk,Zql,Zqm,Zqn,Zqr,List.length_append,eq_self,true_and,and_true,Nat.zero_add,Nat.mul_one,Nat.sub_zero,hI,h00,s1,s2,h0,h0',hx1]
        tactic =>
        and_intros <;> try (first | omega | rfl | assumption | simp only [IN]; omega)
        refine endA ?_
        sym =>
        simp [Zaa,Zab,Zad,Zae,Zaf,Zag,Zah,Zai,Zak,Zal,Zam,Zan,Zao,Zap,Zaq,Zav,Zaw,Zay,Zaz,Za0,Za1,Za2,Za3,Za4,Za5,Za6,Za7,Zrh,Za8,Za9,Zba,Zbb,Zbd,Zbf,Zbj,Zb1,Zb7,Zcz,Zc1,Zc3,Zc5,Zdc,Zdd,Zde,Zdi,Zev,Zew,Zex,Zez,Ze0,Ze1,Ze2,Ze3,Ze4,Ze5,Zfc,Zfd,Zfe,Zff,Zfg,Zfh,Zfi,Zfj,Zfk,Zfl,Zfn,Zfr,Zf0,Zf1,Zf3,Zf4,Zgd,Zgg,Zgv,Zg4,Zg5,Zhb,Zhc,Zhf,Zhg,Zhh,Zho,Ziq,Zir,Zis,Zit,Ziu,Ziv,Ziw,Zix,Ziz,Zi0,Zi2,Zi3,Zi7,Zjh,Zji,Zjj,Zjk,Zjn,Zjo,Zjr,Zjw,Zla,Zlb,Zle,Zlj,Zlz,Zl0,Zl1,Zl2,Zl6,Zml,Zms,Zmt,Zmv,Zmw,Zmx,Zmz,Zm3,Zm9,Zna,Znb,Zne,Znf,Zng,Znh,Znl,Znm,Znn,Zno,Znp,Znr,Zns,Znu,Znw,Znx,Zof,Zog,Zoh,Zrd,Zos,Zot,Zo3,Zo4,Zo6,Zo7,Zo8,Zo9,Zpb,Zpc,Zpo,Zpw,Zpz,Zp1,Zp2,Zp9,Zqd,Zqe,Zqf,Zqg,Zqh,Zqi,Zqk,Zql,Zqm,Zqn,Zqr,List.length_append,eq_self,true_and,and_true,Nat.zero_add,Nat.mul_one,Nat.sub_zero]
        tactic =>
        rfl
    · rw [if_neg h0]
      have hs : sgn n = 0 := if_neg h0
      have h0' : n ≥ 0 := by omega
      rw [hs]
      by_cases hx1 : x = 0
      · rw [if_pos hx1]
        sym =>
        simp [Zaa,Zab,Zad,Zae,Zaf,Zag,Zah,Zai,Zak,Zal,Zam,Zan,Zao,Zap,Zaq,Zav,Zaw,Zay,Zaz,Za0,Za1,Za2,Za3,Za4,Za5,Za6,Za7,Zrh,Za8,Za9,Zba,Zbb,Zbd,Zbf,Zbj,Zb1,Zb7,Zcz,Zc1,Zc3,Zc5,Zdc,Zdd,Zde,Zdi,Zev,Zew,Zex,Zez,Ze0,Ze1,Ze2,Ze3,Ze4,Ze5,Zfc,Zfd,Zfe,Zff,Zfg,Zfh,Zfi,Zfj,Zfk,Zfl,Zfn,Zfr,Zf0,Zf1,Zf3,Zf4,Zgd,Zgg,Zgv,Zg4,Zg5,Zhb,Zhc,Zhf,Zhg,Zhh,Zho,Ziq,Zir,Zis,Zit,Ziu,Ziv,Ziw,Zix,Ziz,Zi0,Zi2,Zi3,Zi7,Zjh,Zji,Zjj,Zjk,Zjn,Zjo,Zjr,Zjw,Zla,Zlb,Zle,Zlj,Zlz,Zl0,Zl1,Zl2,Zl6,Zml,Zms,Zmt,Zmv,Zmw,Zmx,Zmz,Zm3,Zm9,Zna,Znb,Zne,Znf,Zng,Znh,Znl,Znm,Znn,Zno,Znp,Znr,Zns,Znu,Znw,Znx,Zof,Zog,Zoh,Zrd,Zos,Zot,Zo3,Zo4,Zo6,Zo7,Zo8,Zo9,Zpb,Zpc,Zpo,Zpw,Zpz,Zp1,Zp2,Zp9,Zqd,Zqe,Zqf,Zqg,Zqh,Zqi,Zqk,Zql,Zqm,Zqn,Zqr,List.length_append,eq_self,true_and,and_true,Nat.zero_add,Nat.mul_one,Nat.sub_zero,hI,h00,s1,h0,h0',hx1]
        tactic =>
        and_intros <;> try (first | omega | rfl | assumption | simp only [IN]; omega)
        refine endA ?_
        sym =>
        simp [Zaa,Zab,Zad,Zae,Zaf,Zag,Zah,Zai,Zak,Zal,Zam,Zan,Zao,Zap,Zaq,Zav,Zaw,Zay,Zaz,Za0,Za1,Za2,Za3,Za4,Za5,Za6,Za7,Zrh,Za8,Za9,Zba,Zbb,Zbd,Zbf,Zbj,Zb1,Zb7,Zcz,Zc1,Zc3,Zc5,Zdc,Zdd,Zde,Zdi,Zev,Zew,Zex,Zez,Ze0,Ze1,Ze2,Ze3,Ze4,Ze5,Zfc,Zfd,Zfe,Zff,Zfg,Zfh,Zfi,Zfj,Zfk,Zfl,Zfn,Zfr,Zf0,Zf1,Zf3,Zf4,Zgd,Zgg,Zgv,Zg4,Zg5,Zhb,Zhc,Zhf,Zhg,Zhh,Zho,Ziq,Zir,Zis,Zit,Ziu,Ziv,Ziw,Zix,Ziz,Zi0,Zi2,Zi3,Zi7,Zjh,Zji,Zjj,Zjk,Zjn,Zjo,Zjr,Zjw,Zla,Zlb,Zle,Zlj,Zlz,Zl0,Zl1,Zl2,Zl6,Zml,Zms,Zmt,Zmv,Zmw,Zmx,Zmz,Zm3,Zm9,Zna,Znb,Zne,Znf,Zng,Znh,Znl,Znm,Znn,Zno,Znp,Znr,Zns,Znu,Znw,Znx,Zof,Zog,Zoh,Zrd,Zos,Zot,Zo3,Zo4,Zo6,Zo7,Zo8,Zo9,Zpb,Zpc,Zpo,Zpw,Zpz,Zp1,Zp2,Zp9,Zqd,Zqe,Zqf,Zqg,Zqh,Zqi,Zqk,Zql,Zqm,Zqn,Zqr,List.length_append,eq_self,true_and,and_true,Nat.zero_add,Nat.mul_one,Nat.sub_zero]
        tactic =>
        exact ⟨by omega, (List.take_of_length_le (by omega)).symm, by omega, cB_okI _⟩
      · rw [if_neg hx1]
        sym =>
        simp [Zaa,Zab,Zad,Zae,Zaf,Zag,Zah,Zai,Zak,Zal,Zam,Zan,Zao,Zap,Zaq,Zav,Zaw,Zay,Zaz,Za0,Za1,Za2,Za3,Za4,Za5,Za6,Za7,Zrh,Za8,Za9,Zba,Zbb,Zbd,Zbf,Zbj,Zb1,Zb7,Zcz,Zc1,Zc3,Zc5,Zdc,Zdd,Zde,Zdi,Zev,Zew,Zex,Zez,Ze0,Ze1,Ze2,Ze3,Ze4,Ze5,Zfc,Zfd,Zfe,Zff,Zfg,Zfh,Zfi,Zfj,Zfk,Zfl,Zfn,Zfr,Zf0,Zf1,Zf3,Zf4,Zgd,Zgg,Zgv,Zg4,Zg5,Zhb,Zhc,Zhf,Zhg,Zhh,Zho,Ziq,Zir,Zis,Zit,Ziu,Ziv,Ziw,Zix,Ziz,Zi0,Zi2,Zi3,Zi7,Zjh,Zji,Zjj,Zjk,Zjn,Zjo,Zjr,Zjw,Zla,Zlb,Zle,Zlj,Zlz,Zl0,Zl1,Zl2,Zl6,Zml,Zms,Zmt,Zmv,Zmw,Zmx,Zmz,Zm3,Zm9,Zna,Znb,Zne,Znf,Zng,Znh,Znl,Znm,Znn,Zno,Znp,Znr,Zns,Znu,Znw,Znx,Zof,Zog,Zoh,Zrd,Zos,Zot,Zo3,Zo4,Zo6,Zo7,Zo8,Zo9,Zpb,Zpc,Zpo,Zpw,Zpz,Zp1,Zp2,Zp9,Zqd,Zqe,Zqf,Zqg,Zqh,Zqi,Zqk,Zql,Zqm,Zqn,Zqr,List.length_append,eq_self,true_and,and_true,Nat.zero_add,Nat.mul_one,Nat.sub_zero,hI,h00,s1,h0,h0',hx1]
        tactic =>
        and_intros <;> try (first | omega | rfl | assumption | simp only [IN]; omega)
        refine endA ?_
        sym =>
        simp [Zaa,Zab,Zad,Zae,Zaf,Zag,Zah,Zai,Zak,Zal,Zam,Zan,Zao,Zap,Zaq,Zav,Zaw,Zay,Zaz,Za0,Za1,Za2,Za3,Za4,Za5,Za6,Za7,Zrh,Za8,Za9,Zba,Zbb,Zbd,Zbf,Zbj,Zb1,Zb7,Zcz,Zc1,Zc3,Zc5,Zdc,Zdd,Zde,Zdi,Zev,Zew,Zex,Zez,Ze0,Ze1,Ze2,Ze3,Ze4,Ze5,Zfc,Zfd,Zfe,Zff,Zfg,Zfh,Zfi,Zfj,Zfk,Zfl,Zfn,Zfr,Zf0,Zf1,Zf3,Zf4,Zgd,Zgg,Zgv,Zg4,Zg5,Zhb,Zhc,Zhf,Zhg,Zhh,Zho,Ziq,Zir,Zis,Zit,Ziu,Ziv,Ziw,Zix,Ziz,Zi0,Zi2,Zi3,Zi7,Zjh,Zji,Zjj,Zjk,Zjn,Zjo,Zjr,Zjw,Zla,Zlb,Zle,Zlj,Zlz,Zl0,Zl1,Zl2,Zl6,Zml,Zms,Zmt,Zmv,Zmw,Zmx,Zmz,Zm3,Zm9,Zna,Znb,Zne,Znf,Zng,Znh,Znl,Znm,Znn,Zno,Znp,Znr,Zns,Znu,Znw,Znx,Zof,Zog,Zoh,Zrd,Zos,Zot,Zo3,Zo4,Zo6,Zo7,Zo8,Zo9,Zpb,Zpc,Zpo,Zpw,Zpz,Zp1,Zp2,Zp9,Zqd,Zqe,Zqf,Zqg,Zqh,Zqi,Zqk,Zql,Zqm,Zqn,Zqr,List.length_append,eq_self,true_and,and_true,Nat.zero_add,Nat.mul_one,Nat.sub_zero]
        tactic =>
        rfl
end Go.Proofs.YthhccabdlajngaaDoor.NumB
