import Derived.Test.YthhccabdlajngaaDoorNumA
namespace Go.Proofs.YthhccabdlajngaaDoor.NumB
open Go Go.Sim Go.Sim.E Go.RowKit Go.Proofs Go.Proofs.YthhccabdlajngaaDoor.Cod Go.Proofs.YthhccabdlajngaaDoor.Tab Go.Proofs.YthhccabdlajngaaDoor.Bse Go.Proofs.YthhccabdlajngaaDoor.NumA
set_option linter.unusedVariables false
set_option linter.unusedSimpArgs false
set_option maxRecDepth 100000
set_option maxHeartbeats 4000000
theorem big_shift (n : Int) (hn : -9223372036854775808 ≤ n ∧ n ≤ 9223372036854775807) (s : Nat) (h : 8 ≤ s) : n / 256 ^ s = sgn n := by
  have h8 : n / 256 ^ 8 = sgn n := by
    have e : (256 : Int) ^ 8 = 18446744073709551616 := by decide
    rw [e]
    unfold sgn
    split <;> omega
  obtain ⟨d, rfl⟩ : ∃ d, s = 8 + d := ⟨s - 8, by omega⟩
  rw [Int.pow_add, ← Int.ediv_ediv_of_nonneg (Int.le_of_lt (Int.pow_pos (by decide))), h8]
  have hp : (0 : Int) < 256 ^ d := Int.pow_pos (by decide)
  unfold sgn
  split
  · exact Int.ediv_eq_neg_one_of_neg_of_le (by decide) (by omega)
  · exact Int.zero_ediv _
/-- A byte of a number. -/
theorem byte_at (n : Int) (hn : -9223372036854775808 ≤ n ∧ n ≤ 9223372036854775807) (s : Nat) : IntKind.u8.wrap (n.fdiv (2 ^ (min (8 * s) 63))) = n / 256 ^ s % 256 := by
  rw [Int.fdiv_eq_ediv_of_nonneg _ (Int.le_of_lt (Int.pow_pos (by decide))), w8u]
  by_cases h : s < 8
  · rw [show min (8 * s) 63 = 8 * s from by omega, show (2 : Int) ^ (8 * s) = 256 ^ s from by rw [Int.pow_mul]; rfl]
  · rw [show min (8 * s) 63 = 63 from by omega, big_shift n hn s (by omega)]
    have e : (2 : Int) ^ 63 = 9223372036854775808 := by decide
    rw [e]
    unfold sgn
    split <;> omega
def i21 (n f : Int) (W : Nat) (k : Nat) (s : St) : Prop := ∃ i : Nat, i + k = W ∧ s = ⟨[(0, I n), (8, .lv 0 0 (1 + i)), (9, I (IN W - 1 - (i : Int)))], [(0, ⟨cB ((f :: beN W n).take (1 + i)), 1, 0⟩)], 1⟩
theorem base_con (n w : Int) (hn : -9223372036854775808 ≤ n ∧ n ≤ 9223372036854775807) (hw : w = 8 ∨ w = 12) : Con Tryd.prog 21 [] [I n, I w] [] (.tu [fB (baseF n w).1, I (baseF n w).2]) := by
  unfold baseF
  have hsg : n.fdiv (2 ^ 63) = sgn n := by
    rw [Int.fdiv_eq_ediv_of_nonneg _ (by decide)]
    unfold sgn
    split <;> omega
  have h56 : n.fdiv (2 ^ 56) = n / 72057594037927936 := by
    rw [Int.fdiv_eq_ediv_of_nonneg _ (by decide)]; rfl
  have b63 : min 63 IntKind.i64.bits = 63 := by decide
  have b56 : min 56 IntKind.i64.bits = 56 := by decide
  have n56 : (56 : Int).toNat = 56 := rfl
  have v1 : IntKind.i64.wrap (7 : Int) = 7 := by decide
  have v2 : IntKind.i64.wrap (56 : Int) = 56 := by decide
  have v3 : IntKind.i64.wrap (6 : Int) = 6 := by decide
  have v4 : IntKind.i64.wrap (11 : Int) = 11 := by decide
  have v5 : IntKind.i64.wrap (88 : Int) = 88 := by decide
  have v6 : IntKind.i64.wrap (10 : Int) = 10 := by decide
  have lit : (2 : Int) ^ 56 = 72057594037927936 ∧ (2 : Int) ^ 63 = 9223372036854775808 := by decide
  rw [lit.2] at hsg
  rw [lit.1] at h56
  rcases hw with rfl | rfl
  · rw [if_pos rfl]
    by_cases h : n / 72057594037927936 = sgn n
    rotate_left
    · rw [if_neg h]
      by_cases h0 : n < 0
      · refine con_j b21 rfl ?_
        sym =>
        simp [Zaa,Zab,Zad,Zae,Zaf,Zag,Zah,Zai,Zak,Zal,Zam,Zan,Zao,Zap,Zaq,Zav,Zaw,Zay,Zaz,Za0,Za1,Za2,Za3,Za4,Za5,Za6,Za7,Za8,Za9,Zba,Zbb,Zbd,Zbf,Zbl,Zct,Zcz,Zc5,Zev,Zew,Zex,Zez,Ze0,Ze2,Ze3,Ze4,Ze5,Zfc,Zfd,Zfe,Zff,Zfg,Zfh,Zfi,Zfk,Zfl,Zfn,Zfp,Zfr,Zfs,Zf0,Zf1,Zf4,Zgh,Zgi,Zhf,Zhg,Zhh,Zif,Zig,Zik,Zil,Zim,Ziq,Zir,Zix,Ziz,Zi0,Zi2,Zi3,Zi7,Zjj,Zjk,Zjo,Zmt,Zmv,Zmw,Zmx,Zmz,Zm3,Zna,Znb,Znf,Zng,Znh,Znl,Znm,Znn,Zno,Znp,Znr,Zof,Zog,Zrd,Zos,Zot,Zou,Zow,Zo7,Zo8,Zo9,Zpb,Zpc,Zpo,Zpw,Zpz,Zp1,Zp2,Zp9,Zqd,Zqe,Zqf,Zqg,Zqh,Zqi,Zqk,Zql,Zqm,Zqn,Zqr,eq_self,true_and,and_true,Nat.zero_add,Nat.mul_one,h0,v1,v2,v3,b63,b56,n56]
        tactic =>
        rw [hsg, h56, if_pos h]
        sym =>
        simp [Zaa,Zab,Zad,Zae,Zaf,Zag,Zah,Zai,Zak,Zal,Zam,Zan,Zao,Zap,Zaq,Zav,Zaw,Zay,Zaz,Za0,Za1,Za2,Za3,Za4,Za5,Za6,Za7,Za8,Za9,Zba,Zbb,Zbd,Zbf,Zbl,Zct,Zcz,Zc5,Zev,Zew,Zex,Zez,Ze0,Ze2,Ze3,Ze4,Ze5,Zfc,Zfd,Zfe,Zff,Zfg,Zfh,Zfi,Zfk,Zfl,Zfn,Zfp,Zfr,Zfs,Zf0,Zf1,Zf4,Zgh,Zgi,Zhf,Zhg,Zhh,Zif,Zig,Zik,Zil,Zim,Ziq,Zir,Zix,Ziz,Zi0,Zi2,Zi3,Zi7,Zjj,Zjk,Zjo,Zmt,Zmv,Zmw,Zmx,Zmz,Zm3,Zna,Znb,Znf,Zng,Znh,Znl,Znm,Znn,Zno,Znp,Znr,Zof,Zog,Zrd,Zos,Zot,Zou,Zow,Zo7,Zo8,Zo9,Zpb,Zpc,Zpo,Zpw,Zpz,Zp1,Zp2,Zp9,Zqd,Zqe,Zqf,Zqg,Zqh,Zqi,Zqk,Zql,Zqm,Zqn,Zqr,eq_self,true_and,and_true,Nat.zero_add,Nat.mul_one]
        tactic =>
        refine endA ?_
        sym =>
        simp [Zaa,Zab,Zad,Zae,Zaf,Zag,Zah,Zai,Zak,Zal,Zam,Zan,Zao,Zap,Zaq,Zav,Zaw,Zay,Zaz,Za0,Za1,Za2,Za3,Za4,Za5,Za6,Za7,Za8,Za9,Zba,Zbb,Zbd,Zbf,Zbl,Zct,Zcz,Zc5,Zev,Zew,Zex,Zez,Ze0,Ze2,Ze3,Ze4,Ze5,Zfc,Zfd,Zfe,Zff,Zfg,Zfh,Zfi,Zfk,Zfl,Zfn,Zfp,Zfr,Zfs,Zf0,Zf1,Zf4,Zgh,Zgi,Zhf,Zhg,Zhh,Zif,Zig,Zik,Zil,Zim,Ziq,Zir,Zix,Ziz,Zi0,Zi2,Zi3,Zi7,Zjj,Zjk,Zjo,Zmt,Zmv,Zmw,Zmx,Zmz,Zm3,Zna,Znb,Znf,Zng,Znh,Znl,Znm,Znn,Zno,Znp,Znr,Zof,Zog,Zrd,Zos,Zot,Zou,Zow,Zo7,Zo8,Zo9,Zpb,Zpc,Zpo,Zpw,Zpz,Zp1,Zp2,Zp9,Zqd,Zqe,Zqf,Zqg,Zqh,Zqi,Zqk,Zql,Zqm,Zqn,Zqr,eq_self,true_and,and_true,Nat.zero_add,Nat.mul_one]
        tactic =>
        rfl
      · refine con_j b21 rfl ?_
        sym =>
        simp [Zaa,Zab,Zad,Zae,Zaf,Zag,Zah,Zai,Zak,Zal,Zam,Zan,Zao,Zap,Zaq,Zav,Zaw,Zay,Zaz,Za0,Za1,Za2,Za3,Za4,Za5,Za6,Za7,Za8,Za9,Zba,Zbb,Zbd,Zbf,Zbl,Zct,Zcz,Zc5,Zev,Zew,Zex,Zez,Ze0,Ze2,Ze3,Ze4,Ze5,Zfc,Zfd,Zfe,Zff,Zfg,Zfh,Zfi,Zfk,Zfl,Zfn,Zfp,Zfr,Zfs,Zf0,Zf1,Zf4,Zgh,Zgi,Zhf,Zhg,Zhh,Zif,Zig,Zik,Zil,Zim,Ziq,Zir,Zix,Ziz,Zi0,Zi2,Zi3,Zi7,Zjj,Zjk,Zjo,Zmt,Zmv,Zmw,Zmx,Zmz,Zm3,Zna,Znb,Znf,Zng,Znh,Znl,Znm,Znn,Zno,Znp,Znr,Zof,Zog,Zrd,Zos,Zot,Zou,Zow,Zo7,Zo8,Zo9,Zpb,Zpc,Zpo,Zpw,Zpz,Zp1,Zp2,Zp9,Zqd,Zqe,Zqf,Zqg,Zqh,Zqi,Zqk,Zql,Zqm,Zqn,Zqr,eq_self,true_and,and_true,Nat.zero_add,Nat.mul_one,h0,v1,v2,v3,b63,b56,n56]
        tactic =>
        rw [hsg, h56, if_pos h]
        sym =>
        simp [Zaa,Zab,Zad,Zae,Zaf,Zag,Zah,Zai,Zak,Zal,Zam,Zan,Zao,Zap,Zaq,Zav,Zaw,Zay,Zaz,Za0,Za1,Za2,Za3,Za4,Za5,Za6,Za7,Za8,Za9,Zba,Zbb,Zbd,Zbf,Zbl,Zct,Zcz,Zc5,Zev,Zew,Zex,Zez,Ze0,Ze2,Ze3,Ze4,Ze5,Zfc,Zfd,Zfe,Zff,Zfg,Zfh,Zfi,Zfk,Zfl,Zfn,Zfp,Zfr,Zfs,Zf0,Zf1,Zf4,Zgh,Zgi,Zhf,Zhg,Zhh,Zif,Zig,Zik,Zil,Zim,Ziq,Zir,Zix,Ziz,Zi0,Zi2,Zi3,Zi7,Zjj,Zjk,Zjo,Zmt,Zmv,Zmw,Zmx,Zmz,Zm3,Zna,Znb,Znf,Zng,Znh,Znl,Znm,Znn,Zno,Znp,Znr,Zof,Zog,Zrd,Zos,Zot,Zou,Zow,Zo7,Zo8,Zo9,Zpb,Zpc,Zpo,Zpw,Zpz,Zp1,Zp2,Zp9,Zqd,Zqe,Zqf,Zqg,Zqh,Zqi,Zqk,Zql,Zqm,Zqn,Zqr,eq_self,true_and,and_true,Nat.zero_add,Nat.mul_one]
        tactic =>
        refine endA ?_
        sym =>
        simp [Zaa,Zab,Zad,Zae,Zaf,Zag,Zah,Zai,Zak,Zal,Zam,Zan,Zao,Zap,Zaq,Zav,Zaw,Zay,Zaz,Za0,Za1,Za2,Za3,Za4,Za5,Za6,Za7,Za8,Za9,Zba,Zbb,Zbd,Zbf,Zbl,Zct,Zcz,Zc5,Zev,Zew,Zex,Zez,Ze0,Ze2,Ze3,Ze4,Ze5,Zfc,Zfd,Zfe,Zff,Zfg,Zfh,Zfi,Zfk,Zfl,Zfn,Zfp,Zfr,Zfs,Zf0,Zf1,Zf4,Zgh,Zgi,Zhf,Zhg,Zhh,Zif,Zig,Zik,Zil,Zim,Ziq,Zir,Zix,Ziz,Zi0,Zi2,Zi3,Zi7,Zjj,Zjk,Zjo,Zmt,Zmv,Zmw,Zmx,Zmz,Zm3,Zna,Znb,Znf,Zng,Znh,Znl,Znm,Znn,Zno,Znp,Znr,Zof,Zog,Zrd,Zos,Zot,Zou,Zow,Zo7,Zo8,Zo9,Zpb,Zpc,Zpo,Zpw,Zpz,Zp1,Zp2,Zp9,Zqd,Zqe,Zqf,Zqg,Zqh,Zqi,Zqk,Zql,Zqm,Zqn,Zqr,eq_self,true_and,and_true,Nat.zero_add,Nat.mul_one]
        tactic =>
        rfl
    · rw [if_pos h]
      obtain ⟨W, hW⟩ : ∃ W, W = 7 := ⟨_, rfl⟩
      by_cases h0 : n < 0
      · rw [if_pos h0, ← hW]
        obtain ⟨f, hf⟩ : ∃ f : Int, f = 255 := ⟨_, rfl⟩
        refine con_j b21 rfl ?_
        sym =>
        simp [Zaa,Zab,Zad,Zae,Zaf,Zag,Zah,Zai,Zak,Zal,Zam,Zan,Zao,Zap,Zaq,Zav,Zaw,Zay,Zaz,Za0,Za1,Za2,Za3,Za4,Za5,Za6,Za7,Za8,Za9,Zba,Zbb,Zbd,Zbf,Zbl,Zct,Zcz,Zc5,Zev,Zew,Zex,Zez,Ze0,Ze2,Ze3,Ze4,Ze5,Zfc,Zfd,Zfe,Zff,Zfg,Zfh,Zfi,Zfk,Zfl,Zfn,Zfp,Zfr,Zfs,Zf0,Zf1,Zf4,Zgh,Zgi,Zhf,Zhg,Zhh,Zif,Zig,Zik,Zil,Zim,Ziq,Zir,Zix,Ziz,Zi0,Zi2,Zi3,Zi7,Zjj,Zjk,Zjo,Zmt,Zmv,Zmw,Zmx,Zmz,Zm3,Zna,Znb,Znf,Zng,Znh,Znl,Znm,Znn,Zno,Znp,Znr,Zof,Zog,Zrd,Zos,Zot,Zou,Zow,Zo7,Zo8,Zo9,Zpb,Zpc,Zpo,Zpw,Zpz,Zp1,Zp2,Zp9,Zqd,Zqe,Zqf,Zqg,Zqh,Zqi,Zqk,Zql,Zqm,Zqn,Zqr,eq_self,true_and,and_true,Nat.zero_add,Nat.mul_one,h0,v1,v2,v3,b63,b56,n56]
        tactic =>
        rw [hsg, h56, if_neg (fun e => e h)]
        sym =>
        simp [Zaa,Zab,Zad,Zae,Zaf,Zag,Zah,Zai,Zak,Zal,Zam,Zan,Zao,Zap,Zaq,Zav,Zaw,Zay,Zaz,Za0,Za1,Za2,Za3,Za4,Za5,Za6,Za7,Za8,Za9,Zba,Zbb,Zbd,Zbf,Zbl,Zct,Zcz,Zc5,Zev,Zew,Zex,Zez,Ze0,Ze2,Ze3,Ze4,Ze5,Zfc,Zfd,Zfe,Zff,Zfg,Zfh,Zfi,Zfk,Zfl,Zfn,Zfp,Zfr,Zfs,Zf0,Zf1,Zf4,Zgh,Zgi,Zhf,Zhg,Zhh,Zif,Zig,Zik,Zil,Zim,Ziq,Zir,Zix,Ziz,Zi0,Zi2,Zi3,Zi7,Zjj,Zjk,Zjo,Zmt,Zmv,Zmw,Zmx,Zmz,Zm3,Zna,Znb,Znf,Zng,Znh,Znl,Znm,Znn,Zno,Znp,Znr,Zof,Zog,Zrd,Zos,Zot,Zou,Zow,Zo7,Zo8,Zo9,Zpb,Zpc,Zpo,Zpw,Zpz,Zp1,Zp2,Zp9,Zqd,Zqe,Zqf,Zqg,Zqh,Zqi,Zqk,Zql,Zqm,Zqn,Zqr,eq_self,true_and,and_true,Nat.zero_add,Nat.mul_one,v3]
        tactic =>
        rw [← hf]
        refine lpA (i21 n f W) W [(0, 21)] _ ⟨0, by omega, rfl⟩ (wkA ?_) ?_
        · sym =>
          simp [Zaa,Zab,Zad,Zae,Zaf,Zag,Zah,Zai,Zak,Zal,Zam,Zan,Zao,Zap,Zaq,Zav,Zaw,Zay,Zaz,Za0,Za1,Za2,Za3,Za4,Za5,Za6,Za7,Za8,Za9,Zba,Zbb,Zbd,Zbf,Zbl,Zct,Zcz,Zc5,Zev,Zew,Zex,Zez,Ze0,Ze2,Ze3,Ze4,Ze5,Zfc,Zfd,Zfe,Zff,Zfg,Zfh,Zfi,Zfk,Zfl,Zfn,Zfp,Zfr,Zfs,Zf0,Zf1,Zf4,Zgh,Zgi,Zhf,Zhg,Zhh,Zif,Zig,Zik,Zil,Zim,Ziq,Zir,Zix,Ziz,Zi0,Zi2,Zi3,Zi7,Zjj,Zjk,Zjo,Zmt,Zmv,Zmw,Zmx,Zmz,Zm3,Zna,Znb,Znf,Zng,Znh,Znl,Znm,Znn,Zno,Znp,Znr,Zof,Zog,Zrd,Zos,Zot,Zou,Zow,Zo7,Zo8,Zo9,Zpb,Zpc,Zpo,Zpw,Zpz,Zp1,Zp2,Zp9,Zqd,Zqe,Zqf,Zqg,Zqh,Zqi,Zqk,Zql,Zqm,Zqn,Zqr,eq_self,true_and,and_true,Nat.zero_add,Nat.mul_one]
          tactic =>
          refine ⟨by rw [hW]; rfl, cB_rs _ _ _ _ _ rfl⟩
        rintro k s ⟨i, hi, rfl⟩
        have hle : (f :: beN W n).length = 1 + W := by rw [List.length_cons, beN_length]; omega
        by_cases hlt : i < W
        · have hI : IN W - 1 - (i : Int) ≥ 0 := by simp only [IN]; omega
          have hww := w64 (IN W - 1 - (i : Int) - 1) (by simp only [IN]; omega)
          have hmu := w64 (8 * (IN W - 1 - (i : Int))) (by simp only [IN]; omega)
          have hm0 : (0 : Int) ≤ min (8 * (IN W - 1 - (i : Int))) 63 := by simp only [IN]; omega
          have hby := byte_at n hn (W - 1 - i)
          have hbe := beN_get W n i hlt
          have hst := take_stepD (f :: beN W n) (1 + i) (by omega)
          have hgd : (f :: beN W n).getD (1 + i) 0 = n / 256 ^ (W - 1 - i) % 256 := by rw [← hbe, Nat.add_comm]; rfl
          rw [hgd, ← hby] at hst
          have hmn : min (min (8 * (IN W - 1 - (i : Int))) 63).toNat IntKind.i64.bits = min (8 * (W - 1 - i)) 63 := by simp only [IN, IntKind.bits]; omega
          have hcl := cB_length ((f :: beN W n).take (1 + i))
          rw [List.length_take] at hcl
          sym =>
          simp [Zaa,Zab,Zad,Zae,Zaf,Zag,Zah,Zai,Zak,Zal,Zam,Zan,Zao,Zap,Zaq,Zav,Zaw,Zay,Zaz,Za0,Za1,Za2,Za3,Za4,Za5,Za6,Za7,Za8,Za9,Zba,Zbb,Zbd,Zbf,Zbl,Zct,Zcz,Zc5,Zev,Zew,Zex,Zez,Ze0,Ze2,Ze3,Ze4,Ze5,Zfc,Zfd,Zfe,Zff,Zfg,Zfh,Zfi,Zfk,Zfl,Zfn,Zfp,Zfr,Zfs,Zf0,Zf1,Zf4,Zgh,Zgi,Zhf,Zhg,Zhh,Zif,Zig,Zik,Zil,Zim,Ziq,Zir,Zix,Ziz,Zi0,Zi2,Zi3,Zi7,Zjj,Zjk,Zjo,Zmt,Zmv,Zmw,Zmx,Zmz,Zm3,Zna,Znb,Znf,Zng,Znh,Znl,Znm,Znn,Zno,Znp,Znr,Zof,Zog,Zrd,Zos,Zot,Zou,Zow,Zo7,Zo8,Zo9,Zpb,Zpc,Zpo,Zpw,Zpz,Zp1,Zp2,Zp9,Zqd,Zqe,Zqf,Zqg,Zqh,Zqi,Zqk,Zql,Zqm,Zqn,Zqr,eq_self,true_and,and_true,Nat.zero_add,Nat.mul_one,hI,hww,hmu,hm0]
          tactic =>
          rw [hmn]
          refine ⟨⟨by omega, by omega, by omega, by omega⟩, ?_⟩
          unfold NextL; refine ⟨(k - 1), [(0, 11)], _, by omega, ⟨i + 1, by omega, rfl⟩, wkA ?_⟩
          sym =>
          simp [Zaa,Zab,Zad,Zae,Zaf,Zag,Zah,Zai,Zak,Zal,Zam,Zan,Zao,Zap,Zaq,Zav,Zaw,Zay,Zaz,Za0,Za1,Za2,Za3,Za4,Za5,Za6,Za7,Za8,Za9,Zba,Zbb,Zbd,Zbf,Zbl,Zct,Zcz,Zc5,Zev,Zew,Zex,Zez,Ze0,Ze2,Ze3,Ze4,Ze5,Zfc,Zfd,Zfe,Zff,Zfg,Zfh,Zfi,Zfk,Zfl,Zfn,Zfp,Zfr,Zfs,Zf0,Zf1,Zf4,Zgh,Zgi,Zhf,Zhg,Zhh,Zif,Zig,Zik,Zil,Zim,Ziq,Zir,Zix,Ziz,Zi0,Zi2,Zi3,Zi7,Zjj,Zjk,Zjo,Zmt,Zmv,Zmw,Zmx,Zmz,Zm3,Zna,Znb,Znf,Zng,Znh,Znl,Znm,Znn,Zno,Znp,Znr,Zof,Zog,Zrd,Zos,Zot,Zou,Zow,Zo7,Zo8,Zo9,Zpb,Zpc,Zpo,Zpw,Zpz,Zp1,Zp2,Zp9,Zqd,Zqe,Zqf,Zqg,Zqh,Zqi,Zqk,Zql,Zqm,Zqn,Zqr,eq_self,true_and,and_true,Nat.zero_add,Nat.mul_one]
          tactic =>
          refine ⟨⟨by omega, by show IN W - 1 - (i : Int) - 1 = IN W - 1 - ((i + 1 : Nat) : Int); omega⟩, cB_rs _ _ _ _ _ ?_⟩
          rw [← Nat.add_assoc, hst, cB_append]
          rfl
        · have hI : ¬ IN W - 1 - (i : Int) ≥ 0 := by simp only [IN]; omega
          obtain rfl : i = W := by omega
          have e : (f :: beN i n).take (1 + i) = f :: beN i n := List.take_of_length_le (by omega)
          rw [e]
          sym =>
          simp [Zaa,Zab,Zad,Zae,Zaf,Zag,Zah,Zai,Zak,Zal,Zam,Zan,Zao,Zap,Zaq,Zav,Zaw,Zay,Zaz,Za0,Za1,Za2,Za3,Za4,Za5,Za6,Za7,Za8,Za9,Zba,Zbb,Zbd,Zbf,Zbl,Zct,Zcz,Zc5,Zev,Zew,Zex,Zez,Ze0,Ze2,Ze3,Ze4,Ze5,Zfc,Zfd,Zfe,Zff,Zfg,Zfh,Zfi,Zfk,Zfl,Zfn,Zfp,Zfr,Zfs,Zf0,Zf1,Zf4,Zgh,Zgi,Zhf,Zhg,Zhh,Zif,Zig,Zik,Zil,Zim,Ziq,Zir,Zix,Ziz,Zi0,Zi2,Zi3,Zi7,Zjj,Zjk,Zjo,Zmt,Zmv,Zmw,Zmx,Zmz,Zm3,Zna,Znb,Znf,Zng,Znh,Znl,Znm,Znn,Zno,Znp,Znr,Zof,Zog,Zrd,Zos,Zot,Zou,Zow,Zo7,Zo8,Zo9,Zpb,Zpc,Zpo,Zpw,Zpz,Zp1,Zp2,Zp9,Zqd,Zqe,Zqf,Zqg,Zqh,Zqi,Zqk,Zql,Zqm,Zqn,Zqr,eq_self,true_and,and_true,Nat.zero_add,Nat.mul_one,hI]
          tactic =>
          refine endA ?_
          sym =>
          simp [Zaa,Zab,Zad,Zae,Zaf,Zag,Zah,Zai,Zak,Zal,Zam,Zan,Zao,Zap,Zaq,Zav,Zaw,Zay,Zaz,Za0,Za1,Za2,Za3,Za4,Za5,Za6,Za7,Za8,Za9,Zba,Zbb,Zbd,Zbf,Zbl,Zct,Zcz,Zc5,Zev,Zew,Zex,Zez,Ze0,Ze2,Ze3,Ze4,Ze5,Zfc,Zfd,Zfe,Zff,Zfg,Zfh,Zfi,Zfk,Zfl,Zfn,Zfp,Zfr,Zfs,Zf0,Zf1,Zf4,Zgh,Zgi,Zhf,Zhg,Zhh,Zif,Zig,Zik,Zil,Zim,Ziq,Zir,Zix,Ziz,Zi0,Zi2,Zi3,Zi7,Zjj,Zjk,Zjo,Zmt,Zmv,Zmw,Zmx,Zmz,Zm3,Zna,Znb,Znf,Zng,Znh,Znl,Znm,Znn,Zno,Znp,Znr,Zof,Zog,Zrd,Zos,Zot,Zou,Zow,Zo7,Zo8,Zo9,Zpb,Zpc,Zpo,Zpw,Zpz,Zp1,Zp2,Zp9,Zqd,Zqe,Zqf,Zqg,Zqh,Zqi,Zqk,Zql,Zqm,Zqn,Zqr,eq_self,true_and,and_true,Nat.zero_add,Nat.mul_one]
          tactic =>
          have hcl := cB_length (f :: beN i n)
          exact ⟨by rw [beN_length]; omega, (List.take_of_length_le (by omega)).symm, by omega, cB_okI _⟩
      · rw [if_neg h0, ← hW]
        obtain ⟨f, hf⟩ : ∃ f : Int, f = 128 := ⟨_, rfl⟩
        refine con_j b21 rfl ?_
        sym =>
        simp [Zaa,Zab,Zad,Zae,Zaf,Zag,Zah,Zai,Zak,Zal,Zam,Zan,Zao,Zap,Zaq,Zav,Zaw,Zay,Zaz,Za0,Za1,Za2,Za3,Za4,Za5,Za6,Za7,Za8,Za9,Zba,Zbb,Zbd,Zbf,Zbl,Zct,Zcz,Zc5,Zev,Zew,Zex,Zez,Ze0,Ze2,Ze3,Ze4,Ze5,Zfc,Zfd,Zfe,Zff,Zfg,Zfh,Zfi,Zfk,Zfl,Zfn,Zfp,Zfr,Zfs,Zf0,Zf1,Zf4,Zgh,Zgi,Zhf,Zhg,Zhh,Zif,Zig,Zik,Zil,Zim,Ziq,Zir,Zix,Ziz,Zi0,Zi2,Zi3,Zi7,Zjj,Zjk,Zjo,Zmt,Zmv,Zmw,Zmx,Zmz,Zm3,Zna,Znb,Znf,Zng,Znh,Znl,Znm,Znn,Zno,Znp,Znr,Zof,Zog,Zrd,Zos,Zot,Zou,Zow,Zo7,Zo8,Zo9,Zpb,Zpc,Zpo,Zpw,Zpz,Zp1,Zp2,Zp9,Zqd,Zqe,Zqf,Zqg,Zqh,Zqi,Zqk,Zql,Zqm,Zqn,Zqr,eq_self,true_and,and_true,Nat.zero_add,Nat.mul_one,h0,v1,v2,v3,b63,b56,n56]
        tactic =>
        rw [hsg, h56, if_neg (fun e => e h)]
        sym =>
        simp [Zaa,Zab,Zad,Zae,Zaf,Zag,Zah,Zai,Zak,Zal,Zam,Zan,Zao,Zap,Zaq,Zav,Zaw,Zay,Zaz,Za0,Za1,Za2,Za3,Za4,Za5,Za6,Za7,Za8,Za9,Zba,Zbb,Zbd,Zbf,Zbl,Zct,Zcz,Zc5,Zev,Zew,Zex,Zez,Ze0,Ze2,Ze3,Ze4,Ze5,Zfc,Zfd,Zfe,Zff,Zfg,Zfh,Zfi,Zfk,Zfl,Zfn,Zfp,Zfr,Zfs,Zf0,Zf1,Zf4,Zgh,Zgi,Zhf,Zhg,Zhh,Zif,Zig,Zik,Zil,Zim,Ziq,Zir,Zix,Ziz,Zi0,Zi2,Zi3,Zi7,Zjj,Zjk,Zjo,Zmt,Zmv,Zmw,Zmx,Zmz,Zm3,Zna,Znb,Znf,Zng,Znh,Znl,Znm,Znn,Zno,Znp,Znr,Zof,Zog,Zrd,Zos,Zot,Zou,Zow,Zo7,Zo8,Zo9,Zpb,Zpc,Zpo,Zpw,Zpz,Zp1,Zp2,Zp9,Zqd,Zqe,Zqf,Zqg,Zqh,Zqi,Zqk,Zql,Zqm,Zqn,Zqr,eq_self,true_and,and_true,Nat.zero_add,Nat.mul_one,v3]
        tactic =>
        rw [← hf]
        refine lpA (i21 n f W) W [(0, 20)] _ ⟨0, by omega, rfl⟩ (wkA ?_) ?_
        · sym =>
          simp [Zaa,Zab,Zad,Zae,Zaf,Zag,Zah,Zai,Zak,Zal,Zam,Zan,Zao,Zap,Zaq,Zav,Zaw,Zay,Zaz,Za0,Za1,Za2,Za3,Za4,Za5,Za6,Za7,Za8,Za9,Zba,Zbb,Zbd,Zbf,Zbl,Zct,Zcz,Zc5,Zev,Zew,Zex,Zez,Ze0,Ze2,Ze3,Ze4,Ze5,Zfc,Zfd,Zfe,Zff,Zfg,Zfh,Zfi,Zfk,Zfl,Zfn,Zfp,Zfr,Zfs,Zf0,Zf1,Zf4,Zgh,Zgi,Zhf,Zhg,Zhh,Zif,Zig,Zik,Zil,Zim,Ziq,Zir,Zix,Ziz,Zi0,Zi2,Zi3,Zi7,Zjj,Zjk,Zjo,Zmt,Zmv,Zmw,Zmx,Zmz,Zm3,Zna,Znb,Znf,Zng,Znh,Znl,Znm,Znn,Zno,Znp,Znr,Zof,Zog,Zrd,Zos,Zot,Zou,Zow,Zo7,Zo8,Zo9,Zpb,Zpc,Zpo,Zpw,Zpz,Zp1,Zp2,Zp9,Zqd,Zqe,Zqf,Zqg,Zqh,Zqi,Zqk,Zql,Zqm,Zqn,Zqr,eq_self,true_and,and_true,Nat.zero_add,Nat.mul_one]
          tactic =>
          refine ⟨by rw [hW]; rfl, cB_rs _ _ _ _ _ rfl⟩
        rintro k s ⟨i, hi, rfl⟩
        have hle : (f :: beN W n).length = 1 + W := by rw [List.length_cons, beN_length]; omega
        by_cases hlt : i < W
        · have hI : IN W - 1 - (i : Int) ≥ 0 := by simp only [IN]; omega
          have hww := w64 (IN W - 1 - (i : Int) - 1) (by simp only [IN]; omega)
          have hmu := w64 (8 * (IN W - 1 - (i : Int))) (by simp only [IN]; omega)
          have hm0 : (0 : Int) ≤ min (8 * (IN W - 1 - (i : Int))) 63 := by simp only [IN]; omega
          have hby := byte_at n hn (W - 1 - i)
          have hbe := beN_get W n i hlt
          have hst := take_stepD (f :: beN W n) (1 + i) (by omega)
          have hgd : (f :: beN W n).getD (1 + i) 0 = n / 256 ^ (W - 1 - i) % 256 := by rw [← hbe, Nat.add_comm]; rfl
          rw [hgd, ← hby] at hst
          have hmn : min (min (8 * (IN W - 1 - (i : Int))) 63).toNat IntKind.i64.bits = min (8 * (W - 1 - i)) 63 := by simp only [IN, IntKind.bits]; omega
          have hcl := cB_length ((f :: beN W n).take (1 + i))
          rw [List.length_take] at hcl
          sym =>
          simp [Zaa,Zab,Zad,Zae,Zaf,Zag,Zah,Zai,Zak,Zal,Zam,Zan,Zao,Zap,Zaq,Zav,Zaw,Zay,Zaz,Za0,Za1,Za2,Za3,Za4,Za5,Za6,Za7,Za8,Za9,Zba,Zbb,Zbd,Zbf,Zbl,Zct,Zcz,Zc5,Zev,Zew,Zex,Zez,Ze0,Ze2,Ze3,Ze4,Ze5,Zfc,Zfd,Zfe,Zff,Zfg,Zfh,Zfi,Zfk,Zfl,Zfn,Zfp,Zfr,Zfs,Zf0,Zf1,Zf4,Zgh,Zgi,Zhf,Zhg,Zhh,Zif,Zig,Zik,Zil,Zim,Ziq,Zir,Zix,Ziz,Zi0,Zi2,Zi3,Zi7,Zjj,Zjk,Zjo,Zmt,Zmv,Zmw,Zmx,Zmz,Zm3,Zna,Znb,Znf,Zng,Znh,Znl,Znm,Znn,Zno,Znp,Znr,Zof,Zog,Zrd,Zos,Zot,Zou,Zow,Zo7,Zo8,Zo9,Zpb,Zpc,Zpo,Zpw,Zpz,Zp1,Zp2,Zp9,Zqd,Zqe,Zqf,Zqg,Zqh,Zqi,Zqk,Zql,Zqm,Zqn,Zqr,eq_self,true_and,and_true,Nat.zero_add,Nat.mul_one,hI,hww,hmu,hm0]
          tactic =>
          rw [hmn]
          refine ⟨⟨by omega, by omega, by omega, by omega⟩, ?_⟩
          unfold NextL; refine ⟨(k - 1), [(0, 11)], _, by omega, ⟨i + 1, by omega, rfl⟩, wkA ?_⟩
          sym =>
          simp [Zaa,Zab,Zad,Zae,Zaf,Zag,Zah,Zai,Zak,Zal,Zam,Zan,Zao,Zap,Zaq,Zav,Zaw,Zay,Zaz,Za0,Za1,Za2,Za3,Za4,Za5,Za6,Za7,Za8,Za9,Zba,Zbb,Zbd,Zbf,Zbl,Zct,Zcz,Zc5,Zev,Zew,Zex,Zez,Ze0,Ze2,Ze3,Ze4,Ze5,Zfc,Zfd,Zfe,Zff,Zfg,Zfh,Zfi,Zfk,Zfl,Zfn,Zfp,Zfr,Zfs,Zf0,Zf1,Zf4,Zgh,Zgi,Zhf,Zhg,Zhh,Zif,Zig,Zik,Zil,Zim,Ziq,Zir,Zix,Ziz,Zi0,Zi2,Zi3,Zi7,Zjj,Zjk,Zjo,Zmt,Zmv,Zmw,Zmx,Zmz,Zm3,Zna,Znb,Znf,Zng,Znh,Znl,Znm,Znn,Zno,Znp,Znr,Zof,Zog,Zrd,Zos,Zot,Zou,Zow,Zo7,Zo8,Zo9,Zpb,Zpc,Zpo,Zpw,Zpz,Zp1,Zp2,Zp9,Zqd,Zqe,Zqf,Zqg,Zqh,Zqi,Zqk,Zql,Zqm,Zqn,Zqr,eq_self,true_and,and_true,Nat.zero_add,Nat.mul_one]
          tactic =>
          refine ⟨⟨by omega, by show IN W - 1 - (i : Int) - 1 = IN W - 1 - ((i + 1 : Nat) : Int); omega⟩, cB_rs _ _ _ _ _ ?_⟩
          rw [← Nat.add_assoc, hst, cB_append]
          rfl
        · have hI : ¬ IN W - 1 - (i : Int) ≥ 0 := by simp only [IN]; omega
          obtain rfl : i = W := by omega
          have e : (f :: beN i n).take (1 + i) = f :: beN i n := List.take_of_length_le (by omega)
          rw [e]
          sym =>
          simp [Zaa,Zab,Zad,Zae,Zaf,Zag,Zah,Zai,Zak,Zal,Zam,Zan,Zao,Zap,Zaq,Zav,Zaw,Zay,Zaz,Za0,Za1,Za2,Za3,Za4,Za5,Za6,Za7,Za8,Za9,Zba,Zbb,Zbd,Zbf,Zbl,Zct,Zcz,Zc5,Zev,Zew,Zex,Zez,Ze0,Ze2,Ze3,Ze4,Ze5,Zfc,Zfd,Zfe,Zff,Zfg,Zfh,Zfi,Zfk,Zfl,Zfn,Zfp,Zfr,Zfs,Zf0,Zf1,Zf4,Zgh,Zgi,Zhf,Zhg,Zhh,Zif,Zig,Zik,Zil,Zim,Ziq,Zir,Zix,Ziz,Zi0,Zi2,Zi3,Zi7,Zjj,Zjk,Zjo,Zmt,Zmv,Zmw,Zmx,Zmz,Zm3,Zna,Znb,Znf,Zng,Znh,Znl,Znm,Znn,Zno,Znp,Znr,Zof,Zog,Zrd,Zos,Zot,Zou,Zow,Zo7,Zo8,Zo9,Zpb,Zpc,Zpo,Zpw,Zpz,Zp1,Zp2,Zp9,Zqd,Zqe,Zqf,Zqg,Zqh,Zqi,Zqk,Zql,Zqm,Zqn,Zqr,eq_self,true_and,and_true,Nat.zero_add,Nat.mul_one,hI]
          tactic =>
          refine endA ?_
          sym =>
          simp [Zaa,Zab,Zad,Zae,Zaf,Zag,Zah,Zai,Zak,Zal,Zam,Zan,Zao,Zap,Zaq,Zav,Zaw,Zay,Zaz,Za0,Za1,Za2,Za3,Za4,Za5,Za6,Za7,Za8,Za9,Zba,Zbb,Zbd,Zbf,Zbl,Zct,Zcz,Zc5,Zev,Zew,Zex,Zez,Ze0,Ze2,Ze3,Ze4,Ze5,Zfc,Zfd,Zfe,Zff,Zfg,Zfh,Zfi,Zfk,Zfl,Zfn,Zfp,Zfr,Zfs,Zf0,Zf1,Zf4,Zgh,Zgi,Zhf,Zhg,Zhh,Zif,Zig,Zik,Zil,Zim,Ziq,Zir,Zix,Ziz,Zi0,Zi2,Zi3,Zi7,Zjj,Zjk,Zjo,Zmt,Zmv,Zmw,Zmx,Zmz,Zm3,Zna,Znb,Znf,Zng,Znh,Znl,Znm,Znn,Zno,Znp,Znr,Zof,Zog,Zrd,Zos,Zot,Zou,Zow,Zo7,Zo8,Zo9,Zpb,Zpc,Zpo,Zpw,Zpz,Zp1,Zp2,Zp9,Zqd,Zqe,Zqf,Zqg,Zqh,Zqi,Zqk,Zql,Zqm,Zqn,Zqr,eq_self,true_and,and_true,Nat.zero_add,Nat.mul_one]
          tactic =>
          have hcl := cB_length (f :: beN i n)
          exact ⟨by rw [beN_length]; omega, (List.take_of_length_le (by omega)).symm, by omega, cB_okI _⟩
  · rw [if_neg (by decide)]
    obtain ⟨W, hW⟩ : ∃ W, W = 11 := ⟨_, rfl⟩
    by_cases h0 : n < 0
    · rw [if_pos h0, ← hW]
      obtain ⟨f, hf⟩ : ∃ f : Int, f = 255 := ⟨_, rfl⟩
      refine con_j b21 rfl ?_
      sym =>
      simp [Zaa,Zab,Zad,Zae,Zaf,Zag,Zah,Zai,Zak,Zal,Zam,Zan,Zao,Zap,Zaq,Zav,Zaw,Zay,Zaz,Za0,Za1,Za2,Za3,Za4,Za5,Za6,Za7,Za8,Za9,Zba,Zbb,Zbd,Zbf,Zbl,Zct,Zcz,Zc5,Zev,Zew,Zex,Zez,Ze0,Ze2,Ze3,Ze4,Ze5,Zfc,Zfd,Zfe,Zff,Zfg,Zfh,Zfi,Zfk,Zfl,Zfn,Zfp,Zfr,Zfs,Zf0,Zf1,Zf4,Zgh,Zgi,Zhf,Zhg,Zhh,Zif,Zig,Zik,Zil,Zim,Ziq,Zir,Zix,Ziz,Zi0,Zi2,Zi3,Zi7,Zjj,Zjk,Zjo,Zmt,Zmv,Zmw,Zmx,Zmz,Zm3,Zna,Znb,Znf,Zng,Znh,Znl,Znm,Znn,Zno,Znp,Znr,Zof,Zog,Zrd,Zos,Zot,Zou,Zow,Zo7,Zo8,Zo9,Zpb,Zpc,Zpo,Zpw,Zpz,Zp1,Zp2,Zp9,Zqd,Zqe,Zqf,Zqg,Zqh,Zqi,Zqk,Zql,Zqm,Zqn,Zqr,eq_self,true_and,and_true,Nat.zero_add,Nat.mul_one,h0,v4,v5,v6]
      tactic =>
      rw [← hf]
      refine lpA (i21 n f W) W [(0, 21)] _ ⟨0, by omega, rfl⟩ (wkA ?_) ?_
      · sym =>
        simp [Zaa,Zab,Zad,Zae,Zaf,Zag,Zah,Zai,Zak,Zal,Zam,Zan,Zao,Zap,Zaq,Zav,Zaw,Zay,Zaz,Za0,Za1,Za2,Za3,Za4,Za5,Za6,Za7,Za8,Za9,Zba,Zbb,Zbd,Zbf,Zbl,Zct,Zcz,Zc5,Zev,Zew,Zex,Zez,Ze0,Ze2,Ze3,Ze4,Ze5,Zfc,Zfd,Zfe,Zff,Zfg,Zfh,Zfi,Zfk,Zfl,Zfn,Zfp,Zfr,Zfs,Zf0,Zf1,Zf4,Zgh,Zgi,Zhf,Zhg,Zhh,Zif,Zig,Zik,Zil,Zim,Ziq,Zir,Zix,Ziz,Zi0,Zi2,Zi3,Zi7,Zjj,Zjk,Zjo,Zmt,Zmv,Zmw,Zmx,Zmz,Zm3,Zna,Znb,Znf,Zng,Znh,Znl,Znm,Znn,Zno,Znp,Znr,Zof,Zog,Zrd,Zos,Zot,Zou,Zow,Zo7,Zo8,Zo9,Zpb,Zpc,Zpo,Zpw,Zpz,Zp1,Zp2,Zp9,Zqd,Zqe,Zqf,Zqg,Zqh,Zqi,Zqk,Zql,Zqm,Zqn,Zqr,eq_self,true_and,and_true,Nat.zero_add,Nat.mul_one]
        tactic =>
        refine ⟨by rw [hW]; rfl, cB_rs _ _ _ _ _ rfl⟩
      rintro k s ⟨i, hi, rfl⟩
      have hle : (f :: beN W n).length = 1 + W := by rw [List.length_cons, beN_length]; omega
      by_cases hlt : i < W
      · have hI : IN W - 1 - (i : Int) ≥ 0 := by simp only [IN]; omega
        have hww := w64 (IN W - 1 - (i : Int) - 1) (by simp only [IN]; omega)
        have hmu := w64 (8 * (IN W - 1 - (i : Int))) (by simp only [IN]; omega)
        have hm0 : (0 : Int) ≤ min (8 * (IN W - 1 - (i : Int))) 63 := by simp only [IN]; omega
        have hby := byte_at n hn (W - 1 - i)
        have hbe := beN_get W n i hlt
        have hst := take_stepD (f :: beN W n) (1 + i) (by omega)
        have hgd : (f :: beN W n).getD (1 + i) 0 = n / 256 ^ (W - 1 - i) % 256 := by rw [← hbe, Nat.add_comm]; rfl
        rw [hgd, ← hby] at hst
        have hmn : min (min (8 * (IN W - 1 - (i : Int))) 63).toNat IntKind.i64.bits = min (8 * (W - 1 - i)) 63 := by simp only [IN, IntKind.bits]; omega
        have hcl := cB_length ((f :: beN W n).take (1 + i))
        rw [List.length_take] at hcl
        sym =>
        simp [Zaa,Zab,Zad,Zae,Zaf,Zag,Zah,Zai,Zak,Zal,Zam,Zan,Zao,Zap,Zaq,Zav,Zaw,Zay,Zaz,Za0,Za1,Za2,Za3,Za4,Za5,Za6,Za7,Za8,Za9,Zba,Zbb,Zbd,Zbf,Zbl,Zct,Zcz,Zc5,Zev,Zew,Zex,Zez,Ze0,Ze2,Ze3,Ze4,Ze5,Zfc,Zfd,Zfe,Zff,Zfg,Zfh,Zfi,Zfk,Zfl,Zfn,Zfp,Zfr,Zfs,Zf0,Zf1,Zf4,Zgh,Zgi,Zhf,Zhg,Zhh,Zif,Zig,Zik,Zil,Zim,Ziq,Zir,Zix,Ziz,Zi0,Zi2,Zi3,Zi7,Zjj,Zjk,Zjo,Zmt,Zmv,Zmw,Zmx,Zmz,Zm3,Zna,Znb,Znf,Zng,Znh,Znl,Znm,Znn,Zno,Znp,Znr,Zof,Zog,Zrd,Zos,Zot,Zou,Zow,Zo7,Zo8,Zo9,Zpb,Zpc,Zpo,Zpw,Zpz,Zp1,Zp2,Zp9,Zqd,Zqe,Zqf,Zqg,Zqh,Zqi,Zqk,Zql,Zqm,Zqn,Zqr,eq_self,true_and,and_true,Nat.zero_add,Nat.mul_one,hI,hww,hmu,hm0]
        tactic =>
        rw [hmn]
        refine ⟨⟨by omega, by omega, by omega, by omega⟩, ?_⟩
        unfold NextL; refine ⟨(k - 1), [(0, 11)], _, by omega, ⟨i + 1, by omega, rfl⟩, wkA ?_⟩
        sym =>
        simp [Zaa,Zab,Zad,Zae,Zaf,Zag,Zah,Zai,Zak,Zal,Zam,Zan,Zao,Zap,Zaq,Zav,Zaw,Zay,Zaz,Za0,Za1,Za2,Za3,Za4,Za5,Za6,Za7,Za8,Za9,Zba,Zbb,Zbd,Zbf,Zbl,Zct,Zcz,Zc5,Zev,Zew,Zex,Zez,Ze0,Ze2,Ze3,Ze4,Ze5,Zfc,Zfd,Zfe,Zff,Zfg,Zfh,Zfi,Zfk,Zfl,Zfn,Zfp,Zfr,Zfs,Zf0,Zf1,Zf4,Zgh,Zgi,Zhf,Zhg,Zhh,Zif,Zig,Zik,Zil,Zim,Ziq,Zir,Zix,Ziz,Zi0,Zi2,Zi3,Zi7,Zjj,Zjk,Zjo,Zmt,Zmv,Zmw,Zmx,Zmz,Zm3,Zna,Znb,Znf,Zng,Znh,Znl,Znm,Znn,Zno,Znp,Znr,Zof,Zog,Zrd,Zos,Zot,Zou,Zow,Zo7,Zo8,Zo9,Zpb,Zpc,Zpo,Zpw,Zpz,Zp1,Zp2,Zp9,Zqd,Zqe,Zqf,Zqg,Zqh,Zqi,Zqk,Zql,Zqm,Zqn,Zqr,eq_self,true_and,and_true,Nat.zero_add,Nat.mul_one]
        tactic =>
        refine ⟨⟨by omega, by show IN W - 1 - (i : Int) - 1 = IN W - 1 - ((i + 1 : Nat) : Int); omega⟩, cB_rs _ _ _ _ _ ?_⟩
        rw [← Nat.add_assoc, hst, cB_append]
        rfl
      · have hI : ¬ IN W - 1 - (i : Int) ≥ 0 := by simp only [IN]; omega
        obtain rfl : i = W := by omega
        have e : (f :: beN i n).take (1 + i) = f :: beN i n := List.take_of_length_le (by omega)
        rw [e]
        sym =>
        simp [Zaa,Zab,Zad,Zae,Zaf,Zag,Zah,Zai,Zak,Zal,Zam,Zan,Zao,Zap,Zaq,Zav,Zaw,Zay,Zaz,Za0,Za1,Za2,Za3,Za4,Za5,Za6,Za7,Za8,Za9,Zba,Zbb,Zbd,Zbf,Zbl,Zct,Zcz,Zc5,Zev,Zew,Zex,Zez,Ze0,Ze2,Ze3,Ze4,Ze5,Zfc,Zfd,Zfe,Zff,Zfg,Zfh,Zfi,Zfk,Zfl,Zfn,Zfp,Zfr,Zfs,Zf0,Zf1,Zf4,Zgh,Zgi,Zhf,Zhg,Zhh,Zif,Zig,Zik,Zil,Zim,Ziq,Zir,Zix,Ziz,Zi0,Zi2,Zi3,Zi7,Zjj,Zjk,Zjo,Zmt,Zmv,Zmw,Zmx,Zmz,Zm3,Zna,Znb,Znf,Zng,Znh,Znl,Znm,Znn,Zno,Znp,Znr,Zof,Zog,Zrd,Zos,Zot,Zou,Zow,Zo7,Zo8,Zo9,Zpb,Zpc,Zpo,Zpw,Zpz,Zp1,Zp2,Zp9,Zqd,Zqe,Zqf,Zqg,Zqh,Zqi,Zqk,Zql,Zqm,Zqn,Zqr,eq_self,true_and,and_true,Nat.zero_add,Nat.mul_one,hI]
        tactic =>
        refine endA ?_
        sym =>
        simp [Zaa,Zab,Zad,Zae,Zaf,Zag,Zah,Zai,Zak,Zal,Zam,Zan,Zao,Zap,Zaq,Zav,Zaw,Zay,Zaz,Za0,Za1,Za2,Za3,Za4,Za5,Za6,Za7,Za8,Za9,Zba,Zbb,Zbd,Zbf,Zbl,Zct,Zcz,Zc5,Zev,Zew,Zex,Zez,Ze0,Ze2,Ze3,Ze4,Ze5,Zfc,Zfd,Zfe,Zff,Zfg,Zfh,Zfi,Zfk,Zfl,Zfn,Zfp,Zfr,Zfs,Zf0,Zf1,Zf4,Zgh,Zgi,Zhf,Zhg,Zhh,Zif,Zig,Zik,Zil,Zim,Ziq,Zir,Zix,Ziz,Zi0,Zi2,Zi3,Zi7,Zjj,Zjk,Zjo,Zmt,Zmv,Zmw,Zmx,Zmz,Zm3,Zna,Znb,Znf,Zng,Znh,Znl,Znm,Znn,Zno,Znp,Znr,Zof,Zog,Zrd,Zos,Zot,Zou,Zow,Zo7,Zo8,Zo9,Zpb,Zpc,Zpo,Zpw,Zpz,Zp1,Zp2,Zp9,Zqd,Zqe,Zqf,Zqg,Zqh,Zqi,Zqk,Zql,Zqm,Zqn,Zqr,eq_self,true_and,and_true,Nat.zero_add,Nat.mul_one]
        tactic =>
        have hcl := cB_length (f :: beN i n)
        exact ⟨by rw [beN_length]; omega, (List.take_of_length_le (by omega)).symm, by omega, cB_okI _⟩
    · rw [if_neg h0, ← hW]
      obtain ⟨f, hf⟩ : ∃ f : Int, f = 128 := ⟨_, rfl⟩
      refine con_j b21 rfl ?_
      sym =>
      simp [Zaa,Zab,Zad,Zae,Zaf,Zag,Zah,Zai,Zak,Zal,Zam,Zan,Zao,Zap,Zaq,Zav,Zaw,Zay,Zaz,Za0,Za1,Za2,Za3,Za4,Za5,Za6,Za7,Za8,Za9,Zba,Zbb,Zbd,Zbf,Zbl,Zct,Zcz,Zc5,Zev,Zew,Zex,Zez,Ze0,Ze2,Ze3,Ze4,Ze5,Zfc,Zfd,Zfe,Zff,Zfg,Zfh,Zfi,Zfk,Zfl,Zfn,Zfp,Zfr,Zfs,Zf0,Zf1,Zf4,Zgh,Zgi,Zhf,Zhg,Zhh,Zif,Zig,Zik,Zil,Zim,Ziq,Zir,Zix,Ziz,Zi0,Zi2,Zi3,Zi7,Zjj,Zjk,Zjo,Zmt,Zmv,Zmw,Zmx,Zmz,Zm3,Zna,Znb,Znf,Zng,Znh,Znl,Znm,Znn,Zno,Znp,Znr,Zof,Zog,Zrd,Zos,Zot,Zou,Zow,Zo7,Zo8,Zo9,Zpb,Zpc,Zpo,Zpw,Zpz,Zp1,Zp2,Zp9,Zqd,Zqe,Zqf,Zqg,Zqh,Zqi,Zqk,Zql,Zqm,Zqn,Zqr,eq_self,true_and,and_true,Nat.zero_add,Nat.mul_one,h0,v4,v5,v6]
      tactic =>
      rw [← hf]
      refine lpA (i21 n f W) W [(0, 20)] _ ⟨0, by omega, rfl⟩ (wkA ?_) ?_
      · sym =>
        simp [Zaa,Zab,Zad,Zae,Zaf,Zag,Zah,Zai,Zak,Zal,Zam,Zan,Zao,Zap,Zaq,Zav,Zaw,Zay,Zaz,Za0,Za1,Za2,Za3,Za4,Za5,Za6,Za7,Za8,Za9,Zba,Zbb,Zbd,Zbf,Zbl,Zct,Zcz,Zc5,Zev,Zew,Zex,Zez,Ze0,Ze2,Ze3,Ze4,Ze5,Zfc,Zfd,Zfe,Zff,Zfg,Zfh,Zfi,Zfk,Zfl,Zfn,Zfp,Zfr,Zfs,Zf0,Zf1,Zf4,Zgh,Zgi,Zhf,Zhg,Zhh,Zif,Zig,Zik,Zil,Zim,Ziq,Zir,Zix,Ziz,Zi0,Zi2,Zi3,Zi7,Zjj,Zjk,Zjo,Zmt,Zmv,Zmw,Zmx,Zmz,Zm3,Zna,Znb,Znf,Zng,Znh,Znl,Znm,Znn,Zno,Znp,Znr,Zof,Zog,Zrd,Zos,Zot,Zou,Zow,Zo7,Zo8,Zo9,Zpb,Zpc,Zpo,Zpw,Zpz,Zp1,Zp2,Zp9,Zqd,Zqe,Zqf,Zqg,Zqh,Zqi,Zqk,Zql,Zqm,Zqn,Zqr,eq_self,true_and,and_true,Nat.zero_add,Nat.mul_one]
        tactic =>
        refine ⟨by rw [hW]; rfl, cB_rs _ _ _ _ _ rfl⟩
      rintro k s ⟨i, hi, rfl⟩
      have hle : (f :: beN W n).length = 1 + W := by rw [List.length_cons, beN_length]; omega
      by_cases hlt : i < W
      · have hI : IN W - 1 - (i : Int) ≥ 0 := by simp only [IN]; omega
        have hww := w64 (IN W - 1 - (i : Int) - 1) (by simp only [IN]; omega)
        have hmu := w64 (8 * (IN W - 1 - (i : Int))) (by simp only [IN]; omega)
        have hm0 : (0 : Int) ≤ min (8 * (IN W - 1 - (i : Int))) 63 := by simp only [IN]; omega
        have hby := byte_at n hn (W - 1 - i)
        have hbe := beN_get W n i hlt
        have hst := take_stepD (f :: beN W n) (1 + i) (by omega)
        have hgd : (f :: beN W n).getD (1 + i) 0 = n / 256 ^ (W - 1 - i) % 256 := by rw [← hbe, Nat.add_comm]; rfl
        rw [hgd, ← hby] at hst
        have hmn : min (min (8 * (IN W - 1 - (i : Int))) 63).toNat IntKind.i64.bits = min (8 * (W - 1 - i)) 63 := by simp only [IN, IntKind.bits]; omega
        have hcl := cB_length ((f :: beN W n).take (1 + i))
        rw [List.length_take] at hcl
        sym =>
        simp [Zaa,Zab,Zad,Zae,Zaf,Zag,Zah,Zai,Zak,Zal,Zam,Zan,Zao,Zap,Zaq,Zav,Zaw,Zay,Zaz,Za0,Za1,Za2,Za3,Za4,Za5,Za6,Za7,Za8,Za9,Zba,Zbb,Zbd,Zbf,Zbl,Zct,Zcz,Zc5,Zev,Zew,Zex,Zez,Ze0,Ze2,Ze3,Ze4,Ze5,Zfc,Zfd,Zfe,Zff,Zfg,Zfh,Zfi,Zfk,Zfl,Zfn,Zfp,Zfr,Zfs,Zf0,Zf1,Zf4,Zgh,Zgi,Zhf,Zhg,Zhh,Zif,Zig,Zik,Zil,Zim,Ziq,Zir,Zix,Ziz,Zi0,Zi2,Zi3,Zi7,Zjj,Zjk,Zjo,Zmt,Zmv,Zmw,Zmx,Zmz,Zm3,Zna,Znb,Znf,Zng,Znh,Znl,Znm,Znn,Zno,Znp,Znr,Zof,Zog,Zrd,Zos,Zot,Zou,Zow,Zo7,Zo8,Zo9,Zpb,Zpc,Zpo,Zpw,Zpz,Zp1,Zp2,Zp9,Zqd,Zqe,Zqf,Zqg,Zqh,Zqi,Zqk,Zql,Zqm,Zqn,Zqr,eq_self,true_and,and_true,Nat.zero_add,Nat.mul_one,hI,hww,hmu,hm0]
        tactic =>
        rw [hmn]
        refine ⟨⟨by omega, by omega, by omega, by omega⟩, ?_⟩
        unfold NextL; refine ⟨(k - 1), [(0, 11)], _, by omega, ⟨i + 1, by omega, rfl⟩, wkA ?_⟩
        sym =>
        simp [Zaa,Zab,Zad,Zae,Zaf,Zag,Zah,Zai,Zak,Zal,Zam,Zan,Zao,Zap,Zaq,Zav,Zaw,Zay,Zaz,Za0,Za1,Za2,Za3,Za4,Za5,Za6,Za7,Za8,Za9,Zba,Zbb,Zbd,Zbf,Zbl,Zct,Zcz,Zc5,Zev,Zew,Zex,Zez,Ze0,Ze2,Ze3,Ze4,Ze5,Zfc,Zfd,Zfe,Zff,Zfg,Zfh,Zfi,Zfk,Zfl,Zfn,Zfp,Zfr,Zfs,Zf0,Zf1,Zf4,Zgh,Zgi,Zhf,Zhg,Zhh,Zif,Zig,Zik,Zil,Zim,Ziq,Zir,Zix,Ziz,Zi0,Zi2,Zi3,Zi7,Zjj,Zjk,Zjo,Zmt,Zmv,Zmw,Zmx,Zmz,Zm3,Zna,Znb,Znf,Zng,Znh,Znl,Znm,Znn,Zno,Znp,Znr,Zof,Zog,Zrd,Zos,Zot,Zou,Zow,Zo7,Zo8,Zo9,Zpb,Zpc,Zpo,Zpw,Zpz,Zp1,Zp2,Zp9,Zqd,Zqe,Zqf,Zqg,Zqh,Zqi,Zqk,Zql,Zqm,Zqn,Zqr,eq_self,true_and,and_true,Nat.zero_add,Nat.mul_one]
        tactic =>
        refine ⟨⟨by omega, by show IN W - 1 - (i : Int) - 1 = IN W - 1 - ((i + 1 : Nat) : Int); omega⟩, cB_rs _ _ _ _ _ ?_⟩
        rw [← Nat.add_assoc, hst, cB_append]
        rfl
      · have hI : ¬ IN W - 1 - (i : Int) ≥ 0 := by simp only [IN]; omega
        obtain rfl : i = W := by omega
        have e : (f :: beN i n).take (1 + i) = f :: beN i n := List.take_of_length_le (by omega)
        rw [e]
        sym =>
        simp [Zaa,Zab,Zad,Zae,Zaf,Zag,Zah,Zai,Zak,Zal,Zam,Zan,Zao,Zap,Zaq,Zav,Zaw,Zay,Zaz,Za0,Za1,Za2,Za3,Za4,Za5,Za6,Za7,Za8,Za9,Zba,Zbb,Zbd,Zbf,Zbl,Zct,Zcz,Zc5,Zev,Zew,Zex,Zez,Ze0,Ze2,Ze3,Ze4,Ze5,Zfc,Zfd,Zfe,Zff,Zfg,Zfh,Zfi,Zfk,Zfl,Zfn,Zfp,Zfr,Zfs,Zf0,Zf1,Zf4,Zgh,Zgi,Zhf,Zhg,Zhh,Zif,Zig,Zik,Zil,Zim,Ziq,Zir,Zix,Ziz,Zi0,Zi2,Zi3,Zi7,Zjj,Zjk,Zjo,Zmt,Zmv,Zmw,Zmx,Zmz,Zm3,Zna,Znb,Znf,Zng,Znh,Znl,Znm,Znn,Zno,Znp,Znr,Zof,Zog,Zrd,Zos,Zot,Zou,Zow,Zo7,Zo8,Zo9,Zpb,Zpc,Zpo,Zpw,Zpz,Zp1,Zp2,Zp9,Zqd,Zqe,Zqf,Zqg,Zqh,Zqi,Zqk,Zql,Zqm,Zqn,Zqr,eq_self,true_and,and_true,Nat.zero_add,Nat.mul_one,hI]
        tactic =>
        refine endA ?_
        sym =>
        simp [Zaa,Zab,Zad,Zae,Zaf,Zag,Zah,Zai,Zak,Zal,Zam,Zan,Zao,Zap,Zaq,Zav,Zaw,Zay,Zaz,Za0,Za1,Za2,Za3,Za4,Za5,Za6,Za7,Za8,Za9,Zba,Zbb,Zbd,Zbf,Zbl,Zct,Zcz,Zc5,Zev,Zew,Zex,Zez,Ze0,Ze2,Ze3,Ze4,Ze5,Zfc,Zfd,Zfe,Zff,Zfg,Zfh,Zfi,Zfk,Zfl,Zfn,Zfp,Zfr,Zfs,Zf0,Zf1,Zf4,Zgh,Zgi,Zhf,Zhg,Zhh,Zif,Zig,Zik,Zil,Zim,Ziq,Zir,Zix,Ziz,Zi0,Zi2,Zi3,Zi7,Zjj,Zjk,Zjo,Zmt,Zmv,Zmw,Zmx,Zmz,Zm3,Zna,Znb,Znf,Zng,Znh,Znl,Znm,Znn,Zno,Znp,Znr,Zof,Zog,Zrd,Zos,Zot,Zou,Zow,Zo7,Zo8,Zo9,Zpb,Zpc,Zpo,Zpw,Zpz,Zp1,Zp2,Zp9,Zqd,Zqe,Zqf,Zqg,Zqh,Zqi,Zqk,Zql,Zqm,Zqn,Zqr,eq_self,true_and,and_true,Nat.zero_add,Nat.mul_one]
        tactic =>
        have hcl := cB_length (f :: beN i n)
        exact ⟨by rw [beN_length]; omega, (List.take_of_length_le (by omega)).symm, by omega, cB_okI _⟩
theorem plain_most {n w : Int} (h : plainF n w = true) : isW w = true ∧ 0 ≤ n ∧ n ≤ mostI (w - 1) := by
  unfold plainF at h
  by_cases h1 : isW w = true
  · rw [if_pos h1] at h
    by_cases h2 : 0 ≤ n
    · rw [if_pos h2] at h
      exact ⟨h1, h2, of_decide_eq_true h⟩
    · rw [if_neg h2] at h; cases h
  · rw [if_neg h1] at h; cases h
theorem isW_iff {w : Int} (h : isW w = true) : w = 8 ∨ w = 12 := by
  unfold isW at h
  by_cases h8 : w = 8
  · exact .inl h8
  · rw [if_neg h8] at h; exact .inr (of_decide_eq_true h)
theorem octal_ok_own (n : Int) (w : Nat) (hw : 1 ≤ w ∧ w ≤ 20) (h0 : 0 ≤ n) (hn : n ≤ mostN w) : Con Tryd.prog 9 [] [I n, I (IN w)] [(0, ⟨cB (octN w n), 1, 0⟩)] (.tu [.lv 0 0 w, I 0]) := by
  have hmo := most_con (IN w)
  have hmi : mostI (IN w) = mostN w := rfl
  rw [hmi] at hmo
  have hb := mostN_bd w
  have g1 : ¬ IN w < (1 : Int) := by simp only [IN]; omega
  have g2 : ¬ IN w > (20 : Int) := by simp only [IN]; omega
  have g3 : ¬ n < 0 := by omega
  have g4 : ¬ n > mostN w := by omega
  have g5 : (0 : Int) ≤ IN w := by simp only [IN]; omega
  have hl := octN_length w n
  refine con_o b9 rfl ?_
  sym =>
  simp [Zaa,Zab,Zad,Zae,Zaf,Zag,Zah,Zai,Zak,Zal,Zam,Zan,Zap,Zaq,Zav,Zaw,Zay,Zaz,Za0,Za1,Za2,Za3,Za4,Za5,Za6,Za7,Za9,Zba,Zbb,Zbd,Zbf,Zbl,Zb1,Zcn,Zc1,Zc3,Zdc,Zdd,Zde,Zdi,Zev,Zew,Zex,Zez,Ze0,Ze1,Ze2,Ze3,Ze5,Zfc,Zfd,Zfe,Zfh,Zfi,Zfl,Zfn,Zfp,Zfq,Zfr,Zfs,Zfv,Zf1,Zf3,Zgh,Zgi,Zgv,Zg4,Zg5,Zho,Zh6,Zh9,Zis,Zit,Ziu,Ziv,Ziw,Zi7,Zjh,Zji,Zjn,Zjr,Zla,Zlb,Zle,Zlj,Zlz,Zmt,Zmv,Zmw,Zmx,Zmz,Zm3,Zna,Znb,Zne,Znf,Zng,Znn,Zno,Znr,Zns,Znt,Znu,Znw,Zn5,Zos,Zot,Zo7,Zo8,Zo9,Zpb,Zpc,Zpn,Zpo,Zp9,Zqd,Zqe,Zqf,Zqg,Zqh,Zqi,Zqk,Zql,Zqm,Zqn,eq_self,true_and,and_true,Nat.zero_add,Nat.mul_one,g1,g2,g3,callable_14]
  tactic =>
  refine cl none (hmo) trivial ?_
  sym =>
  simp [Zaa,Zab,Zad,Zae,Zaf,Zag,Zah,Zai,Zak,Zal,Zam,Zan,Zap,Zaq,Zav,Zaw,Zay,Zaz,Za0,Za1,Za2,Za3,Za4,Za5,Za6,Za7,Za9,Zba,Zbb,Zbd,Zbf,Zbl,Zb1,Zcn,Zc1,Zc3,Zdc,Zdd,Zde,Zdi,Zev,Zew,Zex,Zez,Ze0,Ze1,Ze2,Ze3,Ze5,Zfc,Zfd,Zfe,Zfh,Zfi,Zfl,Zfn,Zfp,Zfq,Zfr,Zfs,Zfv,Zf1,Zf3,Zgh,Zgi,Zgv,Zg4,Zg5,Zho,Zh6,Zh9,Zis,Zit,Ziu,Ziv,Ziw,Zi7,Zjh,Zji,Zjn,Zjr,Zla,Zlb,Zle,Zlj,Zlz,Zmt,Zmv,Zmw,Zmx,Zmz,Zm3,Zna,Znb,Zne,Znf,Zng,Znn,Zno,Znr,Zns,Znt,Znu,Znw,Zn5,Zos,Zot,Zo7,Zo8,Zo9,Zpb,Zpc,Zpn,Zpo,Zp9,Zqd,Zqe,Zqf,Zqg,Zqh,Zqi,Zqk,Zql,Zqm,Zqn,eq_self,true_and,and_true,Nat.zero_add,Nat.mul_one,g4,g5]
  tactic =>
  and_intros <;> try (first | omega | rfl | assumption | simp only [IN]; omega)
  refine lpA (i9 n w) w [(0, 19)] _ ⟨0, by omega, rfl⟩ (wkA ?_) ?_
  · have e0 : cB (fro (octN w n) w 0) = List.replicate w (Y 0) := by simp [fro, cB]
    rw [e0]
    sym =>
    simp [Zaa,Zab,Zad,Zae,Zaf,Zag,Zah,Zai,Zak,Zal,Zam,Zan,Zap,Zaq,Zav,Zaw,Zay,Zaz,Za0,Za1,Za2,Za3,Za4,Za5,Za6,Za7,Za9,Zba,Zbb,Zbd,Zbf,Zbl,Zb1,Zcn,Zc1,Zc3,Zdc,Zdd,Zde,Zdi,Zev,Zew,Zex,Zez,Ze0,Ze1,Ze2,Ze3,Ze5,Zfc,Zfd,Zfe,Zfh,Zfi,Zfl,Zfn,Zfp,Zfq,Zfr,Zfs,Zfv,Zf1,Zf3,Zgh,Zgi,Zgv,Zg4,Zg5,Zho,Zh6,Zh9,Zis,Zit,Ziu,Ziv,Ziw,Zi7,Zjh,Zji,Zjn,Zjr,Zla,Zlb,Zle,Zlj,Zlz,Zmt,Zmv,Zmw,Zmx,Zmz,Zm3,Zna,Znb,Zne,Znf,Zng,Znn,Zno,Znr,Zns,Znt,Znu,Znw,Zn5,Zos,Zot,Zo7,Zo8,Zo9,Zpb,Zpc,Zpn,Zpo,Zp9,Zqd,Zqe,Zqf,Zqg,Zqh,Zqi,Zqk,Zql,Zqm,Zqn,eq_self,true_and,and_true,Nat.zero_add,Nat.mul_one]
    tactic =>
    exact rs_self (by intro x hx; rw [List.eq_of_mem_replicate hx]; rfl)
  rintro k s ⟨i, hi, rfl⟩
  by_cases h : i < w
  · have hws := w64s i (by omega)
    have q1 : IntKind.i64.wrap (IN w - (1 : Int)) = IN (w - 1) := w64m _ _ 1 (by omega) (by omega)
    have q2 : IntKind.i64.wrap (IN (w - 1) - IN i) = IN (w - 1 - i) := w64d _ _ (by omega) (by omega)
    have q3 : IntKind.i64.wrap (3 * IN (w - 1 - i)) = IN (3 * (w - 1 - i)) := by rw [w64 _ (by simp only [IN]; omega)]; simp only [IN]; omega
    have hb2 : min (3 * (w - 1 - i)) IntKind.i64.bits = 3 * (w - 1 - i) := by simp only [IntKind.bits]; omega
    have hp : (2 : Int) ^ (3 * (w - 1 - i)) = 8 ^ (w - 1 - i) := by rw [Int.pow_mul]; rfl
    have hg := octN_get w n i h
    have hst := fro_step (octN w n) w i hl h
    rw [hg] at hst
    have hfl := fro_length (octN w n) w i hl (by omega)
    have hcs := cB_set (fro (octN w n) w i) i
    have hfc := cB_length (fro (octN w n) w i)
    have hv : IntKind.u8.wrap (48 + bits .and .u8 (IntKind.u8.wrap (n.fdiv (2 ^ min (3 * (w - 1 - i)) IntKind.i64.bits))) 7) = 48 + n / 8 ^ (w - 1 - i) % 8 := by
      rw [hb2, hp, Int.fdiv_eq_ediv_of_nonneg _ (Int.le_of_lt (Int.pow_pos (by decide)))]
      obtain ⟨x, hx⟩ : ∃ x, x = n / 8 ^ (w - 1 - i) := ⟨_, rfl⟩
      rw [← hx, w8u x, and7 (x % 256) (by omega), w8u]
      omega
    sym =>
    simp [Zaa,Zab,Zad,Zae,Zaf,Zag,Zah,Zai,Zak,Zal,Zam,Zan,Zap,Zaq,Zav,Zaw,Zay,Zaz,Za0,Za1,Za2,Za3,Za4,Za5,Za6,Za7,Za9,Zba,Zbb,Zbd,Zbf,Zbl,Zb1,Zcn,Zc1,Zc3,Zdc,Zdd,Zde,Zdi,Zev,Zew,Zex,Zez,Ze0,Ze1,Ze2,Ze3,Ze5,Zfc,Zfd,Zfe,Zfh,Zfi,Zfl,Zfn,Zfp,Zfq,Zfr,Zfs,Zfv,Zf1,Zf3,Zgh,Zgi,Zgv,Zg4,Zg5,Zho,Zh6,Zh9,Zis,Zit,Ziu,Ziv,Ziw,Zi7,Zjh,Zji,Zjn,Zjr,Zla,Zlb,Zle,Zlj,Zlz,Zmt,Zmv,Zmw,Zmx,Zmz,Zm3,Zna,Znb,Zne,Znf,Zng,Znn,Zno,Znr,Zns,Znt,Znu,Znw,Zn5,Zos,Zot,Zo7,Zo8,Zo9,Zpb,Zpc,Zpn,Zpo,Zp9,Zqd,Zqe,Zqf,Zqg,Zqh,Zqi,Zqk,Zql,Zqm,Zqn,eq_self,true_and,and_true,Nat.zero_add,Nat.mul_one,h,hws,q1,q2,q3]
    tactic =>
    and_intros <;> try (first | omega | rfl | assumption | simp only [IN]; omega)
    rw [hv, hcs, hst]
    unfold NextL; refine ⟨(k - 1), [(0, 0)], _, by omega, ⟨i + 1, by omega, rfl⟩, wkA ?_⟩
    sym =>
    simp [Zaa,Zab,Zad,Zae,Zaf,Zag,Zah,Zai,Zak,Zal,Zam,Zan,Zap,Zaq,Zav,Zaw,Zay,Zaz,Za0,Za1,Za2,Za3,Za4,Za5,Za6,Za7,Za9,Zba,Zbb,Zbd,Zbf,Zbl,Zb1,Zcn,Zc1,Zc3,Zdc,Zdd,Zde,Zdi,Zev,Zew,Zex,Zez,Ze0,Ze1,Ze2,Ze3,Ze5,Zfc,Zfd,Zfe,Zfh,Zfi,Zfl,Zfn,Zfp,Zfq,Zfr,Zfs,Zfv,Zf1,Zf3,Zgh,Zgi,Zgv,Zg4,Zg5,Zho,Zh6,Zh9,Zis,Zit,Ziu,Ziv,Ziw,Zi7,Zjh,Zji,Zjn,Zjr,Zla,Zlb,Zle,Zlj,Zlz,Zmt,Zmv,Zmw,Zmx,Zmz,Zm3,Zna,Znb,Zne,Znf,Zng,Znn,Zno,Znr,Zns,Znt,Znu,Znw,Zn5,Zos,Zot,Zo7,Zo8,Zo9,Zpb,Zpc,Zpn,Zpo,Zp9,Zqd,Zqe,Zqf,Zqg,Zqh,Zqi,Zqk,Zql,Zqm,Zqn,eq_self,true_and,and_true,Nat.zero_add,Nat.mul_one]
    tactic =>
    exact rs_self (cB_okI _)
  · obtain rfl : i = w := by omega
    have e : fro (octN i n) i i = octN i n := by
      unfold fro
      rw [List.take_of_length_le (by omega), Nat.sub_self]; simp
    rw [e]
    sym =>
    simp [Zaa,Zab,Zad,Zae,Zaf,Zag,Zah,Zai,Zak,Zal,Zam,Zan,Zap,Zaq,Zav,Zaw,Zay,Zaz,Za0,Za1,Za2,Za3,Za4,Za5,Za6,Za7,Za9,Zba,Zbb,Zbd,Zbf,Zbl,Zb1,Zcn,Zc1,Zc3,Zdc,Zdd,Zde,Zdi,Zev,Zew,Zex,Zez,Ze0,Ze1,Ze2,Ze3,Ze5,Zfc,Zfd,Zfe,Zfh,Zfi,Zfl,Zfn,Zfp,Zfq,Zfr,Zfs,Zfv,Zf1,Zf3,Zgh,Zgi,Zgv,Zg4,Zg5,Zho,Zh6,Zh9,Zis,Zit,Ziu,Ziv,Ziw,Zi7,Zjh,Zji,Zjn,Zjr,Zla,Zlb,Zle,Zlj,Zlz,Zmt,Zmv,Zmw,Zmx,Zmz,Zm3,Zna,Znb,Zne,Znf,Zng,Znn,Zno,Znr,Zns,Znt,Znu,Znw,Zn5,Zos,Zot,Zo7,Zo8,Zo9,Zpb,Zpc,Zpn,Zpo,Zp9,Zqd,Zqe,Zqf,Zqg,Zqh,Zqi,Zqk,Zql,Zqm,Zqn,eq_self,true_and,and_true,Nat.zero_add,Nat.mul_one,h]
    tactic =>
    refine endO [(0, 0)] (nx := 1) ?_
    sym =>
    simp [Zaa,Zab,Zad,Zae,Zaf,Zag,Zah,Zai,Zak,Zal,Zam,Zan,Zap,Zaq,Zav,Zaw,Zay,Zaz,Za0,Za1,Za2,Za3,Za4,Za5,Za6,Za7,Za9,Zba,Zbb,Zbd,Zbf,Zbl,Zb1,Zcn,Zc1,Zc3,Zdc,Zdd,Zde,Zdi,Zev,Zew,Zex,Zez,Ze0,Ze1,Ze2,Ze3,Ze5,Zfc,Zfd,Zfe,Zfh,Zfi,Zfl,Zfn,Zfp,Zfq,Zfr,Zfs,Zfv,Zf1,Zf3,Zgh,Zgi,Zgv,Zg4,Zg5,Zho,Zh6,Zh9,Zis,Zit,Ziu,Ziv,Ziw,Zi7,Zjh,Zji,Zjn,Zjr,Zla,Zlb,Zle,Zlj,Zlz,Zmt,Zmv,Zmw,Zmx,Zmz,Zm3,Zna,Znb,Zne,Znf,Zng,Znn,Zno,Znr,Zns,Znt,Znu,Znw,Zn5,Zos,Zot,Zo7,Zo8,Zo9,Zpb,Zpc,Zpn,Zpo,Zp9,Zqd,Zqe,Zqf,Zqg,Zqh,Zqi,Zqk,Zql,Zqm,Zqn,eq_self,true_and,and_true,Nat.zero_add,Nat.mul_one]
    tactic =>
    exact rs_self (cB_okI _)
theorem put_con (n w : Int) (hn : -9223372036854775808 ≤ n ∧ n ≤ 9223372036854775807) (hw : -9223372036854775808 ≤ w ∧ w ≤ 9223372036854775807) : Con Tryd.prog 7 [] [I n, I w] [] (.tu [fB (putF n w).1, I (putF n w).2]) := by
  have hi := isW_con w
  have hp := plain_con n w hn hw
  unfold putF
  by_cases h1 : isW w = true
  rotate_left
  · rw [if_neg h1]
    have h1' : isW w = false := by simpa using h1
    rw [h1'] at hi
    refine con_j b7 rfl ?_
    sym =>
    simp [Zaa,Zab,Zad,Zae,Zaf,Zak,Zal,Zam,Zao,Zay,Zaz,Za0,Za1,Za2,Za3,Za4,Za5,Za9,Zba,Zbb,Zbf,Zbj,Zb7,Zcz,Zc5,Zdc,Zdd,Zde,Zdi,Zev,Zew,Zez,Ze0,Ze2,Ze3,Ze4,Ze5,Zfc,Zfd,Zfe,Zff,Zfg,Zfh,Zfn,Zfr,Zgd,Zgg,Zhb,Zhc,Zhf,Zhg,Zhh,Ziq,Zir,Zix,Ziz,Zi0,Zi2,Zi3,Zi7,Zjj,Zjk,Zjo,Zjw,Zka,Zky,Zk0,Zk4,Zla,Zlb,Zle,Zlj,Zlz,Zl0,Zl1,Zl2,Zl6,Zml,Zms,Zmt,Zmv,Zmw,Zmx,Zmz,Zm3,Zm9,Zna,Znb,Zne,Znf,Zng,Znh,Znl,Znm,Znn,Zno,Znp,Zof,Zog,Zos,Zot,Zo3,Zo4,Zo7,Zpb,Zph,Zpw,Zpz,Zp1,Zp2,Zp9,Zqd,Zqe,List.length_append,eq_self,true_and,and_true,Nat.zero_add,Nat.mul_one,callable_20]
    tactic =>
    refine cl none (hi) trivial ?_
    sym =>
    simp [Zaa,Zab,Zad,Zae,Zaf,Zak,Zal,Zam,Zao,Zay,Zaz,Za0,Za1,Za2,Za3,Za4,Za5,Za9,Zba,Zbb,Zbf,Zbj,Zb7,Zcz,Zc5,Zdc,Zdd,Zde,Zdi,Zev,Zew,Zez,Ze0,Ze2,Ze3,Ze4,Ze5,Zfc,Zfd,Zfe,Zff,Zfg,Zfh,Zfn,Zfr,Zgd,Zgg,Zhb,Zhc,Zhf,Zhg,Zhh,Ziq,Zir,Zix,Ziz,Zi0,Zi2,Zi3,Zi7,Zjj,Zjk,Zjo,Zjw,Zka,Zky,Zk0,Zk4,Zla,Zlb,Zle,Zlj,Zlz,Zl0,Zl1,Zl2,Zl6,Zml,Zms,Zmt,Zmv,Zmw,Zmx,Zmz,Zm3,Zm9,Zna,Znb,Zne,Znf,Zng,Znh,Znl,Znm,Znn,Zno,Znp,Zof,Zog,Zos,Zot,Zo3,Zo4,Zo7,Zpb,Zph,Zpw,Zpz,Zp1,Zp2,Zp9,Zqd,Zqe,List.length_append,eq_self,true_and,and_true,Nat.zero_add,Nat.mul_one]
    tactic =>
    refine endA ?_
    sym =>
    simp [Zaa,Zab,Zad,Zae,Zaf,Zak,Zal,Zam,Zao,Zay,Zaz,Za0,Za1,Za2,Za3,Za4,Za5,Za9,Zba,Zbb,Zbf,Zbj,Zb7,Zcz,Zc5,Zdc,Zdd,Zde,Zdi,Zev,Zew,Zez,Ze0,Ze2,Ze3,Ze4,Ze5,Zfc,Zfd,Zfe,Zff,Zfg,Zfh,Zfn,Zfr,Zgd,Zgg,Zhb,Zhc,Zhf,Zhg,Zhh,Ziq,Zir,Zix,Ziz,Zi0,Zi2,Zi3,Zi7,Zjj,Zjk,Zjo,Zjw,Zka,Zky,Zk0,Zk4,Zla,Zlb,Zle,Zlj,Zlz,Zl0,Zl1,Zl2,Zl6,Zml,Zms,Zmt,Zmv,Zmw,Zmx,Zmz,Zm3,Zm9,Zna,Znb,Zne,Znf,Zng,Znh,Znl,Znm,Znn,Zno,Znp,Zof,Zog,Zos,Zot,Zo3,Zo4,Zo7,Zpb,Zph,Zpw,Zpz,Zp1,Zp2,Zp9,Zqd,Zqe,List.length_append,eq_self,true_and,and_true,Nat.zero_add,Nat.mul_one]
    tactic =>
    rfl
  rw [if_pos h1]
  rw [h1] at hi
  by_cases h2 : plainF n w = true
  rotate_left
  · rw [if_neg h2]
    have h2' : plainF n w = false := by simpa using h2
    rw [h2'] at hp
    have hb := base_con n w hn (isW_iff h1)
    obtain ⟨R, hR⟩ : ∃ R, R = baseF n w := ⟨_, rfl⟩
    rw [← hR] at hb ⊢
    refine con_j b7 rfl ?_
    sym =>
    simp [Zaa,Zab,Zad,Zae,Zaf,Zak,Zal,Zam,Zao,Zay,Zaz,Za0,Za1,Za2,Za3,Za4,Za5,Za9,Zba,Zbb,Zbf,Zbj,Zb7,Zcz,Zc5,Zdc,Zdd,Zde,Zdi,Zev,Zew,Zez,Ze0,Ze2,Ze3,Ze4,Ze5,Zfc,Zfd,Zfe,Zff,Zfg,Zfh,Zfn,Zfr,Zgd,Zgg,Zhb,Zhc,Zhf,Zhg,Zhh,Ziq,Zir,Zix,Ziz,Zi0,Zi2,Zi3,Zi7,Zjj,Zjk,Zjo,Zjw,Zka,Zky,Zk0,Zk4,Zla,Zlb,Zle,Zlj,Zlz,Zl0,Zl1,Zl2,Zl6,Zml,Zms,Zmt,Zmv,Zmw,Zmx,Zmz,Zm3,Zm9,Zna,Znb,Zne,Znf,Zng,Znh,Znl,Znm,Znn,Zno,Znp,Zof,Zog,Zos,Zot,Zo3,Zo4,Zo7,Zpb,Zph,Zpw,Zpz,Zp1,Zp2,Zp9,Zqd,Zqe,List.length_append,eq_self,true_and,and_true,Nat.zero_add,Nat.mul_one,callable_20]
    tactic =>
    refine cl none (hi) trivial ?_
    sym =>
    simp [Zaa,Zab,Zad,Zae,Zaf,Zak,Zal,Zam,Zao,Zay,Zaz,Za0,Za1,Za2,Za3,Za4,Za5,Za9,Zba,Zbb,Zbf,Zbj,Zb7,Zcz,Zc5,Zdc,Zdd,Zde,Zdi,Zev,Zew,Zez,Ze0,Ze2,Ze3,Ze4,Ze5,Zfc,Zfd,Zfe,Zff,Zfg,Zfh,Zfn,Zfr,Zgd,Zgg,Zhb,Zhc,Zhf,Zhg,Zhh,Ziq,Zir,Zix,Ziz,Zi0,Zi2,Zi3,Zi7,Zjj,Zjk,Zjo,Zjw,Zka,Zky,Zk0,Zk4,Zla,Zlb,Zle,Zlj,Zlz,Zl0,Zl1,Zl2,Zl6,Zml,Zms,Zmt,Zmv,Zmw,Zmx,Zmz,Zm3,Zm9,Zna,Znb,Zne,Znf,Zng,Znh,Znl,Znm,Znn,Zno,Znp,Zof,Zog,Zos,Zot,Zo3,Zo4,Zo7,Zpb,Zph,Zpw,Zpz,Zp1,Zp2,Zp9,Zqd,Zqe,List.length_append,eq_self,true_and,and_true,Nat.zero_add,Nat.mul_one,callable_12]
    tactic =>
    refine cl none (hp) trivial ?_
    sym =>
    simp [Zaa,Zab,Zad,Zae,Zaf,Zak,Zal,Zam,Zao,Zay,Zaz,Za0,Za1,Za2,Za3,Za4,Za5,Za9,Zba,Zbb,Zbf,Zbj,Zb7,Zcz,Zc5,Zdc,Zdd,Zde,Zdi,Zev,Zew,Zez,Ze0,Ze2,Ze3,Ze4,Ze5,Zfc,Zfd,Zfe,Zff,Zfg,Zfh,Zfn,Zfr,Zgd,Zgg,Zhb,Zhc,Zhf,Zhg,Zhh,Ziq,Zir,Zix,Ziz,Zi0,Zi2,Zi3,Zi7,Zjj,Zjk,Zjo,Zjw,Zka,Zky,Zk0,Zk4,Zla,Zlb,Zle,Zlj,Zlz,Zl0,Zl1,Zl2,Zl6,Zml,Zms,Zmt,Zmv,Zmw,Zmx,Zmz,Zm3,Zm9,Zna,Znb,Zne,Znf,Zng,Znh,Znl,Znm,Znn,Zno,Znp,Zof,Zog,Zos,Zot,Zo3,Zo4,Zo7,Zpb,Zph,Zpw,Zpz,Zp1,Zp2,Zp9,Zqd,Zqe,List.length_append,eq_self,true_and,and_true,Nat.zero_add,Nat.mul_one,callable_21]
    tactic =>
    refine cl none (hb) trivial ?_
    sym =>
    simp [Zaa,Zab,Zad,Zae,Zaf,Zak,Zal,Zam,Zao,Zay,Zaz,Za0,Za1,Za2,Za3,Za4,Za5,Za9,Zba,Zbb,Zbf,Zbj,Zb7,Zcz,Zc5,Zdc,Zdd,Zde,Zdi,Zev,Zew,Zez,Ze0,Ze2,Ze3,Ze4,Ze5,Zfc,Zfd,Zfe,Zff,Zfg,Zfh,Zfn,Zfr,Zgd,Zgg,Zhb,Zhc,Zhf,Zhg,Zhh,Ziq,Zir,Zix,Ziz,Zi0,Zi2,Zi3,Zi7,Zjj,Zjk,Zjo,Zjw,Zka,Zky,Zk0,Zk4,Zla,Zlb,Zle,Zlj,Zlz,Zl0,Zl1,Zl2,Zl6,Zml,Zms,Zmt,Zmv,Zmw,Zmx,Zmz,Zm3,Zm9,Zna,Znb,Zne,Znf,Zng,Znh,Znl,Znm,Znn,Zno,Znp,Zof,Zog,Zos,Zot,Zo3,Zo4,Zo7,Zpb,Zph,Zpw,Zpz,Zp1,Zp2,Zp9,Zqd,Zqe,List.length_append,eq_self,true_and,and_true,Nat.zero_add,Nat.mul_one]
    tactic =>
    refine endA ?_
    sym =>
    simp [Zaa,Zab,Zad,Zae,Zaf,Zak,Zal,Zam,Zao,Zay,Zaz,Za0,Za1,Za2,Za3,Za4,Za5,Za9,Zba,Zbb,Zbf,Zbj,Zb7,Zcz,Zc5,Zdc,Zdd,Zde,Zdi,Zev,Zew,Zez,Ze0,Ze2,Ze3,Ze4,Ze5,Zfc,Zfd,Zfe,Zff,Zfg,Zfh,Zfn,Zfr,Zgd,Zgg,Zhb,Zhc,Zhf,Zhg,Zhh,Ziq,Zir,Zix,Ziz,Zi0,Zi2,Zi3,Zi7,Zjj,Zjk,Zjo,Zjw,Zka,Zky,Zk0,Zk4,Zla,Zlb,Zle,Zlj,Zlz,Zl0,Zl1,Zl2,Zl6,Zml,Zms,Zmt,Zmv,Zmw,Zmx,Zmz,Zm3,Zm9,Zna,Znb,Zne,Znf,Zng,Znh,Znl,Znm,Znn,Zno,Znp,Zof,Zog,Zos,Zot,Zo3,Zo4,Zo7,Zpb,Zph,Zpw,Zpz,Zp1,Zp2,Zp9,Zqd,Zqe,List.length_append,eq_self,true_and,and_true,Nat.zero_add,Nat.mul_one]
  · rw [if_pos h2]
    rw [h2] at hp
    obtain ⟨_, g1, g2⟩ := plain_most h2
    have hww : IntKind.i64.wrap (w - (1 : Int)) = w - 1 := w64 _ (by have := isW_iff h1; omega)
    obtain ⟨W, hW⟩ : ∃ W : Nat, w - 1 = IN W := ⟨(w - 1).toNat, by have := isW_iff h1; simp only [IN]; omega⟩
    have hWb : 1 ≤ W ∧ W ≤ 20 := by have := isW_iff h1; simp only [IN] at hW; omega
    rw [hW] at g2 ⊢
    rw [show w - 1 = IN W from hW] at hww
    have hww' : IntKind.i64.wrap (w - (1 : Int)) = IN W := by rw [hW]; exact hww
    have ho := octal_ok_own n W hWb g1 g2
    have hWn : (IN W).toNat = W := rfl
    rw [hWn]
    have hl := octN_length W n
    have hc := cB_length (octN W n)
    rw [hl] at hc
    have hlf : (octN W n ++ [0]).length = W + 1 := by simp [hl]
    have hca : cB (octN W n) ++ [Y 0] = cB (octN W n ++ [0]) := by rw [cB_append]; rfl
    have hI := cB_okI (octN W n)
    have hF := cB_okF (octN W n)
    refine con_j b7 rfl ?_
    sym =>
    simp [Zaa,Zab,Zad,Zae,Zaf,Zak,Zal,Zam,Zao,Zay,Zaz,Za0,Za1,Za2,Za3,Za4,Za5,Za9,Zba,Zbb,Zbf,Zbj,Zb7,Zcz,Zc5,Zdc,Zdd,Zde,Zdi,Zev,Zew,Zez,Ze0,Ze2,Ze3,Ze4,Ze5,Zfc,Zfd,Zfe,Zff,Zfg,Zfh,Zfn,Zfr,Zgd,Zgg,Zhb,Zhc,Zhf,Zhg,Zhh,Ziq,Zir,Zix,Ziz,Zi0,Zi2,Zi3,Zi7,Zjj,Zjk,Zjo,Zjw,Zka,Zky,Zk0,Zk4,Zla,Zlb,Zle,Zlj,Zlz,Zl0,Zl1,Zl2,Zl6,Zml,Zms,Zmt,Zmv,Zmw,Zmx,Zmz,Zm3,Zm9,Zna,Znb,Zne,Znf,Zng,Znh,Znl,Znm,Znn,Zno,Znp,Zof,Zog,Zos,Zot,Zo3,Zo4,Zo7,Zpb,Zph,Zpw,Zpz,Zp1,Zp2,Zp9,Zqd,Zqe,List.length_append,eq_self,true_and,and_true,Nat.zero_add,Nat.mul_one,callable_20]
    tactic =>
    refine cl none (hi) trivial ?_
    sym =>
    simp [Zaa,Zab,Zad,Zae,Zaf,Zak,Zal,Zam,Zao,Zay,Zaz,Za0,Za1,Za2,Za3,Za4,Za5,Za9,Zba,Zbb,Zbf,Zbj,Zb7,Zcz,Zc5,Zdc,Zdd,Zde,Zdi,Zev,Zew,Zez,Ze0,Ze2,Ze3,Ze4,Ze5,Zfc,Zfd,Zfe,Zff,Zfg,Zfh,Zfn,Zfr,Zgd,Zgg,Zhb,Zhc,Zhf,Zhg,Zhh,Ziq,Zir,Zix,Ziz,Zi0,Zi2,Zi3,Zi7,Zjj,Zjk,Zjo,Zjw,Zka,Zky,Zk0,Zk4,Zla,Zlb,Zle,Zlj,Zlz,Zl0,Zl1,Zl2,Zl6,Zml,Zms,Zmt,Zmv,Zmw,Zmx,Zmz,Zm3,Zm9,Zna,Znb,Zne,Znf,Zng,Znh,Znl,Znm,Znn,Zno,Znp,Zof,Zog,Zos,Zot,Zo3,Zo4,Zo7,Zpb,Zph,Zpw,Zpz,Zp1,Zp2,Zp9,Zqd,Zqe,List.length_append,eq_self,true_and,and_true,Nat.zero_add,Nat.mul_one,callable_12]
    tactic =>
    refine cl none (hp) trivial ?_
    sym =>
    simp [Zaa,Zab,Zad,Zae,Zaf,Zak,Zal,Zam,Zao,Zay,Zaz,Za0,Za1,Za2,Za3,Za4,Za5,Za9,Zba,Zbb,Zbf,Zbj,Zb7,Zcz,Zc5,Zdc,Zdd,Zde,Zdi,Zev,Zew,Zez,Ze0,Ze2,Ze3,Ze4,Ze5,Zfc,Zfd,Zfe,Zff,Zfg,Zfh,Zfn,Zfr,Zgd,Zgg,Zhb,Zhc,Zhf,Zhg,Zhh,Ziq,Zir,Zix,Ziz,Zi0,Zi2,Zi3,Zi7,Zjj,Zjk,Zjo,Zjw,Zka,Zky,Zk0,Zk4,Zla,Zlb,Zle,Zlj,Zlz,Zl0,Zl1,Zl2,Zl6,Zml,Zms,Zmt,Zmv,Zmw,Zmx,Zmz,Zm3,Zm9,Zna,Znb,Zne,Znf,Zng,Znh,Znl,Znm,Znn,Zno,Znp,Zof,Zog,Zos,Zot,Zo3,Zo4,Zo7,Zpb,Zph,Zpw,Zpz,Zp1,Zp2,Zp9,Zqd,Zqe,List.length_append,eq_self,true_and,and_true,Nat.zero_add,Nat.mul_one,hww',callable_9]
    tactic =>
    refine cl (some ⟨cB (octN W n), 1, 0⟩) ho ⟨rfl, cB_okI _⟩ ?_
    sym =>
    simp [Zaa,Zab,Zad,Zae,Zaf,Zak,Zal,Zam,Zao,Zay,Zaz,Za0,Za1,Za2,Za3,Za4,Za5,Za9,Zba,Zbb,Zbf,Zbj,Zb7,Zcz,Zc5,Zdc,Zdd,Zde,Zdi,Zev,Zew,Zez,Ze0,Ze2,Ze3,Ze4,Ze5,Zfc,Zfd,Zfe,Zff,Zfg,Zfh,Zfn,Zfr,Zgd,Zgg,Zhb,Zhc,Zhf,Zhg,Zhh,Ziq,Zir,Zix,Ziz,Zi0,Zi2,Zi3,Zi7,Zjj,Zjk,Zjo,Zjw,Zka,Zky,Zk0,Zk4,Zla,Zlb,Zle,Zlj,Zlz,Zl0,Zl1,Zl2,Zl6,Zml,Zms,Zmt,Zmv,Zmw,Zmx,Zmz,Zm3,Zm9,Zna,Znb,Zne,Znf,Zng,Znh,Znl,Znm,Znn,Zno,Znp,Zof,Zog,Zos,Zot,Zo3,Zo4,Zo7,Zpb,Zph,Zpw,Zpz,Zp1,Zp2,Zp9,Zqd,Zqe,List.length_append,eq_self,true_and,and_true,Nat.zero_add,Nat.mul_one,hc]
    tactic =>
    refine ⟨by omega, ?_⟩
    have hcl := cB_length (octN W n ++ [0])
    rw [hca, hl]
    refine endA ?_
    sym =>
    simp [Zaa,Zab,Zad,Zae,Zaf,Zak,Zal,Zam,Zao,Zay,Zaz,Za0,Za1,Za2,Za3,Za4,Za5,Za9,Zba,Zbb,Zbf,Zbj,Zb7,Zcz,Zc5,Zdc,Zdd,Zde,Zdi,Zev,Zew,Zez,Ze0,Ze2,Ze3,Ze4,Ze5,Zfc,Zfd,Zfe,Zff,Zfg,Zfh,Zfn,Zfr,Zgd,Zgg,Zhb,Zhc,Zhf,Zhg,Zhh,Ziq,Zir,Zix,Ziz,Zi0,Zi2,Zi3,Zi7,Zjj,Zjk,Zjo,Zjw,Zka,Zky,Zk0,Zk4,Zla,Zlb,Zle,Zlj,Zlz,Zl0,Zl1,Zl2,Zl6,Zml,Zms,Zmt,Zmv,Zmw,Zmx,Zmz,Zm3,Zm9,Zna,Znb,Zne,Znf,Zng,Znh,Znl,Znm,Znn,Zno,Znp,Zof,Zog,Zos,Zot,Zo3,Zo4,Zo7,Zpb,Zph,Zpw,Zpz,Zp1,Zp2,Zp9,Zqd,Zqe,List.length_append,eq_self,true_and,and_true,Nat.zero_add,Nat.mul_one]
    tactic =>
    exact ⟨(List.take_of_length_le (by omega)).symm, by omega, cB_okI _⟩
/-- The loop of the document's Put: the first byte, behind it what is written from the end. -/
def i8 (n w : Int) (W : Nat) (k : Nat) (s : St) : Prop := ∃ j : Nat, j + k = W ∧ s = ⟨[(0, I n), (8, .lv 0 0 (W + 1)), (9, I (n / 256 ^ j)), (10, I (IN W - (j : Int)))], [(0, ⟨cB (0 :: bak (beN W n) W j), 1, 0⟩)], 1⟩
end Go.Proofs.YthhccabdlajngaaDoor.NumB
