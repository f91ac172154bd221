import Derived.Test.YthhccabdlajngaaDoorNumC
namespace Go.Proofs.YthhccabdlajngaaDoor.NumD
open Go Go.Sim Go.Sim.E Go.RowKit Go.Proofs Go.Proofs.YthhccabdlajngaaDoor.Cod Go.Proofs.YthhccabdlajngaaDoor.Tab Go.Proofs.YthhccabdlajngaaDoor.Bse Go.Proofs.YthhccabdlajngaaDoor.NumA Go.Proofs.YthhccabdlajngaaDoor.NumB Go.Proofs.YthhccabdlajngaaDoor.NumC
set_option linter.unusedVariables false
set_option linter.unusedSimpArgs false
set_option maxRecDepth 100000
set_option maxHeartbeats 4000000
theorem nb0 {v : Int} (hv : v = 0 ∨ v = -1) (l : Nat) : nb v v l := by
  unfold nb
  by_cases h : 8 ≤ l
  · rw [if_pos h]
  · rw [if_neg h]
    obtain ⟨e, he⟩ : ∃ e, 8 - l = e + 1 := ⟨7 - l, by omega⟩
    have hp : (0 : Int) < 256 ^ e := Int.pow_pos (by decide)
    rw [he, Int.pow_succ]
    omega
def i31 (b : List Int) (c : Int) (R : List Int) (k : Nat) (s : St) : Prop := ∃ d : List Int, d.length = k ∧ d.length ≤ b.length ∧ d.dropWhile (· == c) = R ∧ s = ⟨[(0, fB d), (1, Y c)], [], 0⟩
theorem trimLB_con (b : List Int) (c : Int) (hl : b.length ≤ 1000) : Con Tryd.prog 31 [] [fB b, Y c] [] (fB (b.dropWhile (· == c))) := by
  obtain ⟨R, hR⟩ : ∃ R, R = b.dropWhile (· == c) := ⟨_, rfl⟩
  rw [← hR]
  refine con_j b31 rfl ?_
  sym =>
  simp [Zaa,Zab,Zad,Zae,Zaf,Zag,Zah,Zai,Zak,Zal,Zam,Zan,Zao,Zap,Zaq,Zav,Zaw,Zay,Zaz,Za0,Za1,Za2,Za3,Za4,Za5,Za6,Za7,Za8,Za9,Zba,Zbb,Zbd,Zbf,Zbt,Zb1,Zch,Zcn,Zev,Zew,Zex,Zez,Ze0,Ze2,Ze5,Zfd,Zfe,Zfh,Zfi,Zfk,Zfl,Zfn,Zfz,Zf3,Zgr,Zgu,Zg4,Zg6,Zhm,Zhn,Zho,Zhs,Zht,Zhu,Zh6,Zh7,Zmt,Zmv,Zmw,Zmx,Zmz,Zm2,Zm6,Zna,Znb,Zns,Znu,Znx,Zny,Zn5,Zrd,Zos,Zot,Zo7,Zo8,Zo9,Zpc,Zpi,Zpx,Zqf,Zqg,Zqh,Zqm,eq_self,true_and,and_true,not_false_eq_true,Nat.mul_one]
  tactic =>
  refine lpA (i31 b c R) b.length [] _ ⟨b, rfl, Nat.le_refl _, hR.symm, rfl⟩ (wkA ?_) ?_
  · sym =>
    simp [Zaa,Zab,Zad,Zae,Zaf,Zag,Zah,Zai,Zak,Zal,Zam,Zan,Zao,Zap,Zaq,Zav,Zaw,Zay,Zaz,Za0,Za1,Za2,Za3,Za4,Za5,Za6,Za7,Za8,Za9,Zba,Zbb,Zbd,Zbf,Zbt,Zb1,Zch,Zcn,Zev,Zew,Zex,Zez,Ze0,Ze2,Ze5,Zfd,Zfe,Zfh,Zfi,Zfk,Zfl,Zfn,Zfz,Zf3,Zgr,Zgu,Zg4,Zg6,Zhm,Zhn,Zho,Zhs,Zht,Zhu,Zh6,Zh7,Zmt,Zmv,Zmw,Zmx,Zmz,Zm2,Zm6,Zna,Znb,Zns,Znu,Znx,Zny,Zn5,Zrd,Zos,Zot,Zo7,Zo8,Zo9,Zpc,Zpi,Zpx,Zqf,Zqg,Zqh,Zqm,eq_self,true_and,and_true,not_false_eq_true,Nat.mul_one]
  rintro k s ⟨d, rfl, hdl, hu, rfl⟩
  rcases d with _ | ⟨x, r⟩
  · have hR0 : R = [] := hu.symm
    subst hR0
    sym =>
    simp [Zaa,Zab,Zad,Zae,Zaf,Zag,Zah,Zai,Zak,Zal,Zam,Zan,Zao,Zap,Zaq,Zav,Zaw,Zay,Zaz,Za0,Za1,Za2,Za3,Za4,Za5,Za6,Za7,Za8,Za9,Zba,Zbb,Zbd,Zbf,Zbt,Zb1,Zch,Zcn,Zev,Zew,Zex,Zez,Ze0,Ze2,Ze5,Zfd,Zfe,Zfh,Zfi,Zfk,Zfl,Zfn,Zfz,Zf3,Zgr,Zgu,Zg4,Zg6,Zhm,Zhn,Zho,Zhs,Zht,Zhu,Zh6,Zh7,Zmt,Zmv,Zmw,Zmx,Zmz,Zm2,Zm6,Zna,Znb,Zns,Znu,Znx,Zny,Zn5,Zrd,Zos,Zot,Zo7,Zo8,Zo9,Zpc,Zpi,Zpx,Zqf,Zqg,Zqh,Zqm,eq_self,true_and,and_true,not_false_eq_true,Nat.mul_one]
    tactic =>
    refine endA ?_
    sym =>
    simp [Zaa,Zab,Zad,Zae,Zaf,Zag,Zah,Zai,Zak,Zal,Zam,Zan,Zao,Zap,Zaq,Zav,Zaw,Zay,Zaz,Za0,Za1,Za2,Za3,Za4,Za5,Za6,Za7,Za8,Za9,Zba,Zbb,Zbd,Zbf,Zbt,Zb1,Zch,Zcn,Zev,Zew,Zex,Zez,Ze0,Ze2,Ze5,Zfd,Zfe,Zfh,Zfi,Zfk,Zfl,Zfn,Zfz,Zf3,Zgr,Zgu,Zg4,Zg6,Zhm,Zhn,Zho,Zhs,Zht,Zhu,Zh6,Zh7,Zmt,Zmv,Zmw,Zmx,Zmz,Zm2,Zm6,Zna,Znb,Zns,Znu,Znx,Zny,Zn5,Zrd,Zos,Zot,Zo7,Zo8,Zo9,Zpc,Zpi,Zpx,Zqf,Zqg,Zqh,Zqm,eq_self,true_and,and_true,not_false_eq_true,Nat.mul_one]
    tactic =>
    rfl
  · obtain ⟨m, hm⟩ : ∃ m, m = (x :: r).length := ⟨_, rfl⟩
    have hml : m = r.length + 1 := hm
    obtain ⟨y, hy⟩ : ∃ y, y = x :: r := ⟨_, rfl⟩
    have hg : (cB y).getD 0 .un = Y x := by rw [hy]; rfl
    have hq := cB_length y
    have hyl : y.length = m := by rw [hy, hm]
    have hgt : 0 < m := by omega
    have hle : 1 ≤ m := by omega
    have ed : List.drop 1 (cB y) = cB r := by rw [hy]; rfl
    have edl : m - 1 = r.length := by omega
    have eda := cB_all r
    rw [← hm] at hdl ⊢
    rw [← hy] at hu
    have hfy : fB (x :: r) = .fz m (cB y) := by rw [hy, hm]
    rw [hfy]
    have hm0 : ¬ m = 0 := by omega
    by_cases h : x = c
    · have hu2 : r.dropWhile (· == c) = R := by rw [← hu, hy, List.dropWhile_cons_of_pos (by simp [h])]
      sym =>
      simp [Zaa,Zab,Zad,Zae,Zaf,Zag,Zah,Zai,Zak,Zal,Zam,Zan,Zao,Zap,Zaq,Zav,Zaw,Zay,Zaz,Za0,Za1,Za2,Za3,Za4,Za5,Za6,Za7,Za8,Za9,Zba,Zbb,Zbd,Zbf,Zbt,Zb1,Zch,Zcn,Zev,Zew,Zex,Zez,Ze0,Ze2,Ze5,Zfd,Zfe,Zfh,Zfi,Zfk,Zfl,Zfn,Zfz,Zf3,Zgr,Zgu,Zg4,Zg6,Zhm,Zhn,Zho,Zhs,Zht,Zhu,Zh6,Zh7,Zmt,Zmv,Zmw,Zmx,Zmz,Zm2,Zm6,Zna,Znb,Zns,Znu,Znx,Zny,Zn5,Zrd,Zos,Zot,Zo7,Zo8,Zo9,Zpc,Zpi,Zpx,Zqf,Zqg,Zqh,Zqm,eq_self,true_and,and_true,not_false_eq_true,Nat.mul_one,hgt,hle,hg,h,ed,edl,eda]
      tactic =>
      refine ⟨by omega, by omega, ⟨by simp only [IN]; omega, Nat.le_refl _⟩, ?_⟩
      obtain ⟨q, hq0⟩ : ∃ q, q = r.length := ⟨_, rfl⟩
      unfold NextL; refine ⟨q, [], _, by omega, ⟨r, hq0.symm, by omega, hu2, rfl⟩, wkA ?_⟩
      sym =>
      simp [Zaa,Zab,Zad,Zae,Zaf,Zag,Zah,Zai,Zak,Zal,Zam,Zan,Zao,Zap,Zaq,Zav,Zaw,Zay,Zaz,Za0,Za1,Za2,Za3,Za4,Za5,Za6,Za7,Za8,Za9,Zba,Zbb,Zbd,Zbf,Zbt,Zb1,Zch,Zcn,Zev,Zew,Zex,Zez,Ze0,Ze2,Ze5,Zfd,Zfe,Zfh,Zfi,Zfk,Zfl,Zfn,Zfz,Zf3,Zgr,Zgu,Zg4,Zg6,Zhm,Zhn,Zho,Zhs,Zht,Zhu,Zh6,Zh7,Zmt,Zmv,Zmw,Zmx,Zmz,Zm2,Zm6,Zna,Znb,Zns,Znu,Znx,Zny,Zn5,Zrd,Zos,Zot,Zo7,Zo8,Zo9,Zpc,Zpi,Zpx,Zqf,Zqg,Zqh,Zqm,eq_self,true_and,and_true,not_false_eq_true,Nat.mul_one]
    · have hu2 : y = R := by rw [← hu, hy, List.dropWhile_cons_of_neg (by simp [h])]
      subst hu2
      rw [hyl]
      sym =>
      simp [Zaa,Zab,Zad,Zae,Zaf,Zag,Zah,Zai,Zak,Zal,Zam,Zan,Zao,Zap,Zaq,Zav,Zaw,Zay,Zaz,Za0,Za1,Za2,Za3,Za4,Za5,Za6,Za7,Za8,Za9,Zba,Zbb,Zbd,Zbf,Zbt,Zb1,Zch,Zcn,Zev,Zew,Zex,Zez,Ze0,Ze2,Ze5,Zfd,Zfe,Zfh,Zfi,Zfk,Zfl,Zfn,Zfz,Zf3,Zgr,Zgu,Zg4,Zg6,Zhm,Zhn,Zho,Zhs,Zht,Zhu,Zh6,Zh7,Zmt,Zmv,Zmw,Zmx,Zmz,Zm2,Zm6,Zna,Znb,Zns,Znu,Znx,Zny,Zn5,Zrd,Zos,Zot,Zo7,Zo8,Zo9,Zpc,Zpi,Zpx,Zqf,Zqg,Zqh,Zqm,eq_self,true_and,and_true,not_false_eq_true,Nat.mul_one,hgt,hle,hg,h,hm0]
      tactic =>
      refine ⟨by omega, by omega, endA ?_⟩
      sym =>
      simp [Zaa,Zab,Zad,Zae,Zaf,Zag,Zah,Zai,Zak,Zal,Zam,Zan,Zao,Zap,Zaq,Zav,Zaw,Zay,Zaz,Za0,Za1,Za2,Za3,Za4,Za5,Za6,Za7,Za8,Za9,Zba,Zbb,Zbd,Zbf,Zbt,Zb1,Zch,Zcn,Zev,Zew,Zex,Zez,Ze0,Ze2,Ze5,Zfd,Zfe,Zfh,Zfi,Zfk,Zfl,Zfn,Zfz,Zf3,Zgr,Zgu,Zg4,Zg6,Zhm,Zhn,Zho,Zhs,Zht,Zhu,Zh6,Zh7,Zmt,Zmv,Zmw,Zmx,Zmz,Zm2,Zm6,Zna,Znb,Zns,Znu,Znx,Zny,Zn5,Zrd,Zos,Zot,Zo7,Zo8,Zo9,Zpc,Zpi,Zpx,Zqf,Zqg,Zqh,Zqm,eq_self,true_and,and_true,not_false_eq_true,Nat.mul_one]
/-- The bytes that are trimmed, as a set. -/
def bl : List AV := ((List.replicate 256 (Bo false)).set 32 (Bo true)).set 0 (Bo true)
theorem bl_get (x : Int) (h : 0 ≤ x ∧ x < 256) : bl.getD x.toNat .un = Bo (NumA.blank x) := by
  obtain ⟨n, rfl⟩ := Int.eq_ofNat_of_zero_le h.1
  have hn : n < 256 := by omega
  have e : (n : Int).toNat = n := rfl
  rw [e]
  unfold bl
  rw [List.getD_eq_getElem?_getD]
  by_cases h0 : n = 0
  · subst h0; rfl
  · rw [List.getElem?_set_ne (by omega)]
    by_cases h32 : n = 32
    · subst h32; rfl
    · rw [List.getElem?_set_ne (by omega), List.getElem?_replicate, if_pos hn]
      have : NumA.blank (n : Int) = false := by
        unfold NumA.blank
        rw [if_neg (by omega)]
        exact decide_eq_false (by omega)
      rw [this]; rfl
theorem bl_len : bl.length = 256 := by
  unfold bl
  rw [List.length_set, List.length_set, List.length_replicate]
theorem has_con (x : Int) (h : 0 ≤ x ∧ x < 256) : Con Tryd.prog 38 [] [.fp bl 0, Y x] [] (Bo (NumA.blank x)) := by
  have hg := bl_get x h
  have hl := bl_len
  have hlt : x < IN 256 := by simp only [IN]; omega
  refine con_j b38 rfl ?_
  sym =>
  simp [Zab,Zad,Zak,Zam,Zaz,Za0,Za1,Za2,Za3,Za4,Za5,Za9,Zba,Zbb,Zbt,Zbz,Zcd,Zev,Zew,Zez,Ze0,Ze2,Ze5,Zfd,Zfe,Zfh,Zgr,Zgu,Zg1,Zg3,Zhj,Zhl,Zho,Zmt,Zmv,Zmw,Zmx,Zmz,Zm2,Zm6,Zna,Znb,Zos,Zot,Zo7,Zpc,eq_self,true_and,and_true,Nat.zero_add,Nat.mul_one,hg,hl,hlt]
  tactic =>
  refine ⟨h.1, by omega, endA ?_⟩
  sym =>
  simp [Zab,Zad,Zak,Zam,Zaz,Za0,Za1,Za2,Za3,Za4,Za5,Za9,Zba,Zbb,Zbt,Zbz,Zcd,Zev,Zew,Zez,Ze0,Ze2,Ze5,Zfd,Zfe,Zfh,Zgr,Zgu,Zg1,Zg3,Zhj,Zhl,Zho,Zmt,Zmv,Zmw,Zmx,Zmz,Zm2,Zm6,Zna,Znb,Zos,Zot,Zo7,Zpc,eq_self,true_and,and_true,Nat.zero_add,Nat.mul_one]
def i32 (S : ByteArray) (k : Nat) (s : St) : Prop := (k = 2 ∧ s = ⟨[(0, .sc (.string S)), (2, .pt 0 0), (4, I (IN 0))], [(0, ⟨List.replicate 256 (Bo false), 1, 0⟩)], 1⟩) ∨
  (k = 1 ∧ s = ⟨[(0, .sc (.string S)), (2, .pt 0 0), (4, I (IN 1))], [(0, ⟨(List.replicate 256 (Bo false)).set 32 (Bo true), 1, 0⟩)], 1⟩) ∨
  (k = 0 ∧ s = ⟨[(0, .sc (.string S)), (2, .pt 0 0), (4, I (IN 2))], [(0, ⟨bl, 1, 0⟩)], 1⟩)
theorem set_con (S : ByteArray) (hS : S = ⟨#[32, 0]⟩) : Con Tryd.prog 32 [] [.sc (.string S)] [] (.tu [.ag bl, Bo true]) := by
  have hs : S.size = 2 := by rw [hS]; rfl
  have p0 : 0 < S.size := by omega
  have p1 : (1 : Int) < IN S.size := by simp only [IN]; omega
  have p2 : ¬ (2 : Int) < IN S.size := by simp only [IN]; omega
  have hz : okI (List.replicate 256 (Bo false)) := by intro x hx; rw [List.eq_of_mem_replicate hx]; rfl
  obtain ⟨z, hz0⟩ : ∃ z, z = List.replicate 256 (Bo false) := ⟨_, rfl⟩
  have hbl : (z.set 32 (Bo true)).set 0 (Bo true) = bl := by rw [hz0]; rfl
  have hbI : okI bl := by
    unfold bl
    intro x hx
    rcases List.mem_or_eq_of_mem_set hx with hx | rfl
    · rcases List.mem_or_eq_of_mem_set hx with hx | rfl
      · rw [List.eq_of_mem_replicate hx]; rfl
      · rfl
    · rfl
  have hzI : okI (z.set 32 (Bo true)) := by
    intro x hx
    rcases List.mem_or_eq_of_mem_set hx with hx | rfl
    · rw [hz0] at hx; rw [List.eq_of_mem_replicate hx]; rfl
    · rfl
  have s0 : sAt S 0 = 32 := by rw [hS]; rfl
  have s1 : sAt S 1 = 0 := by rw [hS]; rfl
  have n32 : (32 : Int).toNat = 32 := rfl
  have hzl : z.length = 256 := by rw [hz0]; exact List.length_replicate
  refine con_j b32 rfl ?_
  sym =>
  simp [Zaa,Zab,Zad,Zae,Zaf,Zag,Zah,Zai,Zak,Zal,Zam,Zan,Zap,Zaq,Zav,Zaw,Zay,Zaz,Za0,Za1,Za2,Za3,Za4,Za5,Za9,Zba,Zbb,Zbf,Zbt,Zbz,Zb5,Zcl,Zcv,Zc3,Zev,Zew,Zez,Ze0,Ze1,Ze2,Ze3,Ze5,Ze8,Zfc,Zfd,Zfe,Zfh,Zfn,Zfq,Zf1,Zf4,Zgr,Zgs,Zgt,Zgv,Zg1,Zg2,Zg9,Zha,Zho,Zh4,Zh5,Zin,Ziu,Ziv,Ziw,Zi6,Zi8,Zjh,Zji,Zjs,Zmt,Zmv,Zmw,Zmx,Zmy,Zmz,Zm0,Zm1,Zm3,Zm5,Zna,Znb,Znn,Zno,Znr,Znx,Zn5,Zn6,Zn7,Zrd,Zos,Zot,Zo7,Zo8,Zo9,Zpb,Zpc,Zpu,Zp7,Zp9,Zqd,Zqe,Zqf,Zqg,Zqh,Zqi,Zqk,Zql,Zqm,Zqn,Zqr,List.length_replicate,List.length_set,eq_self,true_and,and_true]
  tactic =>
  refine lpA (i32 S) 2 [(0, 0)] _ (.inl ⟨rfl, rfl⟩) (wkA ?_) ?_
  · sym =>
    simp [Zaa,Zab,Zad,Zae,Zaf,Zag,Zah,Zai,Zak,Zal,Zam,Zan,Zap,Zaq,Zav,Zaw,Zay,Zaz,Za0,Za1,Za2,Za3,Za4,Za5,Za9,Zba,Zbb,Zbf,Zbt,Zbz,Zb5,Zcl,Zcv,Zc3,Zev,Zew,Zez,Ze0,Ze1,Ze2,Ze3,Ze5,Ze8,Zfc,Zfd,Zfe,Zfh,Zfn,Zfq,Zf1,Zf4,Zgr,Zgs,Zgt,Zgv,Zg1,Zg2,Zg9,Zha,Zho,Zh4,Zh5,Zin,Ziu,Ziv,Ziw,Zi6,Zi8,Zjh,Zji,Zjs,Zmt,Zmv,Zmw,Zmx,Zmy,Zmz,Zm0,Zm1,Zm3,Zm5,Zna,Znb,Znn,Zno,Znr,Znx,Zn5,Zn6,Zn7,Zrd,Zos,Zot,Zo7,Zo8,Zo9,Zpb,Zpc,Zpu,Zp7,Zp9,Zqd,Zqe,Zqf,Zqg,Zqh,Zqi,Zqk,Zql,Zqm,Zqn,Zqr,List.length_replicate,List.length_set,eq_self,true_and,and_true]
    tactic =>
    exact rs_self hz
  rintro k s (⟨rfl, rfl⟩ | ⟨rfl, rfl⟩ | ⟨rfl, rfl⟩)
  · rw [← hz0]
    sym =>
    simp [Zaa,Zab,Zad,Zae,Zaf,Zag,Zah,Zai,Zak,Zal,Zam,Zan,Zap,Zaq,Zav,Zaw,Zay,Zaz,Za0,Za1,Za2,Za3,Za4,Za5,Za9,Zba,Zbb,Zbf,Zbt,Zbz,Zb5,Zcl,Zcv,Zc3,Zev,Zew,Zez,Ze0,Ze1,Ze2,Ze3,Ze5,Ze8,Zfc,Zfd,Zfe,Zfh,Zfn,Zfq,Zf1,Zf4,Zgr,Zgs,Zgt,Zgv,Zg1,Zg2,Zg9,Zha,Zho,Zh4,Zh5,Zin,Ziu,Ziv,Ziw,Zi6,Zi8,Zjh,Zji,Zjs,Zmt,Zmv,Zmw,Zmx,Zmy,Zmz,Zm0,Zm1,Zm3,Zm5,Zna,Znb,Znn,Zno,Znr,Znx,Zn5,Zn6,Zn7,Zrd,Zos,Zot,Zo7,Zo8,Zo9,Zpb,Zpc,Zpu,Zp7,Zp9,Zqd,Zqe,Zqf,Zqg,Zqh,Zqi,Zqk,Zql,Zqm,Zqn,Zqr,List.length_replicate,List.length_set,eq_self,true_and,and_true,p0,s0,n32,hzl]
    tactic =>
    and_intros
    all_goals try (first | decide | (simp only [IN]; omega))
    unfold NextL; refine ⟨(1), [(0, 0)], _, by omega, (.inr (.inl ⟨rfl, rfl⟩)), wkA ?_⟩
    rw [← hz0]
    sym =>
    simp [Zaa,Zab,Zad,Zae,Zaf,Zag,Zah,Zai,Zak,Zal,Zam,Zan,Zap,Zaq,Zav,Zaw,Zay,Zaz,Za0,Za1,Za2,Za3,Za4,Za5,Za9,Zba,Zbb,Zbf,Zbt,Zbz,Zb5,Zcl,Zcv,Zc3,Zev,Zew,Zez,Ze0,Ze1,Ze2,Ze3,Ze5,Ze8,Zfc,Zfd,Zfe,Zfh,Zfn,Zfq,Zf1,Zf4,Zgr,Zgs,Zgt,Zgv,Zg1,Zg2,Zg9,Zha,Zho,Zh4,Zh5,Zin,Ziu,Ziv,Ziw,Zi6,Zi8,Zjh,Zji,Zjs,Zmt,Zmv,Zmw,Zmx,Zmy,Zmz,Zm0,Zm1,Zm3,Zm5,Zna,Znb,Znn,Zno,Znr,Znx,Zn5,Zn6,Zn7,Zrd,Zos,Zot,Zo7,Zo8,Zo9,Zpb,Zpc,Zpu,Zp7,Zp9,Zqd,Zqe,Zqf,Zqg,Zqh,Zqi,Zqk,Zql,Zqm,Zqn,Zqr,List.length_replicate,List.length_set,eq_self,true_and,and_true]
    tactic =>
    exact ⟨by decide, rs_self hzI⟩
  · rw [← hz0]
    sym =>
    simp [Zaa,Zab,Zad,Zae,Zaf,Zag,Zah,Zai,Zak,Zal,Zam,Zan,Zap,Zaq,Zav,Zaw,Zay,Zaz,Za0,Za1,Za2,Za3,Za4,Za5,Za9,Zba,Zbb,Zbf,Zbt,Zbz,Zb5,Zcl,Zcv,Zc3,Zev,Zew,Zez,Ze0,Ze1,Ze2,Ze3,Ze5,Ze8,Zfc,Zfd,Zfe,Zfh,Zfn,Zfq,Zf1,Zf4,Zgr,Zgs,Zgt,Zgv,Zg1,Zg2,Zg9,Zha,Zho,Zh4,Zh5,Zin,Ziu,Ziv,Ziw,Zi6,Zi8,Zjh,Zji,Zjs,Zmt,Zmv,Zmw,Zmx,Zmy,Zmz,Zm0,Zm1,Zm3,Zm5,Zna,Znb,Znn,Zno,Znr,Znx,Zn5,Zn6,Zn7,Zrd,Zos,Zot,Zo7,Zo8,Zo9,Zpb,Zpc,Zpu,Zp7,Zp9,Zqd,Zqe,Zqf,Zqg,Zqh,Zqi,Zqk,Zql,Zqm,Zqn,Zqr,List.length_replicate,List.length_set,eq_self,true_and,and_true,p1,s1,hzl]
    tactic =>
    unfold NextL; refine ⟨(0), [(0, 0)], _, by omega, (.inr (.inr ⟨rfl, rfl⟩)), wkA ?_⟩
    rw [hbl]
    sym =>
    simp [Zaa,Zab,Zad,Zae,Zaf,Zag,Zah,Zai,Zak,Zal,Zam,Zan,Zap,Zaq,Zav,Zaw,Zay,Zaz,Za0,Za1,Za2,Za3,Za4,Za5,Za9,Zba,Zbb,Zbf,Zbt,Zbz,Zb5,Zcl,Zcv,Zc3,Zev,Zew,Zez,Ze0,Ze1,Ze2,Ze3,Ze5,Ze8,Zfc,Zfd,Zfe,Zfh,Zfn,Zfq,Zf1,Zf4,Zgr,Zgs,Zgt,Zgv,Zg1,Zg2,Zg9,Zha,Zho,Zh4,Zh5,Zin,Ziu,Ziv,Ziw,Zi6,Zi8,Zjh,Zji,Zjs,Zmt,Zmv,Zmw,Zmx,Zmy,Zmz,Zm0,Zm1,Zm3,Zm5,Zna,Znb,Znn,Zno,Znr,Znx,Zn5,Zn6,Zn7,Zrd,Zos,Zot,Zo7,Zo8,Zo9,Zpb,Zpc,Zpu,Zp7,Zp9,Zqd,Zqe,Zqf,Zqg,Zqh,Zqi,Zqk,Zql,Zqm,Zqn,Zqr,List.length_replicate,List.length_set,eq_self,true_and,and_true]
    tactic =>
    exact ⟨by decide, rs_self hbI⟩
  · have hr := rdb_all bl_len
    have hsp := spl_new bl bl rfl
    have hll := bl_len
    have hc : ∀ st, okCells st bl := fun st => okF_cells (by
      unfold bl
      intro x hx
      rcases List.mem_or_eq_of_mem_set hx with hx | rfl
      · rcases List.mem_or_eq_of_mem_set hx with hx | rfl
        · rw [List.eq_of_mem_replicate hx]; rfl
        · rfl
      · rfl) st
    sym =>
    simp [Zaa,Zab,Zad,Zae,Zaf,Zag,Zah,Zai,Zak,Zal,Zam,Zan,Zap,Zaq,Zav,Zaw,Zay,Zaz,Za0,Za1,Za2,Za3,Za4,Za5,Za9,Zba,Zbb,Zbf,Zbt,Zbz,Zb5,Zcl,Zcv,Zc3,Zev,Zew,Zez,Ze0,Ze1,Ze2,Ze3,Ze5,Ze8,Zfc,Zfd,Zfe,Zfh,Zfn,Zfq,Zf1,Zf4,Zgr,Zgs,Zgt,Zgv,Zg1,Zg2,Zg9,Zha,Zho,Zh4,Zh5,Zin,Ziu,Ziv,Ziw,Zi6,Zi8,Zjh,Zji,Zjs,Zmt,Zmv,Zmw,Zmx,Zmy,Zmz,Zm0,Zm1,Zm3,Zm5,Zna,Znb,Znn,Zno,Znr,Znx,Zn5,Zn6,Zn7,Zrd,Zos,Zot,Zo7,Zo8,Zo9,Zpb,Zpc,Zpu,Zp7,Zp9,Zqd,Zqe,Zqf,Zqg,Zqh,Zqi,Zqk,Zql,Zqm,Zqn,Zqr,List.length_replicate,List.length_set,eq_self,true_and,and_true,p2,hr,hsp,hll]
    tactic =>
    refine ⟨hc _, endA ?_⟩
    sym =>
    simp [Zaa,Zab,Zad,Zae,Zaf,Zag,Zah,Zai,Zak,Zal,Zam,Zan,Zap,Zaq,Zav,Zaw,Zay,Zaz,Za0,Za1,Za2,Za3,Za4,Za5,Za9,Zba,Zbb,Zbf,Zbt,Zbz,Zb5,Zcl,Zcv,Zc3,Zev,Zew,Zez,Ze0,Ze1,Ze2,Ze3,Ze5,Ze8,Zfc,Zfd,Zfe,Zfh,Zfn,Zfq,Zf1,Zf4,Zgr,Zgs,Zgt,Zgv,Zg1,Zg2,Zg9,Zha,Zho,Zh4,Zh5,Zin,Ziu,Ziv,Ziw,Zi6,Zi8,Zjh,Zji,Zjs,Zmt,Zmv,Zmw,Zmx,Zmy,Zmz,Zm0,Zm1,Zm3,Zm5,Zna,Znb,Znn,Zno,Znr,Znx,Zn5,Zn6,Zn7,Zrd,Zos,Zot,Zo7,Zo8,Zo9,Zpb,Zpc,Zpu,Zp7,Zp9,Zqd,Zqe,Zqf,Zqg,Zqh,Zqi,Zqk,Zql,Zqm,Zqn,Zqr,List.length_replicate,List.length_set,eq_self,true_and,and_true]
    tactic =>
    exact rs_self hbI
end Go.Proofs.YthhccabdlajngaaDoor.NumD
