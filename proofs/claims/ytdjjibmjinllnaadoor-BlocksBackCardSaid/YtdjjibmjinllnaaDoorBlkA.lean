import Derived.Test.YtdjjibmjinllnaaDoorCodA
import Derived.Test.YtdjjibmjinllnaaDoorTab
import Derived.Test.YtdjjibmjinllnaaDoorBse
namespace Go.Proofs.YtdjjibmjinllnaaDoor.BlkA
open Go Go.Sim Go.Sim.E Go.RowKit Go.Proofs Go.Proofs.YtdjjibmjinllnaaDoor.Cod Go.Proofs.YtdjjibmjinllnaaDoor.Tab Go.Proofs.YtdjjibmjinllnaaDoor.Bse
set_option linter.unusedVariables false
set_option linter.unusedSimpArgs false
set_option maxRecDepth 100000
set_option maxHeartbeats 4000000
/-! ### blocks, plainly -/
/-- So many noughts. -/
def zs (n : Nat) : List Int := List.replicate n 0
theorem zs_length (n : Nat) : (zs n).length = n := List.length_replicate
theorem zs_get (n i : Nat) (h : i < n) : (zs n).getD i 0 = 0 := by
  unfold zs
  rw [List.getD_eq_getElem?_getD, List.getElem?_replicate, if_pos h]; rfl
theorem zs_take (n m : Nat) (h : m ≤ n) : (zs n).take m = zs m := by
  unfold zs; rw [List.take_replicate, Nat.min_eq_left h]
theorem zs_cB (n : Nat) : cB (zs n) = List.replicate n (Y 0) := by
  unfold zs cB; rw [List.map_replicate]
/-- How many blocks. -/
def cntI (n : Int) : Int := if n < 1 then 0 else (n - 1) / 512 + 1
/-- How many noughts fill up. -/
def padI (n : Int) : Int := if n < 1 then 0 else (512 - n % 512) % 512
theorem cnt_pad (n : Int) (h : 1 ≤ n) : 512 * cntI n = n + padI n := by
  unfold cntI padI
  rw [if_neg (by omega), if_neg (by omega)]; omega
theorem pad_bd (n : Int) : 0 ≤ padI n ∧ padI n < 512 := by
  unfold padI; split <;> omega
theorem count_con (n : Int) (hn : -9223372036854775808 ≤ n ∧ n ≤ 9223372036854775807) : Con Tryd.prog 7 [] [I n] [] (I (cntI n)) := by
  by_cases h : n < 1
  · have e : cntI n = 0 := by unfold cntI; rw [if_pos h]
    rw [e]
    refine con_j b7 rfl ?_
    sym =>
    simp [Zaa,Zab,Zad,Zae,Zaf,Zak,Zal,Zam,Zao,Zay,Zaz,Za0,Za1,Za2,Za3,Za4,Za5,Za9,Zba,Zbb,Zbf,Zev,Zew,Zez,Ze0,Ze2,Zfd,Zfe,Zfh,Zfn,Zfq,Zfr,Zft,Zf1,Zmt,Zmv,Zmw,Zmx,Zmz,Zm2,Zna,Znb,Zos,Zot,Zo7,Zo8,Zo9,Zpc,Zqr,eq_self,true_and,h]
    tactic =>
    refine endA ?_
    sym =>
    simp [Zaa,Zab,Zad,Zae,Zaf,Zak,Zal,Zam,Zao,Zay,Zaz,Za0,Za1,Za2,Za3,Za4,Za5,Za9,Zba,Zbb,Zbf,Zev,Zew,Zez,Ze0,Ze2,Zfd,Zfe,Zfh,Zfn,Zfq,Zfr,Zft,Zf1,Zmt,Zmv,Zmw,Zmx,Zmz,Zm2,Zna,Znb,Zos,Zot,Zo7,Zo8,Zo9,Zpc,Zqr,eq_self,true_and]
  · have e1 : IntKind.i64.wrap (n - 1) = n - 1 := w64 _ (by omega)
    have e : IntKind.i64.wrap (IntKind.i64.wrap ((n - 1).tdiv 512) + 1) = cntI n := by
      unfold cntI
      rw [if_neg h, Int.tdiv_eq_ediv_of_nonneg (by omega), w64 ((n - 1) / 512) (by omega), w64 _ (by omega)]
    refine con_j b7 rfl ?_
    sym =>
    simp [Zaa,Zab,Zad,Zae,Zaf,Zak,Zal,Zam,Zao,Zay,Zaz,Za0,Za1,Za2,Za3,Za4,Za5,Za9,Zba,Zbb,Zbf,Zev,Zew,Zez,Ze0,Ze2,Zfd,Zfe,Zfh,Zfn,Zfq,Zfr,Zft,Zf1,Zmt,Zmv,Zmw,Zmx,Zmz,Zm2,Zna,Znb,Zos,Zot,Zo7,Zo8,Zo9,Zpc,Zqr,eq_self,true_and,h,e1]
    tactic =>
    refine endA ?_
    sym =>
    simp [Zaa,Zab,Zad,Zae,Zaf,Zak,Zal,Zam,Zao,Zay,Zaz,Za0,Za1,Za2,Za3,Za4,Za5,Za9,Zba,Zbb,Zbf,Zev,Zew,Zez,Ze0,Ze2,Zfd,Zfe,Zfh,Zfn,Zfq,Zfr,Zft,Zf1,Zmt,Zmv,Zmw,Zmx,Zmz,Zm2,Zna,Znb,Zos,Zot,Zo7,Zo8,Zo9,Zpc,Zqr,eq_self,true_and]
    tactic =>
    rw [e]
theorem pad_con (n : Int) (hn : -9223372036854775808 ≤ n ∧ n ≤ 9223372036854775807) : Con Tryd.prog 8 [] [I n] [] (I (padI n)) := by
  by_cases h : n < 1
  · have e : padI n = 0 := by unfold padI; rw [if_pos h]
    rw [e]
    refine con_j b8 rfl ?_
    sym =>
    simp [Zaa,Zab,Zad,Zae,Zaf,Zak,Zal,Zam,Zao,Zay,Zaz,Za0,Za1,Za2,Za3,Za4,Za5,Za9,Zba,Zbb,Zbf,Zev,Zew,Zez,Ze0,Ze2,Zfd,Zfe,Zfh,Zfn,Zfr,Zfu,Zf1,Zmt,Zmv,Zmw,Zmx,Zmz,Zm2,Zna,Znb,Zos,Zot,Zo7,Zo8,Zo9,Zpc,Zqr,eq_self,true_and,h]
    tactic =>
    refine endA ?_
    sym =>
    simp [Zaa,Zab,Zad,Zae,Zaf,Zak,Zal,Zam,Zao,Zay,Zaz,Za0,Za1,Za2,Za3,Za4,Za5,Za9,Zba,Zbb,Zbf,Zev,Zew,Zez,Ze0,Ze2,Zfd,Zfe,Zfh,Zfn,Zfr,Zfu,Zf1,Zmt,Zmv,Zmw,Zmx,Zmz,Zm2,Zna,Znb,Zos,Zot,Zo7,Zo8,Zo9,Zpc,Zqr,eq_self,true_and]
  · have e : (IntKind.i64.wrap (512 - n.tmod 512)).tmod 512 = padI n := by
      unfold padI
      rw [if_neg h, Int.tmod_eq_emod_of_nonneg (a := n) (by omega), w64 (512 - n % 512) (by omega), Int.tmod_eq_emod_of_nonneg (by omega)]
    refine con_j b8 rfl ?_
    sym =>
    simp [Zaa,Zab,Zad,Zae,Zaf,Zak,Zal,Zam,Zao,Zay,Zaz,Za0,Za1,Za2,Za3,Za4,Za5,Za9,Zba,Zbb,Zbf,Zev,Zew,Zez,Ze0,Ze2,Zfd,Zfe,Zfh,Zfn,Zfr,Zfu,Zf1,Zmt,Zmv,Zmw,Zmx,Zmz,Zm2,Zna,Znb,Zos,Zot,Zo7,Zo8,Zo9,Zpc,Zqr,eq_self,true_and,h]
    tactic =>
    refine endA ?_
    sym =>
    simp [Zaa,Zab,Zad,Zae,Zaf,Zak,Zal,Zam,Zao,Zay,Zaz,Za0,Za1,Za2,Za3,Za4,Za5,Za9,Zba,Zbb,Zbf,Zev,Zew,Zez,Ze0,Ze2,Zfd,Zfe,Zfh,Zfn,Zfr,Zfu,Zf1,Zmt,Zmv,Zmw,Zmx,Zmz,Zm2,Zna,Znb,Zos,Zot,Zo7,Zo8,Zo9,Zpc,Zqr,eq_self,true_and]
    tactic =>
    rw [e]
theorem has_con (b : List Int) (n : Int) (hn : -9223372036854775808 ≤ n ∧ n ≤ 9223372036854775807) (hl : b.length < 4611686018427387904) (h : cntI n ≤ (b.length : Int) / 512) : Con Tryd.prog 15 [] [fB b, I n] [] (Bo true) := by
  have e1 : IntKind.i64.wrap ((IN b.length).tdiv 512) = (b.length : Int) / 512 := by
    simp only [IN]
    rw [Int.tdiv_eq_ediv_of_nonneg (by omega), w64 _ (by omega)]
  refine con_j b15 rfl ?_
  sym =>
  simp [Zab,Zad,Zak,Zam,Zaz,Za0,Za1,Za2,Za3,Za4,Za5,Za9,Zba,Zbb,Zbf,Zcn,Zdc,Zdd,Zde,Zdi,Zev,Zew,Zez,Ze0,Ze2,Ze5,Zfd,Zfe,Zfh,Zfn,Zft,Zf2,Zh6,Zh7,Zjr,Zla,Zlb,Zle,Zlj,Zlz,Zmt,Zmv,Zmw,Zmx,Zmz,Zm2,Zna,Znb,Zne,Znf,Zng,Zos,Zot,Zou,Zo7,Zpc,Zqs,eq_self,true_and,and_true,callable_7]
  tactic =>
  refine cl none (count_con n hn) trivial ?_
  sym =>
  simp [Zab,Zad,Zak,Zam,Zaz,Za0,Za1,Za2,Za3,Za4,Za5,Za9,Zba,Zbb,Zbf,Zcn,Zdc,Zdd,Zde,Zdi,Zev,Zew,Zez,Ze0,Ze2,Ze5,Zfd,Zfe,Zfh,Zfn,Zft,Zf2,Zh6,Zh7,Zjr,Zla,Zlb,Zle,Zlj,Zlz,Zmt,Zmv,Zmw,Zmx,Zmz,Zm2,Zna,Znb,Zne,Znf,Zng,Zos,Zot,Zou,Zo7,Zpc,Zqs,eq_self,true_and,and_true]
  tactic =>
  refine endA ?_
  sym =>
  simp [Zab,Zad,Zak,Zam,Zaz,Za0,Za1,Za2,Za3,Za4,Za5,Za9,Zba,Zbb,Zbf,Zcn,Zdc,Zdd,Zde,Zdi,Zev,Zew,Zez,Ze0,Ze2,Ze5,Zfd,Zfe,Zfh,Zfn,Zft,Zf2,Zh6,Zh7,Zjr,Zla,Zlb,Zle,Zlj,Zlz,Zmt,Zmv,Zmw,Zmx,Zmz,Zm2,Zna,Znb,Zne,Znf,Zng,Zos,Zot,Zou,Zo7,Zpc,Zqs,eq_self,true_and,and_true]
  tactic =>
  rw [e1]
  exact h
theorem bclone_con (l : List Int) (hl : l.length ≤ 140737488355328) : Con Tryd.prog 14 [] [fB l] [(0, ⟨cB l, 1, 0⟩)] (.lv 0 0 l.length) := by
  refine con_o b14 rfl ?_
  sym =>
  simp [Zaa,Zab,Zad,Zae,Zaf,Zak,Zal,Zam,Zao,Zay,Zaz,Za0,Za1,Za2,Za3,Za4,Za5,Za9,Zba,Zbb,Zcz,Zc5,Zda,Zdb,Zev,Zew,Zez,Ze0,Ze2,Ze3,Ze4,Ze5,Zfb,Zfc,Zfd,Zfe,Zff,Zfg,Zfh,Zhf,Ziq,Zir,Zix,Ziz,Zi0,Zi1,Zmt,Zmv,Zmw,Zmx,Zmz,Zm2,Zna,Znb,Znc,Znr,Zos,Zot,Zo3,Zo7,Zpo,Zpr,Zqh,Zqi,Zqj,Zqk,Zql,Zqm,Zqn,eq_self,true_and,and_true,Nat.zero_add,Nat.mul_one]
  tactic =>
  refine nilQ (fun h => ?_) ?_
  · sym =>
    simp [Zaa,Zab,Zad,Zae,Zaf,Zak,Zal,Zam,Zao,Zay,Zaz,Za0,Za1,Za2,Za3,Za4,Za5,Za9,Zba,Zbb,Zcz,Zc5,Zda,Zdb,Zev,Zew,Zez,Ze0,Ze2,Ze3,Ze4,Ze5,Zfb,Zfc,Zfd,Zfe,Zff,Zfg,Zfh,Zhf,Ziq,Zir,Zix,Ziz,Zi0,Zi1,Zmt,Zmv,Zmw,Zmx,Zmz,Zm2,Zna,Znb,Znc,Znr,Zos,Zot,Zo3,Zo7,Zpo,Zpr,Zqh,Zqi,Zqj,Zqk,Zql,Zqm,Zqn,eq_self,true_and,and_true,Nat.zero_add,Nat.mul_one]
    tactic =>
    obtain rfl := List.length_eq_zero_iff.1 h
    refine endO [] (nx := 1) ?_
    sym =>
    simp [Zaa,Zab,Zad,Zae,Zaf,Zak,Zal,Zam,Zao,Zay,Zaz,Za0,Za1,Za2,Za3,Za4,Za5,Za9,Zba,Zbb,Zcz,Zc5,Zda,Zdb,Zev,Zew,Zez,Ze0,Ze2,Ze3,Ze4,Ze5,Zfb,Zfc,Zfd,Zfe,Zff,Zfg,Zfh,Zhf,Ziq,Zir,Zix,Ziz,Zi0,Zi1,Zmt,Zmv,Zmw,Zmx,Zmz,Zm2,Zna,Znb,Znc,Znr,Zos,Zot,Zo3,Zo7,Zpo,Zpr,Zqh,Zqi,Zqj,Zqk,Zql,Zqm,Zqn,eq_self,true_and,and_true,Nat.zero_add,Nat.mul_one]
    tactic =>
    rfl
  · sym =>
    simp [Zaa,Zab,Zad,Zae,Zaf,Zak,Zal,Zam,Zao,Zay,Zaz,Za0,Za1,Za2,Za3,Za4,Za5,Za9,Zba,Zbb,Zcz,Zc5,Zda,Zdb,Zev,Zew,Zez,Ze0,Ze2,Ze3,Ze4,Ze5,Zfb,Zfc,Zfd,Zfe,Zff,Zfg,Zfh,Zhf,Ziq,Zir,Zix,Ziz,Zi0,Zi1,Zmt,Zmv,Zmw,Zmx,Zmz,Zm2,Zna,Znb,Znc,Znr,Zos,Zot,Zo3,Zo7,Zpo,Zpr,Zqh,Zqi,Zqj,Zqk,Zql,Zqm,Zqn,eq_self,true_and,and_true,Nat.zero_add,Nat.mul_one,cB_length]
    tactic =>
    refine ⟨⟨cB_okF l, hl, by omega⟩, ?_⟩
    refine endO [(0, 5)] (nx := 6) ?_
    sym =>
    simp [Zaa,Zab,Zad,Zae,Zaf,Zak,Zal,Zam,Zao,Zay,Zaz,Za0,Za1,Za2,Za3,Za4,Za5,Za9,Zba,Zbb,Zcz,Zc5,Zda,Zdb,Zev,Zew,Zez,Ze0,Ze2,Ze3,Ze4,Ze5,Zfb,Zfc,Zfd,Zfe,Zff,Zfg,Zfh,Zhf,Ziq,Zir,Zix,Ziz,Zi0,Zi1,Zmt,Zmv,Zmw,Zmx,Zmz,Zm2,Zna,Znb,Znc,Znr,Zos,Zot,Zo3,Zo7,Zpo,Zpr,Zqh,Zqi,Zqj,Zqk,Zql,Zqm,Zqn,eq_self,true_and,and_true,Nat.zero_add,Nat.mul_one]
    tactic =>
    exact rs_self (cB_okI l)
theorem clone_con (l : List Int) (hl : l.length ≤ 140737488355328) : Con Tryd.prog 14 [] [fB l] [] (fB l) := by
  refine con_j b14 rfl ?_
  sym =>
  simp [Zaa,Zab,Zad,Zae,Zaf,Zak,Zal,Zam,Zao,Zay,Zaz,Za0,Za1,Za2,Za3,Za4,Za5,Za9,Zba,Zbb,Zcz,Zc5,Zda,Zdb,Zev,Zew,Zez,Ze0,Ze2,Ze3,Ze4,Ze5,Zfc,Zfd,Zfe,Zff,Zfg,Zfh,Zhf,Ziq,Zir,Zix,Ziz,Zi0,Zi1,Zmt,Zmv,Zmw,Zmx,Zmz,Zm2,Zna,Znb,Znc,Znh,Zos,Zot,Zo3,Zo7,Zpx,Zp0,Zp1,Zp2,eq_self,true_and,and_true,Nat.zero_add,Nat.mul_one]
  tactic =>
  refine nilQ (fun h => ?_) ?_
  · sym =>
    simp [Zaa,Zab,Zad,Zae,Zaf,Zak,Zal,Zam,Zao,Zay,Zaz,Za0,Za1,Za2,Za3,Za4,Za5,Za9,Zba,Zbb,Zcz,Zc5,Zda,Zdb,Zev,Zew,Zez,Ze0,Ze2,Ze3,Ze4,Ze5,Zfc,Zfd,Zfe,Zff,Zfg,Zfh,Zhf,Ziq,Zir,Zix,Ziz,Zi0,Zi1,Zmt,Zmv,Zmw,Zmx,Zmz,Zm2,Zna,Znb,Znc,Znh,Zos,Zot,Zo3,Zo7,Zpx,Zp0,Zp1,Zp2,eq_self,true_and,and_true,Nat.zero_add,Nat.mul_one]
    tactic =>
    obtain rfl := List.length_eq_zero_iff.1 h
    refine endA ?_
    sym =>
    simp [Zaa,Zab,Zad,Zae,Zaf,Zak,Zal,Zam,Zao,Zay,Zaz,Za0,Za1,Za2,Za3,Za4,Za5,Za9,Zba,Zbb,Zcz,Zc5,Zda,Zdb,Zev,Zew,Zez,Ze0,Ze2,Ze3,Ze4,Ze5,Zfc,Zfd,Zfe,Zff,Zfg,Zfh,Zhf,Ziq,Zir,Zix,Ziz,Zi0,Zi1,Zmt,Zmv,Zmw,Zmx,Zmz,Zm2,Zna,Znb,Znc,Znh,Zos,Zot,Zo3,Zo7,Zpx,Zp0,Zp1,Zp2,eq_self,true_and,and_true,Nat.zero_add,Nat.mul_one]
    tactic =>
    rfl
  · have h0 := cB_length l
    have h1 := cB_all l
    have h2 := cB_okI l
    sym =>
    simp [Zaa,Zab,Zad,Zae,Zaf,Zak,Zal,Zam,Zao,Zay,Zaz,Za0,Za1,Za2,Za3,Za4,Za5,Za9,Zba,Zbb,Zcz,Zc5,Zda,Zdb,Zev,Zew,Zez,Ze0,Ze2,Ze3,Ze4,Ze5,Zfc,Zfd,Zfe,Zff,Zfg,Zfh,Zhf,Ziq,Zir,Zix,Ziz,Zi0,Zi1,Zmt,Zmv,Zmw,Zmx,Zmz,Zm2,Zna,Znb,Znc,Znh,Zos,Zot,Zo3,Zo7,Zpx,Zp0,Zp1,Zp2,eq_self,true_and,and_true,Nat.zero_add,Nat.mul_one,h0]
    tactic =>
    refine ⟨⟨cB_okF l, hl, by omega⟩, ?_⟩
    refine endA ?_
    sym =>
    simp [Zaa,Zab,Zad,Zae,Zaf,Zak,Zal,Zam,Zao,Zay,Zaz,Za0,Za1,Za2,Za3,Za4,Za5,Za9,Zba,Zbb,Zcz,Zc5,Zda,Zdb,Zev,Zew,Zez,Ze0,Ze2,Ze3,Ze4,Ze5,Zfc,Zfd,Zfe,Zff,Zfg,Zfh,Zhf,Ziq,Zir,Zix,Ziz,Zi0,Zi1,Zmt,Zmv,Zmw,Zmx,Zmz,Zm2,Zna,Znb,Znc,Znh,Zos,Zot,Zo3,Zo7,Zpx,Zp0,Zp1,Zp2,eq_self,true_and,and_true,Nat.zero_add,Nat.mul_one,h0,h1]
    tactic =>
    exact ⟨Nat.le_refl _, h2⟩
theorem fill_con (b : List Int) (hl : b.length ≤ 1000000) : Con Tryd.prog 9 [] [fB b] [] (fB (b ++ zs (padI b.length).toNat)) := by
  have hp := pad_con (IN b.length) (by simp only [IN]; omega)
  have hpi : padI (IN b.length) = padI b.length := rfl
  have hbd := pad_bd b.length
  obtain ⟨m, hm⟩ : ∃ m : Nat, padI b.length = IN m := ⟨(padI b.length).toNat, by simp only [IN]; omega⟩
  have hmt : (padI b.length).toNat = m := by rw [hm]; rfl
  have hm5 : m < 512 := by have : (m : Int) = padI b.length := hm.symm; omega
  rw [hpi, hm] at hp
  rw [hmt]
  have hit : (IN m).toNat = m := rfl
  refine con_j b9 rfl ?_
  sym =>
  simp [Zab,Zad,Zak,Zam,Zaz,Za0,Za1,Za2,Za3,Za4,Za5,Za9,Zba,Zbb,Zcn,Zt0,Zdc,Zdd,Zde,Zdi,Zev,Zew,Zez,Ze0,Ze2,Ze3,Ze4,Ze5,Zfc,Zfd,Zfe,Zff,Zfg,Zfh,Zho,Zh6,Zh7,Zt2,Zt4,Zt5,Zjr,Zla,Zlb,Zle,Zlj,Zll,Zlz,Zl0,Zl1,Zl2,Zmk,Zmt,Zmv,Zmw,Zmx,Zmz,Zm2,Zna,Znb,Zne,Znf,Zng,Znh,Zns,Znw,Zos,Zot,Zo7,Zp0,Zp1,Zp2,List.length_append,eq_self,true_and,and_true,Nat.zero_add,Nat.mul_one,callable_14]
  tactic =>
  refine cl (some ⟨cB b, 1, 0⟩) (bclone_con b (by omega)) ⟨rfl, cB_okI _⟩ ?_
  sym =>
  simp [Zab,Zad,Zak,Zam,Zaz,Za0,Za1,Za2,Za3,Za4,Za5,Za9,Zba,Zbb,Zcn,Zt0,Zdc,Zdd,Zde,Zdi,Zev,Zew,Zez,Ze0,Ze2,Ze3,Ze4,Ze5,Zfc,Zfd,Zfe,Zff,Zfg,Zfh,Zho,Zh6,Zh7,Zt2,Zt4,Zt5,Zjr,Zla,Zlb,Zle,Zlj,Zll,Zlz,Zl0,Zl1,Zl2,Zmk,Zmt,Zmv,Zmw,Zmx,Zmz,Zm2,Zna,Znb,Zne,Znf,Zng,Znh,Zns,Znw,Zos,Zot,Zo7,Zp0,Zp1,Zp2,List.length_append,eq_self,true_and,and_true,Nat.zero_add,Nat.mul_one,callable_8]
  tactic =>
  refine cl none (hp) trivial ?_
  sym =>
  simp [Zab,Zad,Zak,Zam,Zaz,Za0,Za1,Za2,Za3,Za4,Za5,Za9,Zba,Zbb,Zcn,Zt0,Zdc,Zdd,Zde,Zdi,Zev,Zew,Zez,Ze0,Ze2,Ze3,Ze4,Ze5,Zfc,Zfd,Zfe,Zff,Zfg,Zfh,Zho,Zh6,Zh7,Zt2,Zt4,Zt5,Zjr,Zla,Zlb,Zle,Zlj,Zll,Zlz,Zl0,Zl1,Zl2,Zmk,Zmt,Zmv,Zmw,Zmx,Zmz,Zm2,Zna,Znb,Zne,Znf,Zng,Znh,Zns,Znw,Zos,Zot,Zo7,Zp0,Zp1,Zp2,List.length_append,eq_self,true_and,and_true,Nat.zero_add,Nat.mul_one,hit,cB_length]
  tactic =>
  refine ⟨⟨by omega, by omega, by omega⟩, ?_⟩
  have hzl := zs_length m
  have hc : cB b ++ List.replicate m (Y 0) = cB (b ++ zs m) := by rw [cB_append, zs_cB]
  rw [hc]
  have hcl : (cB (b ++ zs m)).length = b.length + m := by rw [cB_length, List.length_append, hzl]
  refine endA ?_
  sym =>
  simp [Zab,Zad,Zak,Zam,Zaz,Za0,Za1,Za2,Za3,Za4,Za5,Za9,Zba,Zbb,Zcn,Zt0,Zdc,Zdd,Zde,Zdi,Zev,Zew,Zez,Ze0,Ze2,Ze3,Ze4,Ze5,Zfc,Zfd,Zfe,Zff,Zfg,Zfh,Zho,Zh6,Zh7,Zt2,Zt4,Zt5,Zjr,Zla,Zlb,Zle,Zlj,Zll,Zlz,Zl0,Zl1,Zl2,Zmk,Zmt,Zmv,Zmw,Zmx,Zmz,Zm2,Zna,Znb,Zne,Znf,Zng,Znh,Zns,Znw,Zos,Zot,Zo7,Zp0,Zp1,Zp2,List.length_append,eq_self,true_and,and_true,Nat.zero_add,Nat.mul_one,hzl,hcl]
  tactic =>
  rw [List.take_of_length_le (by rw [hcl]; exact Nat.le_refl _)]
  exact ⟨rfl, Nat.le_refl _, cB_okI _⟩
def i18 (m : Nat) (k : Nat) (s : St) : Prop := k ≤ m ∧ s = ⟨[(0, fB (zs k)), (1, Y 0)], [], 0⟩
theorem trimR_con (m : Nat) (hm : m < 4611686018427387904) : Con Tryd.prog 18 [] [fB (zs m), Y 0] [] (fB []) := by
  refine con_j b18 rfl ?_
  sym =>
  simp [Zaa,Zab,Zad,Zae,Zaf,Zag,Zah,Zai,Zak,Zal,Zam,Zan,Zap,Zaq,Zav,Zaw,Zaz,Za0,Za1,Za2,Za3,Za4,Za5,Za6,Za7,Za8,Za9,Zba,Zbb,Zbd,Zbf,Zbt,Zb1,Zch,Zcn,Zev,Zew,Zex,Zez,Ze0,Ze2,Ze5,Zfd,Zfe,Zfh,Zfi,Zfk,Zfl,Zfn,Zfr,Zfz,Zf3,Zgr,Zgu,Zg4,Zg6,Zhm,Zhn,Zho,Zhs,Zht,Zhu,Zh6,Zh7,Zmt,Zmv,Zmw,Zmx,Zmz,Zm2,Zm6,Zna,Znb,Znh,Zns,Znt,Znu,Znw,Znx,Zn5,Zoh,Zrd,Zos,Zot,Zo7,Zo8,Zo9,Zpc,Zpi,Zqf,Zqg,Zqh,Zqm,eq_self,true_and,and_true,Nat.mul_one,Nat.sub_zero]
  tactic =>
  refine lpA (i18 m) m [] _ ⟨Nat.le_refl _, rfl⟩ (wkA ?_) ?_
  · sym =>
    simp [Zaa,Zab,Zad,Zae,Zaf,Zag,Zah,Zai,Zak,Zal,Zam,Zan,Zap,Zaq,Zav,Zaw,Zaz,Za0,Za1,Za2,Za3,Za4,Za5,Za6,Za7,Za8,Za9,Zba,Zbb,Zbd,Zbf,Zbt,Zb1,Zch,Zcn,Zev,Zew,Zex,Zez,Ze0,Ze2,Ze5,Zfd,Zfe,Zfh,Zfi,Zfk,Zfl,Zfn,Zfr,Zfz,Zf3,Zgr,Zgu,Zg4,Zg6,Zhm,Zhn,Zho,Zhs,Zht,Zhu,Zh6,Zh7,Zmt,Zmv,Zmw,Zmx,Zmz,Zm2,Zm6,Zna,Znb,Znh,Zns,Znt,Znu,Znw,Znx,Zn5,Zoh,Zrd,Zos,Zot,Zo7,Zo8,Zo9,Zpc,Zpi,Zqf,Zqg,Zqh,Zqm,eq_self,true_and,and_true,Nat.mul_one,Nat.sub_zero]
  rintro k s ⟨hk, rfl⟩
  by_cases h : k = 0
  · subst h
    have z0 : fB (zs 0) = .fz 0 (cB []) := rfl
    rw [z0]
    sym =>
    simp [Zaa,Zab,Zad,Zae,Zaf,Zag,Zah,Zai,Zak,Zal,Zam,Zan,Zap,Zaq,Zav,Zaw,Zaz,Za0,Za1,Za2,Za3,Za4,Za5,Za6,Za7,Za8,Za9,Zba,Zbb,Zbd,Zbf,Zbt,Zb1,Zch,Zcn,Zev,Zew,Zex,Zez,Ze0,Ze2,Ze5,Zfd,Zfe,Zfh,Zfi,Zfk,Zfl,Zfn,Zfr,Zfz,Zf3,Zgr,Zgu,Zg4,Zg6,Zhm,Zhn,Zho,Zhs,Zht,Zhu,Zh6,Zh7,Zmt,Zmv,Zmw,Zmx,Zmz,Zm2,Zm6,Zna,Znb,Znh,Zns,Znt,Znu,Znw,Znx,Zn5,Zoh,Zrd,Zos,Zot,Zo7,Zo8,Zo9,Zpc,Zpi,Zqf,Zqg,Zqh,Zqm,eq_self,true_and,and_true,Nat.mul_one,Nat.sub_zero]
    tactic =>
    refine endA ?_
    sym =>
    simp [Zaa,Zab,Zad,Zae,Zaf,Zag,Zah,Zai,Zak,Zal,Zam,Zan,Zap,Zaq,Zav,Zaw,Zaz,Za0,Za1,Za2,Za3,Za4,Za5,Za6,Za7,Za8,Za9,Zba,Zbb,Zbd,Zbf,Zbt,Zb1,Zch,Zcn,Zev,Zew,Zex,Zez,Ze0,Ze2,Ze5,Zfd,Zfe,Zfh,Zfi,Zfk,Zfl,Zfn,Zfr,Zfz,Zf3,Zgr,Zgu,Zg4,Zg6,Zhm,Zhn,Zho,Zhs,Zht,Zhu,Zh6,Zh7,Zmt,Zmv,Zmw,Zmx,Zmz,Zm2,Zm6,Zna,Znb,Znh,Zns,Znt,Znu,Znw,Znx,Zn5,Zoh,Zrd,Zos,Zot,Zo7,Zo8,Zo9,Zpc,Zpi,Zqf,Zqg,Zqh,Zqm,eq_self,true_and,and_true,Nat.mul_one,Nat.sub_zero]
  · obtain ⟨j, rfl⟩ : ∃ j, k = j + 1 := ⟨k - 1, by omega⟩
    have hzl := zs_length (j + 1)
    have hq := cB_length (zs (j + 1))
    obtain ⟨z, hz⟩ : ∃ z, z = zs (j + 1) := ⟨_, rfl⟩
    rw [← hz] at hzl hq ⊢
    have hw : IntKind.i64.wrap (IN (j + 1) - 1) = IN j := by simp only [IN]; rw [w64 _ (by omega)]; omega
    have hg : (cB z).getD j .un = Y 0 := by rw [cB_get z j (by omega), hz, zs_get _ _ (by omega)]
    have ht : List.take j (cB z) = cB (zs j) := by rw [← cB_take, hz, zs_take _ _ (by omega)]
    have hgt : (0 : Int) < IN (j + 1) := by simp only [IN]; omega
    have hzj := zs_length j
    sym =>
    simp [Zaa,Zab,Zad,Zae,Zaf,Zag,Zah,Zai,Zak,Zal,Zam,Zan,Zap,Zaq,Zav,Zaw,Zaz,Za0,Za1,Za2,Za3,Za4,Za5,Za6,Za7,Za8,Za9,Zba,Zbb,Zbd,Zbf,Zbt,Zb1,Zch,Zcn,Zev,Zew,Zex,Zez,Ze0,Ze2,Ze5,Zfd,Zfe,Zfh,Zfi,Zfk,Zfl,Zfn,Zfr,Zfz,Zf3,Zgr,Zgu,Zg4,Zg6,Zhm,Zhn,Zho,Zhs,Zht,Zhu,Zh6,Zh7,Zmt,Zmv,Zmw,Zmx,Zmz,Zm2,Zm6,Zna,Znb,Znh,Zns,Znt,Znu,Znw,Znx,Zn5,Zoh,Zrd,Zos,Zot,Zo7,Zo8,Zo9,Zpc,Zpi,Zqf,Zqg,Zqh,Zqm,eq_self,true_and,and_true,Nat.mul_one,Nat.sub_zero,hzl,hq,hw,hg,ht,hgt]
    tactic =>
    refine ⟨⟨by omega, by omega⟩, by omega, by omega, ?_⟩
    unfold NextL; refine ⟨j, [], _, by omega, ⟨by omega, rfl⟩, wkA ?_⟩
    sym =>
    simp [Zaa,Zab,Zad,Zae,Zaf,Zag,Zah,Zai,Zak,Zal,Zam,Zan,Zap,Zaq,Zav,Zaw,Zaz,Za0,Za1,Za2,Za3,Za4,Za5,Za6,Za7,Za8,Za9,Zba,Zbb,Zbd,Zbf,Zbt,Zb1,Zch,Zcn,Zev,Zew,Zex,Zez,Ze0,Ze2,Ze5,Zfd,Zfe,Zfh,Zfi,Zfk,Zfl,Zfn,Zfr,Zfz,Zf3,Zgr,Zgu,Zg4,Zg6,Zhm,Zhn,Zho,Zhs,Zht,Zhu,Zh6,Zh7,Zmt,Zmv,Zmw,Zmx,Zmz,Zm2,Zm6,Zna,Znb,Znh,Zns,Znt,Znu,Znw,Znx,Zn5,Zoh,Zrd,Zos,Zot,Zo7,Zo8,Zo9,Zpc,Zpi,Zqf,Zqg,Zqh,Zqm,eq_self,true_and,and_true,Nat.mul_one,Nat.sub_zero,hzj]
theorem trimL_con : Con Tryd.prog 17 [] [fB [], Y 0] [] (fB []) := by
  refine con_j b17 rfl ?_
  sym =>
  simp [Zab,Zad,Zae,Zaf,Zag,Zah,Zai,Zak,Zal,Zam,Zan,Zao,Zaq,Zaw,Zay,Zaz,Za0,Za1,Za2,Za3,Za4,Za5,Za6,Za7,Za8,Za9,Zba,Zbb,Zbd,Zbf,Zcn,Zev,Zew,Zex,Zez,Ze0,Ze2,Ze5,Zfd,Zfe,Zfh,Zfi,Zfk,Zfn,Zfz,Zf3,Zh6,Zh7,Zmt,Zmv,Zmw,Zmx,Zmz,Zm2,Zna,Znb,Zn5,Zos,Zot,Zo7,Zo8,Zo9,Zpc,Zpi,Zpx,Zqf,Zqg,Zqh,Zqm,eq_self,true_and,and_true]
  tactic =>
  refine lpA (fun k s => s = ⟨[(0, fB []), (1, Y 0)], [], 0⟩) 0 [] _ rfl (wkA ?_) ?_
  · sym =>
    simp [Zab,Zad,Zae,Zaf,Zag,Zah,Zai,Zak,Zal,Zam,Zan,Zao,Zaq,Zaw,Zay,Zaz,Za0,Za1,Za2,Za3,Za4,Za5,Za6,Za7,Za8,Za9,Zba,Zbb,Zbd,Zbf,Zcn,Zev,Zew,Zex,Zez,Ze0,Ze2,Ze5,Zfd,Zfe,Zfh,Zfi,Zfk,Zfn,Zfz,Zf3,Zh6,Zh7,Zmt,Zmv,Zmw,Zmx,Zmz,Zm2,Zna,Znb,Zn5,Zos,Zot,Zo7,Zo8,Zo9,Zpc,Zpi,Zpx,Zqf,Zqg,Zqh,Zqm,eq_self,true_and,and_true]
  rintro k s rfl
  sym =>
  simp [Zab,Zad,Zae,Zaf,Zag,Zah,Zai,Zak,Zal,Zam,Zan,Zao,Zaq,Zaw,Zay,Zaz,Za0,Za1,Za2,Za3,Za4,Za5,Za6,Za7,Za8,Za9,Zba,Zbb,Zbd,Zbf,Zcn,Zev,Zew,Zex,Zez,Ze0,Ze2,Ze5,Zfd,Zfe,Zfh,Zfi,Zfk,Zfn,Zfz,Zf3,Zh6,Zh7,Zmt,Zmv,Zmw,Zmx,Zmz,Zm2,Zna,Znb,Zn5,Zos,Zot,Zo7,Zo8,Zo9,Zpc,Zpi,Zpx,Zqf,Zqg,Zqh,Zqm,eq_self,true_and,and_true]
  tactic =>
  refine endA ?_
  sym =>
  simp [Zab,Zad,Zae,Zaf,Zag,Zah,Zai,Zak,Zal,Zam,Zan,Zao,Zaq,Zaw,Zay,Zaz,Za0,Za1,Za2,Za3,Za4,Za5,Za6,Za7,Za8,Za9,Zba,Zbb,Zbd,Zbf,Zcn,Zev,Zew,Zex,Zez,Ze0,Ze2,Ze5,Zfd,Zfe,Zfh,Zfi,Zfk,Zfn,Zfz,Zf3,Zh6,Zh7,Zmt,Zmv,Zmw,Zmx,Zmz,Zm2,Zna,Znb,Zn5,Zos,Zot,Zo7,Zo8,Zo9,Zpc,Zpi,Zpx,Zqf,Zqg,Zqh,Zqm,eq_self,true_and,and_true]
  tactic =>
  rfl
theorem end_con : Con Tryd.prog 11 [] [] [] (fB (zs 1024)) := by
  obtain ⟨m, hm⟩ : ∃ m, m = 1024 := ⟨_, rfl⟩
  have hz := zs_cB m
  have hzl := zs_length m
  have hcl := cB_length (zs m)
  refine con_j b11 rfl ?_
  sym =>
  simp [Zab,Zad,Zak,Zam,Zaz,Za0,Za1,Za2,Za3,Za4,Za5,Za9,Zba,Zbb,Zc1,Zev,Zew,Zez,Ze0,Ze2,Ze3,Zfc,Zfd,Zfe,Zfh,Zho,Zis,Zit,Zmt,Zmv,Zmw,Zmx,Zmz,Zm2,Zna,Znb,Znh,Zrd,Zos,Zo7,Zp0,Zp1,Zp2,List.length_replicate,eq_self,true_and,and_true,Nat.zero_add,Nat.mul_one]
  tactic =>
  rw [← hm]
  refine endA ?_
  sym =>
  simp [Zab,Zad,Zak,Zam,Zaz,Za0,Za1,Za2,Za3,Za4,Za5,Za9,Zba,Zbb,Zc1,Zev,Zew,Zez,Ze0,Ze2,Ze3,Zfc,Zfd,Zfe,Zfh,Zho,Zis,Zit,Zmt,Zmv,Zmw,Zmx,Zmz,Zm2,Zna,Znb,Znh,Zrd,Zos,Zo7,Zp0,Zp1,Zp2,List.length_replicate,eq_self,true_and,and_true,Nat.zero_add,Nat.mul_one,hzl]
  tactic =>
  rw [← hz, List.take_of_length_le (by rw [hcl, hzl]; exact Nat.le_refl _)]
  exact ⟨rfl, Nat.le_refl _, cB_okI _⟩
theorem trim_con (m : Nat) (hm : m < 4611686018427387904) (S : ByteArray) (hS : S = ⟨#[0]⟩) : Con Tryd.prog 16 [] [fB (zs m), .sc (.string S)] [] (fB []) := by
  have h1 := trimR_con m hm
  have h2 := trimL_con
  have hs : S.size = 1 := by rw [hS]; rfl
  have s0 : sAt S 0 = 0 := by rw [hS]; rfl
  have hzl := zs_length m
  have hne : (S.toList == (⟨#[]⟩ : ByteArray).toList) = false := by rw [hS, ByteArray.toList_eq, ByteArray.toList_eq]; rfl
  by_cases h : m = 0
  · subst h
    have z0 : fB (zs 0) = .fz 0 (cB []) := rfl
    rw [z0]
    refine con_j b16 rfl ?_
    sym =>
    simp [Zaa,Zab,Zac,Zad,Zae,Zaf,Zak,Zal,Zam,Zao,Zay,Zaz,Za0,Za1,Za2,Za3,Za4,Za5,Za6,Za7,Za9,Zba,Zbb,Zbc,Zbd,Zbf,Zb5,Zb6,Zcl,Zcn,Zc7,Zc8,Zdf,Zdg,Zdh,Zdj,Zdk,Zdm,Zdo,Zdp,Zdt,Zdu,Zdv,Zdw,Zdx,Zdy,Zd0,Zd1,Zd2,Zeb,Zeq,Zet,Zev,Zew,Zex,Zez,Ze0,Ze2,Ze5,Zfd,Zfe,Zfh,Zfi,Zfl,Zfn,Zfz,Zf1,Zf8,Zg9,Zha,Zho,Zh4,Zh5,Zh6,Zh7,Zkb,Zla,Zlb,Zle,Zlj,Zll,Zlz,Zl2,Zmt,Zmv,Zmw,Zmx,Zmz,Zm2,Zna,Znb,Zne,Znf,Zng,Zny,Zn5,Zn6,Zos,Zot,Zo7,Zo8,Zo9,Zpi,Zpx,eq_self,true_and,and_true]
    tactic =>
    refine endA ?_
    sym =>
    simp [Zaa,Zab,Zac,Zad,Zae,Zaf,Zak,Zal,Zam,Zao,Zay,Zaz,Za0,Za1,Za2,Za3,Za4,Za5,Za6,Za7,Za9,Zba,Zbb,Zbc,Zbd,Zbf,Zb5,Zb6,Zcl,Zcn,Zc7,Zc8,Zdf,Zdg,Zdh,Zdj,Zdk,Zdm,Zdo,Zdp,Zdt,Zdu,Zdv,Zdw,Zdx,Zdy,Zd0,Zd1,Zd2,Zeb,Zeq,Zet,Zev,Zew,Zex,Zez,Ze0,Ze2,Ze5,Zfd,Zfe,Zfh,Zfi,Zfl,Zfn,Zfz,Zf1,Zf8,Zg9,Zha,Zho,Zh4,Zh5,Zh6,Zh7,Zkb,Zla,Zlb,Zle,Zlj,Zll,Zlz,Zl2,Zmt,Zmv,Zmw,Zmx,Zmz,Zm2,Zna,Znb,Zne,Znf,Zng,Zny,Zn5,Zn6,Zos,Zot,Zo7,Zo8,Zo9,Zpi,Zpx,eq_self,true_and,and_true]
    tactic =>
    rfl
  · have hI : ¬ IN m = 0 := by simp only [IN]; omega
    refine con_j b16 rfl ?_
    sym =>
    simp [Zaa,Zab,Zac,Zad,Zae,Zaf,Zak,Zal,Zam,Zao,Zay,Zaz,Za0,Za1,Za2,Za3,Za4,Za5,Za6,Za7,Za9,Zba,Zbb,Zbc,Zbd,Zbf,Zb5,Zb6,Zcl,Zcn,Zc7,Zc8,Zdf,Zdg,Zdh,Zdj,Zdk,Zdm,Zdo,Zdp,Zdt,Zdu,Zdv,Zdw,Zdx,Zdy,Zd0,Zd1,Zd2,Zeb,Zeq,Zet,Zev,Zew,Zex,Zez,Ze0,Ze2,Ze5,Zfd,Zfe,Zfh,Zfi,Zfl,Zfn,Zfz,Zf1,Zf8,Zg9,Zha,Zho,Zh4,Zh5,Zh6,Zh7,Zkb,Zla,Zlb,Zle,Zlj,Zll,Zlz,Zl2,Zmt,Zmv,Zmw,Zmx,Zmz,Zm2,Zna,Znb,Zne,Znf,Zng,Zny,Zn5,Zn6,Zos,Zot,Zo7,Zo8,Zo9,Zpi,Zpx,eq_self,true_and,and_true,hI,h,hzl,hs,s0,hne,callable_18]
    tactic =>
    have h1' : Con Tryd.prog 18 [] [.fz m (cB (zs m)), Y 0] [] (fB []) := by simpa only [fB, hzl] using h1
    refine cl none (h1') trivial ?_
    sym =>
    simp [Zaa,Zab,Zac,Zad,Zae,Zaf,Zak,Zal,Zam,Zao,Zay,Zaz,Za0,Za1,Za2,Za3,Za4,Za5,Za6,Za7,Za9,Zba,Zbb,Zbc,Zbd,Zbf,Zb5,Zb6,Zcl,Zcn,Zc7,Zc8,Zdf,Zdg,Zdh,Zdj,Zdk,Zdm,Zdo,Zdp,Zdt,Zdu,Zdv,Zdw,Zdx,Zdy,Zd0,Zd1,Zd2,Zeb,Zeq,Zet,Zev,Zew,Zex,Zez,Ze0,Ze2,Ze5,Zfd,Zfe,Zfh,Zfi,Zfl,Zfn,Zfz,Zf1,Zf8,Zg9,Zha,Zho,Zh4,Zh5,Zh6,Zh7,Zkb,Zla,Zlb,Zle,Zlj,Zll,Zlz,Zl2,Zmt,Zmv,Zmw,Zmx,Zmz,Zm2,Zna,Znb,Zne,Znf,Zng,Zny,Zn5,Zn6,Zos,Zot,Zo7,Zo8,Zo9,Zpi,Zpx,eq_self,true_and,and_true,hs,s0,callable_17]
    tactic =>
    refine cl none (h2) trivial ?_
    sym =>
    simp [Zaa,Zab,Zac,Zad,Zae,Zaf,Zak,Zal,Zam,Zao,Zay,Zaz,Za0,Za1,Za2,Za3,Za4,Za5,Za6,Za7,Za9,Zba,Zbb,Zbc,Zbd,Zbf,Zb5,Zb6,Zcl,Zcn,Zc7,Zc8,Zdf,Zdg,Zdh,Zdj,Zdk,Zdm,Zdo,Zdp,Zdt,Zdu,Zdv,Zdw,Zdx,Zdy,Zd0,Zd1,Zd2,Zeb,Zeq,Zet,Zev,Zew,Zex,Zez,Ze0,Ze2,Ze5,Zfd,Zfe,Zfh,Zfi,Zfl,Zfn,Zfz,Zf1,Zf8,Zg9,Zha,Zho,Zh4,Zh5,Zh6,Zh7,Zkb,Zla,Zlb,Zle,Zlj,Zll,Zlz,Zl2,Zmt,Zmv,Zmw,Zmx,Zmz,Zm2,Zna,Znb,Zne,Znf,Zng,Zny,Zn5,Zn6,Zos,Zot,Zo7,Zo8,Zo9,Zpi,Zpx,eq_self,true_and,and_true]
    tactic =>
    refine endA ?_
    sym =>
    simp [Zaa,Zab,Zac,Zad,Zae,Zaf,Zak,Zal,Zam,Zao,Zay,Zaz,Za0,Za1,Za2,Za3,Za4,Za5,Za6,Za7,Za9,Zba,Zbb,Zbc,Zbd,Zbf,Zb5,Zb6,Zcl,Zcn,Zc7,Zc8,Zdf,Zdg,Zdh,Zdj,Zdk,Zdm,Zdo,Zdp,Zdt,Zdu,Zdv,Zdw,Zdx,Zdy,Zd0,Zd1,Zd2,Zeb,Zeq,Zet,Zev,Zew,Zex,Zez,Ze0,Ze2,Ze5,Zfd,Zfe,Zfh,Zfi,Zfl,Zfn,Zfz,Zf1,Zf8,Zg9,Zha,Zho,Zh4,Zh5,Zh6,Zh7,Zkb,Zla,Zlb,Zle,Zlj,Zll,Zlz,Zl2,Zmt,Zmv,Zmw,Zmx,Zmz,Zm2,Zna,Znb,Zne,Znf,Zng,Zny,Zn5,Zn6,Zos,Zot,Zo7,Zo8,Zo9,Zpi,Zpx,eq_self,true_and,and_true]
theorem clean_con (b : List Int) (m : Nat) (hm : padI b.length = IN m) (hl : b.length ≤ 1000000) : Con Tryd.prog 13 [] [fB (b ++ zs m), I (IN b.length)] [] (Bo true) := by
  have hbd := pad_bd b.length
  have hm5 : m < 512 := by have : (m : Int) = padI b.length := hm.symm; omega
  have hzl := zs_length m
  have hfl : (b ++ zs m).length = b.length + m := by rw [List.length_append, hzl]
  have hcp : cntI (IN b.length) ≤ ((b ++ zs m).length : Int) / 512 := by
    rw [hfl]
    have : (m : Int) = padI b.length := hm.symm
    simp only [IN]
    by_cases h : (b.length : Int) < 1
    · unfold cntI; rw [if_pos h]; omega
    · have := cnt_pad b.length (by omega); omega
  have h1 := has_con (b ++ zs m) (IN b.length) (by simp only [IN]; omega) (by omega) hcp
  have h2 := pad_con (IN b.length) (by simp only [IN]; omega)
  have hpi : padI (IN b.length) = IN m := hm
  rw [hpi] at h2
  have h3 := trim_con m (by omega) ⟨#[0]⟩ rfl
  have hsum : IntKind.i64.wrap (IN (b.length + m)) = IN (b.length + m) := w64 _ (by simp only [IN]; omega)
  have htn : (IN (b.length + m)).toNat = b.length + m := rfl
  have hle : IN b.length ≤ IN (b.length + m) := by simp only [IN]; omega
  unfold fB at h3
  rw [hzl] at h3
  obtain ⟨c, hc⟩ : ∃ c, c = b ++ zs m := ⟨_, rfl⟩
  have hcd : List.drop b.length (List.take (b.length + m) (cB c)) = cB (zs m) := by
    rw [hc, ← cB_take, ← cB_drop, List.take_of_length_le (by omega), List.drop_left]
  have hcd2 : List.take m (List.drop b.length (cB c)) = cB (zs m) := by
    rw [hc, ← cB_drop, List.drop_left, ← cB_take, zs_take _ _ (Nat.le_refl _)]
  rw [← hc] at h1 hfl ⊢
  have hql := cB_length c
  have g0 : ¬ IN b.length < 0 := by simp only [IN]; omega
  have hsub : b.length + m - b.length = m := by omega
  refine con_j b13 rfl ?_
  sym =>
  simp [Zaa,Zab,Zad,Zae,Zaf,Zak,Zal,Zam,Zaz,Za0,Za1,Za2,Za3,Za4,Za5,Za6,Za7,Za9,Zba,Zbb,Zbd,Zbf,Zbj,Zch,Zcn,Zdc,Zdd,Zde,Zdi,Zev,Zew,Zex,Zez,Ze0,Ze2,Ze5,Zfd,Zfe,Zfh,Zfi,Zfl,Zfn,Zfq,Zfz,Zf1,Zgd,Zgg,Zhn,Zho,Zhs,Zht,Zhu,Zh6,Zh7,Zjr,Zjw,Zkb,Zla,Zlb,Zle,Zlj,Zll,Zlz,Zl2,Zmt,Zmv,Zmw,Zmx,Zmz,Zm2,Zna,Znb,Zne,Znf,Zng,Zns,Znu,Znw,Znz,Zn1,Zn5,Zos,Zot,Zo3,Zo7,Zo8,Zo9,Zpc,List.length_append,eq_self,true_and,and_true,Nat.mul_one,g0,callable_15]
  tactic =>
  refine cl none (h1) trivial ?_
  sym =>
  simp [Zaa,Zab,Zad,Zae,Zaf,Zak,Zal,Zam,Zaz,Za0,Za1,Za2,Za3,Za4,Za5,Za6,Za7,Za9,Zba,Zbb,Zbd,Zbf,Zbj,Zch,Zcn,Zdc,Zdd,Zde,Zdi,Zev,Zew,Zex,Zez,Ze0,Ze2,Ze5,Zfd,Zfe,Zfh,Zfi,Zfl,Zfn,Zfq,Zfz,Zf1,Zgd,Zgg,Zhn,Zho,Zhs,Zht,Zhu,Zh6,Zh7,Zjr,Zjw,Zkb,Zla,Zlb,Zle,Zlj,Zll,Zlz,Zl2,Zmt,Zmv,Zmw,Zmx,Zmz,Zm2,Zna,Znb,Zne,Znf,Zng,Zns,Znu,Znw,Znz,Zn1,Zn5,Zos,Zot,Zo3,Zo7,Zo8,Zo9,Zpc,List.length_append,eq_self,true_and,and_true,Nat.mul_one,callable_8]
  tactic =>
  refine cl none (h2) trivial ?_
  sym =>
  simp [Zaa,Zab,Zad,Zae,Zaf,Zak,Zal,Zam,Zaz,Za0,Za1,Za2,Za3,Za4,Za5,Za6,Za7,Za9,Zba,Zbb,Zbd,Zbf,Zbj,Zch,Zcn,Zdc,Zdd,Zde,Zdi,Zev,Zew,Zex,Zez,Ze0,Ze2,Ze5,Zfd,Zfe,Zfh,Zfi,Zfl,Zfn,Zfq,Zfz,Zf1,Zgd,Zgg,Zhn,Zho,Zhs,Zht,Zhu,Zh6,Zh7,Zjr,Zjw,Zkb,Zla,Zlb,Zle,Zlj,Zll,Zlz,Zl2,Zmt,Zmv,Zmw,Zmx,Zmz,Zm2,Zna,Znb,Zne,Znf,Zng,Zns,Znu,Znw,Znz,Zn1,Zn5,Zos,Zot,Zo3,Zo7,Zo8,Zo9,Zpc,List.length_append,eq_self,true_and,and_true,Nat.mul_one,hsum,htn,hfl,hcd,hcd2,hql,hsub,hle,callable_16]
  tactic =>
  refine ⟨?_, ?_⟩
  · exact ⟨by omega, Nat.le_refl _⟩
  refine cl none (h3) trivial ?_
  sym =>
  simp [Zaa,Zab,Zad,Zae,Zaf,Zak,Zal,Zam,Zaz,Za0,Za1,Za2,Za3,Za4,Za5,Za6,Za7,Za9,Zba,Zbb,Zbd,Zbf,Zbj,Zch,Zcn,Zdc,Zdd,Zde,Zdi,Zev,Zew,Zex,Zez,Ze0,Ze2,Ze5,Zfd,Zfe,Zfh,Zfi,Zfl,Zfn,Zfq,Zfz,Zf1,Zgd,Zgg,Zhn,Zho,Zhs,Zht,Zhu,Zh6,Zh7,Zjr,Zjw,Zkb,Zla,Zlb,Zle,Zlj,Zll,Zlz,Zl2,Zmt,Zmv,Zmw,Zmx,Zmz,Zm2,Zna,Znb,Zne,Znf,Zng,Zns,Znu,Znw,Znz,Zn1,Zn5,Zos,Zot,Zo3,Zo7,Zo8,Zo9,Zpc,List.length_append,eq_self,true_and,and_true,Nat.mul_one]
  tactic =>
  refine endA ?_
  sym =>
  simp [Zaa,Zab,Zad,Zae,Zaf,Zak,Zal,Zam,Zaz,Za0,Za1,Za2,Za3,Za4,Za5,Za6,Za7,Za9,Zba,Zbb,Zbd,Zbf,Zbj,Zch,Zcn,Zdc,Zdd,Zde,Zdi,Zev,Zew,Zex,Zez,Ze0,Ze2,Ze5,Zfd,Zfe,Zfh,Zfi,Zfl,Zfn,Zfq,Zfz,Zf1,Zgd,Zgg,Zhn,Zho,Zhs,Zht,Zhu,Zh6,Zh7,Zjr,Zjw,Zkb,Zla,Zlb,Zle,Zlj,Zll,Zlz,Zl2,Zmt,Zmv,Zmw,Zmx,Zmz,Zm2,Zna,Znb,Zne,Znf,Zng,Zns,Znu,Znw,Znz,Zn1,Zn5,Zos,Zot,Zo3,Zo7,Zo8,Zo9,Zpc,List.length_append,eq_self,true_and,and_true,Nat.mul_one]
theorem open_con (b t : List Int) (hl : b.length + t.length ≤ 1000000) (hcp : cntI b.length ≤ ((b ++ t).length : Int) / 512) : Con Tryd.prog 10 [] [fB (b ++ t), I (IN b.length)] [] (.tu [fB b, I 0]) := by
  have h1 := has_con (b ++ t) (IN b.length) (by simp only [IN]; omega) (by rw [List.length_append]; omega) hcp
  have hfl : (b ++ t).length = b.length + t.length := List.length_append
  obtain ⟨c, hc⟩ : ∃ c, c = b ++ t := ⟨_, rfl⟩
  have hct : List.take b.length (cB c) = cB b := by rw [hc, ← cB_take, List.take_left]
  rw [← hc] at h1 hfl ⊢
  have hql := cB_length c
  have g0 : ¬ IN b.length < 0 := by simp only [IN]; omega
  have hle : IN b.length ≤ IN (b.length + t.length) := by simp only [IN]; omega
  have hle2 : b.length ≤ b.length + t.length := by omega
  have h2 := clone_con b (by omega)
  refine con_j b10 rfl ?_
  sym =>
  simp [Zaa,Zab,Zad,Zae,Zaf,Zag,Zak,Zal,Zam,Zap,Zaz,Za0,Za1,Za2,Za3,Za4,Za5,Za9,Zba,Zbb,Zbf,Zbj,Zch,Zdc,Zdd,Zde,Zdi,Zev,Zew,Zez,Ze0,Ze2,Zfd,Zfe,Zfh,Zfn,Zf1,Zgd,Zgg,Zhm,Zhn,Zho,Zhs,Zht,Zhu,Zjw,Zkb,Zla,Zlb,Zle,Zlj,Zll,Zlz,Zl2,Zmt,Zmv,Zmw,Zmx,Zmz,Zm3,Zna,Znb,Zne,Znf,Zng,Znh,Zns,Znu,Znw,Znz,Zn5,Zrd,Zos,Zot,Zo3,Zo7,Zo9,Zpb,Zph,Zp9,Zqd,Zqe,List.length_append,eq_self,true_and,and_true,Nat.mul_one,Nat.sub_zero,g0,callable_15]
  tactic =>
  refine cl none (h1) trivial ?_
  sym =>
  simp [Zaa,Zab,Zad,Zae,Zaf,Zag,Zak,Zal,Zam,Zap,Zaz,Za0,Za1,Za2,Za3,Za4,Za5,Za9,Zba,Zbb,Zbf,Zbj,Zch,Zdc,Zdd,Zde,Zdi,Zev,Zew,Zez,Ze0,Ze2,Zfd,Zfe,Zfh,Zfn,Zf1,Zgd,Zgg,Zhm,Zhn,Zho,Zhs,Zht,Zhu,Zjw,Zkb,Zla,Zlb,Zle,Zlj,Zll,Zlz,Zl2,Zmt,Zmv,Zmw,Zmx,Zmz,Zm3,Zna,Znb,Zne,Znf,Zng,Znh,Zns,Znu,Znw,Znz,Zn5,Zrd,Zos,Zot,Zo3,Zo7,Zo9,Zpb,Zph,Zp9,Zqd,Zqe,List.length_append,eq_self,true_and,and_true,Nat.mul_one,Nat.sub_zero,hfl,hct,hql,hle,hle2,callable_14]
  tactic =>
  refine cl none (h2) trivial ?_
  sym =>
  simp [Zaa,Zab,Zad,Zae,Zaf,Zag,Zak,Zal,Zam,Zap,Zaz,Za0,Za1,Za2,Za3,Za4,Za5,Za9,Zba,Zbb,Zbf,Zbj,Zch,Zdc,Zdd,Zde,Zdi,Zev,Zew,Zez,Ze0,Ze2,Zfd,Zfe,Zfh,Zfn,Zf1,Zgd,Zgg,Zhm,Zhn,Zho,Zhs,Zht,Zhu,Zjw,Zkb,Zla,Zlb,Zle,Zlj,Zll,Zlz,Zl2,Zmt,Zmv,Zmw,Zmx,Zmz,Zm3,Zna,Znb,Zne,Znf,Zng,Znh,Zns,Znu,Znw,Znz,Zn5,Zrd,Zos,Zot,Zo3,Zo7,Zo9,Zpb,Zph,Zp9,Zqd,Zqe,List.length_append,eq_self,true_and,and_true,Nat.mul_one,Nat.sub_zero]
  tactic =>
  refine endA ?_
  sym =>
  simp [Zaa,Zab,Zad,Zae,Zaf,Zag,Zak,Zal,Zam,Zap,Zaz,Za0,Za1,Za2,Za3,Za4,Za5,Za9,Zba,Zbb,Zbf,Zbj,Zch,Zdc,Zdd,Zde,Zdi,Zev,Zew,Zez,Ze0,Ze2,Zfd,Zfe,Zfh,Zfn,Zf1,Zgd,Zgg,Zhm,Zhn,Zho,Zhs,Zht,Zhu,Zjw,Zkb,Zla,Zlb,Zle,Zlj,Zll,Zlz,Zl2,Zmt,Zmv,Zmw,Zmx,Zmz,Zm3,Zna,Znb,Zne,Znf,Zng,Znh,Zns,Znu,Znw,Znz,Zn5,Zrd,Zos,Zot,Zo3,Zo7,Zo9,Zpb,Zph,Zp9,Zqd,Zqe,List.length_append,eq_self,true_and,and_true,Nat.mul_one,Nat.sub_zero]
theorem take_eq_step {a b : List Int} {i : Nat} (h : a.take i = b.take i) (ha : i < a.length) (hb : i < b.length) (e : a.getD i 0 = b.getD i 0) : a.take (i + 1) = b.take (i + 1) := by
  rw [take_stepD a i ha, take_stepD b i hb, h, e]
def i12 (a b : List Int) (k : Nat) (s : St) : Prop := ∃ i : Nat, i + k = a.length ∧ a.take i = b.take i ∧ s = ⟨[(0, fB a), (1, fB b), (5, I (IN i))], [], 0⟩
theorem nsame_con (a b : List Int) (ha : a.length < 4611686018427387904) : Con Tryd.prog 12 [] [fB a, fB b] [] (Bo (decide (a = b))) := by
  refine con_j b12 rfl ?_
  by_cases hl : a.length = b.length
  · have hl1 : IN a.length = IN b.length := by rw [hl]
    sym =>
    simp [Zaa,Zab,Zac,Zad,Zae,Zaf,Zag,Zah,Zai,Zak,Zal,Zam,Zan,Zao,Zap,Zaq,Zar,Zav,Zaw,Zax,Zay,Zaz,Za0,Za1,Za2,Za3,Za4,Za5,Za9,Zba,Zbb,Zbc,Zbf,Zbg,Zbu,Zb2,Zcn,Zc7,Zc8,Zdo,Zdp,Zdt,Zdu,Zdv,Zdw,Zdx,Zdy,Zd0,Zd1,Zd2,Zeb,Zee,Zev,Zew,Zez,Ze0,Ze2,Ze5,Zfd,Zfe,Zfh,Zfn,Zfq,Zf0,Zf1,Zgr,Zgu,Zg4,Zg6,Zho,Zh6,Zh7,Zmt,Zmv,Zmw,Zmx,Zmz,Zm2,Zm6,Zna,Znb,Zne,Zns,Znt,Znv,Znw,Zn5,Zos,Zot,Zo3,Zo4,Zo7,Zo8,Zo9,Zpc,Zpi,Zqf,Zqg,Zqh,Zqm,eq_self,true_and,and_true,Nat.mul_one,hl1]
    tactic =>
    refine lpA (i12 a b) a.length [] _ ⟨0, by omega, rfl, rfl⟩ (wkA ?_) ?_
    · sym =>
      simp [Zaa,Zab,Zac,Zad,Zae,Zaf,Zag,Zah,Zai,Zak,Zal,Zam,Zan,Zao,Zap,Zaq,Zar,Zav,Zaw,Zax,Zay,Zaz,Za0,Za1,Za2,Za3,Za4,Za5,Za9,Zba,Zbb,Zbc,Zbf,Zbg,Zbu,Zb2,Zcn,Zc7,Zc8,Zdo,Zdp,Zdt,Zdu,Zdv,Zdw,Zdx,Zdy,Zd0,Zd1,Zd2,Zeb,Zee,Zev,Zew,Zez,Ze0,Ze2,Ze5,Zfd,Zfe,Zfh,Zfn,Zfq,Zf0,Zf1,Zgr,Zgu,Zg4,Zg6,Zho,Zh6,Zh7,Zmt,Zmv,Zmw,Zmx,Zmz,Zm2,Zm6,Zna,Znb,Zne,Zns,Znt,Znv,Znw,Zn5,Zos,Zot,Zo3,Zo4,Zo7,Zo8,Zo9,Zpc,Zpi,Zqf,Zqg,Zqh,Zqm,eq_self,true_and,and_true,Nat.mul_one]
    rintro k s ⟨i, hi, ht, rfl⟩
    by_cases h : i < a.length
    · have hI : IN i < IN a.length := by simp only [IN]; omega
      have hI2 : IN i < IN b.length := by simp only [IN]; omega
      have hw := w64s i (by omega)
      have ga := cB_get a i h
      have gb := cB_get b i (by omega)
      have hb : i < b.length := by omega
      by_cases he : a.getD i 0 = b.getD i 0
      · sym =>
        simp [Zaa,Zab,Zac,Zad,Zae,Zaf,Zag,Zah,Zai,Zak,Zal,Zam,Zan,Zao,Zap,Zaq,Zar,Zav,Zaw,Zax,Zay,Zaz,Za0,Za1,Za2,Za3,Za4,Za5,Za9,Zba,Zbb,Zbc,Zbf,Zbg,Zbu,Zb2,Zcn,Zc7,Zc8,Zdo,Zdp,Zdt,Zdu,Zdv,Zdw,Zdx,Zdy,Zd0,Zd1,Zd2,Zeb,Zee,Zev,Zew,Zez,Ze0,Ze2,Ze5,Zfd,Zfe,Zfh,Zfn,Zfq,Zf0,Zf1,Zgr,Zgu,Zg4,Zg6,Zho,Zh6,Zh7,Zmt,Zmv,Zmw,Zmx,Zmz,Zm2,Zm6,Zna,Znb,Zne,Zns,Znt,Znv,Znw,Zn5,Zos,Zot,Zo3,Zo4,Zo7,Zo8,Zo9,Zpc,Zpi,Zqf,Zqg,Zqh,Zqm,eq_self,true_and,and_true,Nat.mul_one,h,hb,hw,ga,gb,he,cB_length]
        tactic =>
        and_intros <;> try (first | omega | rfl | assumption | simp only [IN]; omega)
        unfold NextL; refine ⟨(k - 1), [], _, by omega, ⟨i + 1, by omega, take_eq_step ht h (by omega) he, rfl⟩, wkA ?_⟩
        sym =>
        simp [Zaa,Zab,Zac,Zad,Zae,Zaf,Zag,Zah,Zai,Zak,Zal,Zam,Zan,Zao,Zap,Zaq,Zar,Zav,Zaw,Zax,Zay,Zaz,Za0,Za1,Za2,Za3,Za4,Za5,Za9,Zba,Zbb,Zbc,Zbf,Zbg,Zbu,Zb2,Zcn,Zc7,Zc8,Zdo,Zdp,Zdt,Zdu,Zdv,Zdw,Zdx,Zdy,Zd0,Zd1,Zd2,Zeb,Zee,Zev,Zew,Zez,Ze0,Ze2,Ze5,Zfd,Zfe,Zfh,Zfn,Zfq,Zf0,Zf1,Zgr,Zgu,Zg4,Zg6,Zho,Zh6,Zh7,Zmt,Zmv,Zmw,Zmx,Zmz,Zm2,Zm6,Zna,Znb,Zne,Zns,Znt,Znv,Znw,Zn5,Zos,Zot,Zo3,Zo4,Zo7,Zo8,Zo9,Zpc,Zpi,Zqf,Zqg,Zqh,Zqm,eq_self,true_and,and_true,Nat.mul_one]
      · have hab : ¬ a = b := fun e => he (by rw [e])
        sym =>
        simp [Zaa,Zab,Zac,Zad,Zae,Zaf,Zag,Zah,Zai,Zak,Zal,Zam,Zan,Zao,Zap,Zaq,Zar,Zav,Zaw,Zax,Zay,Zaz,Za0,Za1,Za2,Za3,Za4,Za5,Za9,Zba,Zbb,Zbc,Zbf,Zbg,Zbu,Zb2,Zcn,Zc7,Zc8,Zdo,Zdp,Zdt,Zdu,Zdv,Zdw,Zdx,Zdy,Zd0,Zd1,Zd2,Zeb,Zee,Zev,Zew,Zez,Ze0,Ze2,Ze5,Zfd,Zfe,Zfh,Zfn,Zfq,Zf0,Zf1,Zgr,Zgu,Zg4,Zg6,Zho,Zh6,Zh7,Zmt,Zmv,Zmw,Zmx,Zmz,Zm2,Zm6,Zna,Znb,Zne,Zns,Znt,Znv,Znw,Zn5,Zos,Zot,Zo3,Zo4,Zo7,Zo8,Zo9,Zpc,Zpi,Zqf,Zqg,Zqh,Zqm,eq_self,true_and,and_true,Nat.mul_one,h,hb,hw,ga,gb,he,cB_length]
        tactic =>
        and_intros <;> try (first | omega | rfl | assumption | simp only [IN]; omega)
        refine endA ?_
        sym =>
        simp [Zaa,Zab,Zac,Zad,Zae,Zaf,Zag,Zah,Zai,Zak,Zal,Zam,Zan,Zao,Zap,Zaq,Zar,Zav,Zaw,Zax,Zay,Zaz,Za0,Za1,Za2,Za3,Za4,Za5,Za9,Zba,Zbb,Zbc,Zbf,Zbg,Zbu,Zb2,Zcn,Zc7,Zc8,Zdo,Zdp,Zdt,Zdu,Zdv,Zdw,Zdx,Zdy,Zd0,Zd1,Zd2,Zeb,Zee,Zev,Zew,Zez,Ze0,Ze2,Ze5,Zfd,Zfe,Zfh,Zfn,Zfq,Zf0,Zf1,Zgr,Zgu,Zg4,Zg6,Zho,Zh6,Zh7,Zmt,Zmv,Zmw,Zmx,Zmz,Zm2,Zm6,Zna,Znb,Zne,Zns,Znt,Znv,Znw,Zn5,Zos,Zot,Zo3,Zo4,Zo7,Zo8,Zo9,Zpc,Zpi,Zqf,Zqg,Zqh,Zqm,eq_self,true_and,and_true,Nat.mul_one,hab]
    · have hab : a = b := by
        rw [List.take_of_length_le (by omega), List.take_of_length_le (by omega)] at ht
        exact ht
      sym =>
      simp [Zaa,Zab,Zac,Zad,Zae,Zaf,Zag,Zah,Zai,Zak,Zal,Zam,Zan,Zao,Zap,Zaq,Zar,Zav,Zaw,Zax,Zay,Zaz,Za0,Za1,Za2,Za3,Za4,Za5,Za9,Zba,Zbb,Zbc,Zbf,Zbg,Zbu,Zb2,Zcn,Zc7,Zc8,Zdo,Zdp,Zdt,Zdu,Zdv,Zdw,Zdx,Zdy,Zd0,Zd1,Zd2,Zeb,Zee,Zev,Zew,Zez,Ze0,Ze2,Ze5,Zfd,Zfe,Zfh,Zfn,Zfq,Zf0,Zf1,Zgr,Zgu,Zg4,Zg6,Zho,Zh6,Zh7,Zmt,Zmv,Zmw,Zmx,Zmz,Zm2,Zm6,Zna,Znb,Zne,Zns,Znt,Znv,Znw,Zn5,Zos,Zot,Zo3,Zo4,Zo7,Zo8,Zo9,Zpc,Zpi,Zqf,Zqg,Zqh,Zqm,eq_self,true_and,and_true,Nat.mul_one,h]
      tactic =>
      refine endA ?_
      sym =>
      simp [Zaa,Zab,Zac,Zad,Zae,Zaf,Zag,Zah,Zai,Zak,Zal,Zam,Zan,Zao,Zap,Zaq,Zar,Zav,Zaw,Zax,Zay,Zaz,Za0,Za1,Za2,Za3,Za4,Za5,Za9,Zba,Zbb,Zbc,Zbf,Zbg,Zbu,Zb2,Zcn,Zc7,Zc8,Zdo,Zdp,Zdt,Zdu,Zdv,Zdw,Zdx,Zdy,Zd0,Zd1,Zd2,Zeb,Zee,Zev,Zew,Zez,Ze0,Ze2,Ze5,Zfd,Zfe,Zfh,Zfn,Zfq,Zf0,Zf1,Zgr,Zgu,Zg4,Zg6,Zho,Zh6,Zh7,Zmt,Zmv,Zmw,Zmx,Zmz,Zm2,Zm6,Zna,Znb,Zne,Zns,Znt,Znv,Znw,Zn5,Zos,Zot,Zo3,Zo4,Zo7,Zo8,Zo9,Zpc,Zpi,Zqf,Zqg,Zqh,Zqm,eq_self,true_and,and_true,Nat.mul_one,hab]
  · have hl1 : ¬ IN a.length = IN b.length := by simp only [IN]; omega
    have hab : ¬ a = b := fun e => hl (by rw [e])
    sym =>
    simp [Zaa,Zab,Zac,Zad,Zae,Zaf,Zag,Zah,Zai,Zak,Zal,Zam,Zan,Zao,Zap,Zaq,Zar,Zav,Zaw,Zax,Zay,Zaz,Za0,Za1,Za2,Za3,Za4,Za5,Za9,Zba,Zbb,Zbc,Zbf,Zbg,Zbu,Zb2,Zcn,Zc7,Zc8,Zdo,Zdp,Zdt,Zdu,Zdv,Zdw,Zdx,Zdy,Zd0,Zd1,Zd2,Zeb,Zee,Zev,Zew,Zez,Ze0,Ze2,Ze5,Zfd,Zfe,Zfh,Zfn,Zfq,Zf0,Zf1,Zgr,Zgu,Zg4,Zg6,Zho,Zh6,Zh7,Zmt,Zmv,Zmw,Zmx,Zmz,Zm2,Zm6,Zna,Znb,Zne,Zns,Znt,Znv,Znw,Zn5,Zos,Zot,Zo3,Zo4,Zo7,Zo8,Zo9,Zpc,Zpi,Zqf,Zqg,Zqh,Zqm,eq_self,true_and,and_true,Nat.mul_one,hl]
    tactic =>
    refine endA ?_
    sym =>
    simp [Zaa,Zab,Zac,Zad,Zae,Zaf,Zag,Zah,Zai,Zak,Zal,Zam,Zan,Zao,Zap,Zaq,Zar,Zav,Zaw,Zax,Zay,Zaz,Za0,Za1,Za2,Za3,Za4,Za5,Za9,Zba,Zbb,Zbc,Zbf,Zbg,Zbu,Zb2,Zcn,Zc7,Zc8,Zdo,Zdp,Zdt,Zdu,Zdv,Zdw,Zdx,Zdy,Zd0,Zd1,Zd2,Zeb,Zee,Zev,Zew,Zez,Ze0,Ze2,Ze5,Zfd,Zfe,Zfh,Zfn,Zfq,Zf0,Zf1,Zgr,Zgu,Zg4,Zg6,Zho,Zh6,Zh7,Zmt,Zmv,Zmw,Zmx,Zmz,Zm2,Zm6,Zna,Znb,Zne,Zns,Znt,Znv,Znw,Zn5,Zos,Zot,Zo3,Zo4,Zo7,Zo8,Zo9,Zpc,Zpi,Zqf,Zqg,Zqh,Zqm,eq_self,true_and,and_true,Nat.mul_one,hab]
theorem bys_ok (l : List Int) : bysOK (cB l) := by
  intro x hx
  obtain ⟨a, _, rfl⟩ := List.mem_map.1 hx
  rfl
end Go.Proofs.YtdjjibmjinllnaaDoor.BlkA
