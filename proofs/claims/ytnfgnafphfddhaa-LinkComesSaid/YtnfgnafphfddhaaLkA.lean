import Derived.Test.YtnfgnafphfddhaaCodL
import Derived.Test.YtnfgnafphfddhaaCodM
import Derived.Test.YtnfgnafphfddhaaTab
import Derived.Test.YtnfgnafphfddhaaBse
namespace Go.Proofs.Ytnfgnafphfddhaa.LkA
open Go Go.Sim Go.Sim.E Go.RowKit Go.Proofs Go.Proofs.Ytnfgnafphfddhaa.Cod Go.Proofs.Ytnfgnafphfddhaa.Tab Go.Proofs.Ytnfgnafphfddhaa.Bse
set_option linter.unusedVariables false
set_option linter.unusedSimpArgs false
set_option maxRecDepth 100000
set_option maxHeartbeats 4000000
/-! ### rows of bytes, in cells -/
def cR (L : List (List Int)) : List AV := L.map fB
abbrev fR (L : List (List Int)) : AV := .fz L.length (cR L)
theorem cR_length (L : List (List Int)) : (cR L).length = L.length := by simp [cR]
theorem cR_get (L : List (List Int)) (i : Nat) (h : i < L.length) : (cR L).getD i .un = fB (L.getD i []) := by
  simp [cR, List.getD_eq_getElem?_getD, List.getElem?_eq_getElem h]
theorem cR_append (a b : List (List Int)) : cR (a ++ b) = cR a ++ cR b := by simp [cR]
theorem cR_okI (L : List (List Int)) : okI (cR L) := okI_map _ (fun _ => rfl) _
theorem cR_okF (L : List (List Int)) : okF (cR L) := by
  intro x hx
  obtain ⟨a, _, rfl⟩ := List.mem_map.1 hx
  rfl
theorem cR_all (L : List (List Int)) : List.take L.length (cR L) = cR L := List.take_of_length_le (by rw [cR_length]; exact Nat.le_refl _)
theorem cR_rs (P Q R) (L : List (List Int)) (c : List AV) (h : c = cR L) : rv1s P Q R c (cR L) := by subst h; exact rs_self (cR_okI _)
/-- A link, as data. -/
abbrev lkA (room : Int) (L : List (List Int)) (s lo : Int) : AV := .ag [I room, fR L, I s, I lo]
abbrev V (n : Int) : AV := .sc (.int .u16 n)
/-- A fate. -/
abbrev ftA (k at' b0 b1 b2 b3 : Int) : AV := .ag [I k, V at', Y b0, Y b1, Y b2, Y b3]
theorem byt_mem {L : List (List Int)} (h : ∀ l ∈ L, l.length ≤ 1000) (i : Nat) (hi : i < L.length) : (L.getD i []).length ≤ 1000 := by
  rw [List.getD_eq_getElem?_getD, List.getElem?_eq_getElem hi]
  exact h _ (List.getElem_mem hi)
/-- One more behind, if there is room. -/
def putL (room : Nat) (L : List (List Int)) (d : List Int) : List (List Int) := if L.length < room then L ++ [d] else L
/-- One more ahead, if there is room. -/
def fstL (room : Nat) (L : List (List Int)) (d : List Int) : List (List Int) := if L.length < room then d :: L else L
theorem clone_con (l : List Int) (hl : l.length ≤ 140737488355328) : Con Try.prog 62 [] [fB l] [] (fB l) := by
  refine con_j b62 rfl ?_
  sym =>
  simp [Zaa,Zab,Zad,Zae,Zaf,Zak,Zal,Zam,Zao,Zay,Zaz,Za0,Za1,Za2,Za3,Za4,Za5,Za9,Zba,Zbb,Zcz,Zc5,Zda,Zdb,Zev,Zew,Zez,Ze0,Ze2,Ze3,Ze4,Ze5,Zfc,Zfd,Zfe,Zff,Zfg,Zfh,Zhf,Ziq,Zir,Zix,Ziz,Zi0,Zi1,Zmt,Zmv,Zmw,Zmx,Zmz,Zm2,Zna,Znb,Znc,Znh,Zos,Zot,Zo3,Zo7,Zpx,Zp0,Zp1,Zp2,eq_self,true_and,and_true,Nat.zero_add,Nat.mul_one]
  tactic =>
  refine nilQ (fun h => ?_) ?_
  · sym =>
    simp [Zaa,Zab,Zad,Zae,Zaf,Zak,Zal,Zam,Zao,Zay,Zaz,Za0,Za1,Za2,Za3,Za4,Za5,Za9,Zba,Zbb,Zcz,Zc5,Zda,Zdb,Zev,Zew,Zez,Ze0,Ze2,Ze3,Ze4,Ze5,Zfc,Zfd,Zfe,Zff,Zfg,Zfh,Zhf,Ziq,Zir,Zix,Ziz,Zi0,Zi1,Zmt,Zmv,Zmw,Zmx,Zmz,Zm2,Zna,Znb,Znc,Znh,Zos,Zot,Zo3,Zo7,Zpx,Zp0,Zp1,Zp2,eq_self,true_and,and_true,Nat.zero_add,Nat.mul_one]
    tactic =>
    obtain rfl := List.length_eq_zero_iff.1 h
    refine endA ?_
    sym =>
    simp [Zaa,Zab,Zad,Zae,Zaf,Zak,Zal,Zam,Zao,Zay,Zaz,Za0,Za1,Za2,Za3,Za4,Za5,Za9,Zba,Zbb,Zcz,Zc5,Zda,Zdb,Zev,Zew,Zez,Ze0,Ze2,Ze3,Ze4,Ze5,Zfc,Zfd,Zfe,Zff,Zfg,Zfh,Zhf,Ziq,Zir,Zix,Ziz,Zi0,Zi1,Zmt,Zmv,Zmw,Zmx,Zmz,Zm2,Zna,Znb,Znc,Znh,Zos,Zot,Zo3,Zo7,Zpx,Zp0,Zp1,Zp2,eq_self,true_and,and_true,Nat.zero_add,Nat.mul_one]
    tactic =>
    rfl
  · have h0 := cB_length l
    have h1 := cB_all l
    have h2 := cB_okI l
    sym =>
    simp [Zaa,Zab,Zad,Zae,Zaf,Zak,Zal,Zam,Zao,Zay,Zaz,Za0,Za1,Za2,Za3,Za4,Za5,Za9,Zba,Zbb,Zcz,Zc5,Zda,Zdb,Zev,Zew,Zez,Ze0,Ze2,Ze3,Ze4,Ze5,Zfc,Zfd,Zfe,Zff,Zfg,Zfh,Zhf,Ziq,Zir,Zix,Ziz,Zi0,Zi1,Zmt,Zmv,Zmw,Zmx,Zmz,Zm2,Zna,Znb,Znc,Znh,Zos,Zot,Zo3,Zo7,Zpx,Zp0,Zp1,Zp2,eq_self,true_and,and_true,Nat.zero_add,Nat.mul_one,h0]
    tactic =>
    refine ⟨⟨cB_okF l, hl, by omega⟩, ?_⟩
    refine endA ?_
    sym =>
    simp [Zaa,Zab,Zad,Zae,Zaf,Zak,Zal,Zam,Zao,Zay,Zaz,Za0,Za1,Za2,Za3,Za4,Za5,Za9,Zba,Zbb,Zcz,Zc5,Zda,Zdb,Zev,Zew,Zez,Ze0,Ze2,Ze3,Ze4,Ze5,Zfc,Zfd,Zfe,Zff,Zfg,Zfh,Zhf,Ziq,Zir,Zix,Ziz,Zi0,Zi1,Zmt,Zmv,Zmw,Zmx,Zmz,Zm2,Zna,Znb,Znc,Znh,Zos,Zot,Zo3,Zo7,Zpx,Zp0,Zp1,Zp2,eq_self,true_and,and_true,Nat.zero_add,Nat.mul_one,h0,h1]
    tactic =>
    exact ⟨Nat.le_refl _, h2⟩
theorem bclone_con (l : List Int) (hl : l.length ≤ 140737488355328) : Con Try.prog 62 [] [fB l] [(0, ⟨cB l, 1, 0⟩)] (.lv 0 0 l.length) := by
  refine con_o b62 rfl ?_
  sym =>
  simp [Zaa,Zab,Zad,Zae,Zaf,Zak,Zal,Zam,Zao,Zay,Zaz,Za0,Za1,Za2,Za3,Za4,Za5,Za9,Zba,Zbb,Zcz,Zc5,Zda,Zdb,Zev,Zew,Zez,Ze0,Ze2,Ze3,Ze4,Ze5,Zfb,Zfc,Zfd,Zfe,Zff,Zfg,Zfh,Zhf,Ziq,Zir,Zix,Ziz,Zi0,Zi1,Zmt,Zmv,Zmw,Zmx,Zmz,Zm2,Zna,Znb,Znc,Znr,Zos,Zot,Zo3,Zo7,Zpo,Zpr,Zqh,Zqi,Zqj,Zqk,Zql,Zqm,Zqn,eq_self,true_and,and_true,Nat.zero_add,Nat.mul_one]
  tactic =>
  refine nilQ (fun h => ?_) ?_
  · sym =>
    simp [Zaa,Zab,Zad,Zae,Zaf,Zak,Zal,Zam,Zao,Zay,Zaz,Za0,Za1,Za2,Za3,Za4,Za5,Za9,Zba,Zbb,Zcz,Zc5,Zda,Zdb,Zev,Zew,Zez,Ze0,Ze2,Ze3,Ze4,Ze5,Zfb,Zfc,Zfd,Zfe,Zff,Zfg,Zfh,Zhf,Ziq,Zir,Zix,Ziz,Zi0,Zi1,Zmt,Zmv,Zmw,Zmx,Zmz,Zm2,Zna,Znb,Znc,Znr,Zos,Zot,Zo3,Zo7,Zpo,Zpr,Zqh,Zqi,Zqj,Zqk,Zql,Zqm,Zqn,eq_self,true_and,and_true,Nat.zero_add,Nat.mul_one]
    tactic =>
    obtain rfl := List.length_eq_zero_iff.1 h
    refine endO [] (nx := 1) ?_
    sym =>
    simp [Zaa,Zab,Zad,Zae,Zaf,Zak,Zal,Zam,Zao,Zay,Zaz,Za0,Za1,Za2,Za3,Za4,Za5,Za9,Zba,Zbb,Zcz,Zc5,Zda,Zdb,Zev,Zew,Zez,Ze0,Ze2,Ze3,Ze4,Ze5,Zfb,Zfc,Zfd,Zfe,Zff,Zfg,Zfh,Zhf,Ziq,Zir,Zix,Ziz,Zi0,Zi1,Zmt,Zmv,Zmw,Zmx,Zmz,Zm2,Zna,Znb,Znc,Znr,Zos,Zot,Zo3,Zo7,Zpo,Zpr,Zqh,Zqi,Zqj,Zqk,Zql,Zqm,Zqn,eq_self,true_and,and_true,Nat.zero_add,Nat.mul_one]
    tactic =>
    rfl
  · sym =>
    simp [Zaa,Zab,Zad,Zae,Zaf,Zak,Zal,Zam,Zao,Zay,Zaz,Za0,Za1,Za2,Za3,Za4,Za5,Za9,Zba,Zbb,Zcz,Zc5,Zda,Zdb,Zev,Zew,Zez,Ze0,Ze2,Ze3,Ze4,Ze5,Zfb,Zfc,Zfd,Zfe,Zff,Zfg,Zfh,Zhf,Ziq,Zir,Zix,Ziz,Zi0,Zi1,Zmt,Zmv,Zmw,Zmx,Zmz,Zm2,Zna,Znb,Znc,Znr,Zos,Zot,Zo3,Zo7,Zpo,Zpr,Zqh,Zqi,Zqj,Zqk,Zql,Zqm,Zqn,eq_self,true_and,and_true,Nat.zero_add,Nat.mul_one,cB_length]
    tactic =>
    refine ⟨⟨cB_okF l, hl, by omega⟩, ?_⟩
    refine endO [(0, 5)] (nx := 6) ?_
    sym =>
    simp [Zaa,Zab,Zad,Zae,Zaf,Zak,Zal,Zam,Zao,Zay,Zaz,Za0,Za1,Za2,Za3,Za4,Za5,Za9,Zba,Zbb,Zcz,Zc5,Zda,Zdb,Zev,Zew,Zez,Ze0,Ze2,Ze3,Ze4,Ze5,Zfb,Zfc,Zfd,Zfe,Zff,Zfg,Zfh,Zhf,Ziq,Zir,Zix,Ziz,Zi0,Zi1,Zmt,Zmv,Zmw,Zmx,Zmz,Zm2,Zna,Znb,Znc,Znr,Zos,Zot,Zo3,Zo7,Zpo,Zpr,Zqh,Zqi,Zqj,Zqk,Zql,Zqm,Zqn,eq_self,true_and,and_true,Nat.zero_add,Nat.mul_one]
    tactic =>
    exact rs_self (cB_okI l)
theorem hclone_con (l : List Int) (hl : l.length ≤ 140737488355328) : Con Try.prog 62 [(0, ⟨cB l, 1, 0⟩)] [.lv 0 0 l.length] [(0, ⟨cB l, 1, 0⟩)] (fB l) := by
  refine con_n b62 rfl ?_
  sym =>
  simp [Zaa,Zab,Zad,Zae,Zaf,Zak,Zal,Zam,Zao,Zay,Zaz,Za0,Za1,Za2,Za3,Za4,Za5,Za9,Zba,Zbb,Zcz,Zc5,Zda,Zq8,Zev,Zew,Zez,Ze0,Ze2,Ze3,Ze4,Ze5,Zfc,Zfd,Zfe,Zff,Zfg,Zfh,Zhf,Ziq,Zir,Zix,Ziz,Zi0,Zi2,Zi3,Zmt,Zmv,Zmw,Zmx,Zmz,Zm2,Zna,Znb,Znc,Znh,Znr,Zos,Zot,Zo3,Zo7,Zpx,Zp0,Zp1,Zp2,Zp3,Zq5,Zq6,Zqh,Zqi,Zqk,Zql,Zqm,Zqn,Zqo,eq_self,true_and,and_true,Nat.zero_add,Nat.mul_one]
  tactic =>
  refine nilQ (fun h => ?_) ?_
  · sym =>
    simp [Zaa,Zab,Zad,Zae,Zaf,Zak,Zal,Zam,Zao,Zay,Zaz,Za0,Za1,Za2,Za3,Za4,Za5,Za9,Zba,Zbb,Zcz,Zc5,Zda,Zq8,Zev,Zew,Zez,Ze0,Ze2,Ze3,Ze4,Ze5,Zfc,Zfd,Zfe,Zff,Zfg,Zfh,Zhf,Ziq,Zir,Zix,Ziz,Zi0,Zi2,Zi3,Zmt,Zmv,Zmw,Zmx,Zmz,Zm2,Zna,Znb,Znc,Znh,Znr,Zos,Zot,Zo3,Zo7,Zpx,Zp0,Zp1,Zp2,Zp3,Zq5,Zq6,Zqh,Zqi,Zqk,Zql,Zqm,Zqn,Zqo,eq_self,true_and,and_true,Nat.zero_add,Nat.mul_one]
    tactic =>
    obtain rfl := List.length_eq_zero_iff.1 h
    refine endM [(0, 0)] 2 ?_
    sym =>
    simp [Zaa,Zab,Zad,Zae,Zaf,Zak,Zal,Zam,Zao,Zay,Zaz,Za0,Za1,Za2,Za3,Za4,Za5,Za9,Zba,Zbb,Zcz,Zc5,Zda,Zq8,Zev,Zew,Zez,Ze0,Ze2,Ze3,Ze4,Ze5,Zfc,Zfd,Zfe,Zff,Zfg,Zfh,Zhf,Ziq,Zir,Zix,Ziz,Zi0,Zi2,Zi3,Zmt,Zmv,Zmw,Zmx,Zmz,Zm2,Zna,Znb,Znc,Znh,Znr,Zos,Zot,Zo3,Zo7,Zpx,Zp0,Zp1,Zp2,Zp3,Zq5,Zq6,Zqh,Zqi,Zqk,Zql,Zqm,Zqn,Zqo,eq_self,true_and,and_true,Nat.zero_add,Nat.mul_one]
    tactic =>
    exact ⟨rfl, trivial⟩
  · have h0 := cB_length l
    have h1 := cB_all l
    have h2 := cB_okI l
    sym =>
    simp [Zaa,Zab,Zad,Zae,Zaf,Zak,Zal,Zam,Zao,Zay,Zaz,Za0,Za1,Za2,Za3,Za4,Za5,Za9,Zba,Zbb,Zcz,Zc5,Zda,Zq8,Zev,Zew,Zez,Ze0,Ze2,Ze3,Ze4,Ze5,Zfc,Zfd,Zfe,Zff,Zfg,Zfh,Zhf,Ziq,Zir,Zix,Ziz,Zi0,Zi2,Zi3,Zmt,Zmv,Zmw,Zmx,Zmz,Zm2,Zna,Znb,Znc,Znh,Znr,Zos,Zot,Zo3,Zo7,Zpx,Zp0,Zp1,Zp2,Zp3,Zq5,Zq6,Zqh,Zqi,Zqk,Zql,Zqm,Zqn,Zqo,eq_self,true_and,and_true,Nat.zero_add,Nat.mul_one,h0,h1]
    tactic =>
    refine ⟨⟨Nat.le_refl _, cB_okF l, hl, by omega⟩, ?_⟩
    refine endM [(0, 0)] 2 ?_
    sym =>
    simp [Zaa,Zab,Zad,Zae,Zaf,Zak,Zal,Zam,Zao,Zay,Zaz,Za0,Za1,Za2,Za3,Za4,Za5,Za9,Zba,Zbb,Zcz,Zc5,Zda,Zq8,Zev,Zew,Zez,Ze0,Ze2,Ze3,Ze4,Ze5,Zfc,Zfd,Zfe,Zff,Zfg,Zfh,Zhf,Ziq,Zir,Zix,Ziz,Zi0,Zi2,Zi3,Zmt,Zmv,Zmw,Zmx,Zmz,Zm2,Zna,Znb,Znc,Znh,Znr,Zos,Zot,Zo3,Zo7,Zpx,Zp0,Zp1,Zp2,Zp3,Zq5,Zq6,Zqh,Zqi,Zqk,Zql,Zqm,Zqn,Zqo,eq_self,true_and,and_true,Nat.zero_add,Nat.mul_one,h0,h1]
    tactic =>
    exact ⟨⟨Nat.le_refl _, h2⟩, rs_self h2⟩
theorem new_con : Con Try.prog 19 [] [I 20] [] (.tu [lkA 20 [] 0 0, I 0]) := by
  refine con_j b19 rfl ?_
  sym =>
  simp [Zaa,Zab,Zad,Zae,Zaf,Zak,Zal,Zam,Zaz,Za0,Za1,Za2,Za3,Za4,Za5,Za6,Za7,Za9,Zba,Zbb,Zbd,Zbf,Zb9,Zcv,Zc3,Zev,Zew,Zex,Zez,Ze0,Ze1,Ze2,Ze3,Ze5,Zfc,Zfd,Zfe,Zfh,Zfi,Zfl,Zfn,Zf1,Zf3,Zhd,Zhe,Zhf,Zhg,Zhh,Zin,Ziu,Ziv,Ziw,Zi6,Zi7,Zjh,Zji,Zjn,Zj2,Zmt,Zmv,Zmw,Zmx,Zmy,Zmz,Zm0,Zm1,Zm3,Zm5,Zm7,Zm9,Zna,Znb,Znn,Zno,Znp,Zos,Zot,Zo7,Zo9,Zpa,Zpb,Zpv,Zp7,Zp9,Zqb,Zqc,Zqd,Zqe,eq_self,true_and,and_true]
  tactic =>
  refine endA ?_
  sym =>
  simp [Zaa,Zab,Zad,Zae,Zaf,Zak,Zal,Zam,Zaz,Za0,Za1,Za2,Za3,Za4,Za5,Za6,Za7,Za9,Zba,Zbb,Zbd,Zbf,Zb9,Zcv,Zc3,Zev,Zew,Zex,Zez,Ze0,Ze1,Ze2,Ze3,Ze5,Zfc,Zfd,Zfe,Zfh,Zfi,Zfl,Zfn,Zf1,Zf3,Zhd,Zhe,Zhf,Zhg,Zhh,Zin,Ziu,Ziv,Ziw,Zi6,Zi7,Zjh,Zji,Zjn,Zj2,Zmt,Zmv,Zmw,Zmx,Zmy,Zmz,Zm0,Zm1,Zm3,Zm5,Zm7,Zm9,Zna,Znb,Znn,Zno,Znp,Zos,Zot,Zo7,Zo9,Zpa,Zpb,Zpv,Zp7,Zp9,Zqb,Zqc,Zqd,Zqe,eq_self,true_and,and_true]
  tactic =>
  rfl
theorem put_con (room : Nat) (L : List (List Int)) (s lo : Int) (d : List Int) (hr : room ≤ 1000) (hL : L.length ≤ 1000) (hd : d.length ≤ 1000) : ∃ lo', Con Try.prog 63 [] [lkA (IN room) L s lo, fB d] [] (lkA (IN room) (putL room L d) s lo') := by
  have hc := clone_con d (by omega)
  by_cases h : L.length < room
  · have hg : ¬ room ≤ L.length := by omega
    have hp : putL room L d = L ++ [d] := by unfold putL; rw [if_pos h]
    have hrl := cR_length L
    have hra := cR_all L
    have hI := cR_okI L
    have hF := cR_okF L
    refine ⟨lo, ?_⟩
    rw [hp]
    by_cases h0 : L.length = 0
    · obtain rfl := List.length_eq_zero_iff.1 h0
      have hg' : ¬ room = 0 := by have : ([] : List (List Int)).length = 0 := rfl; omega
      refine con_j b63 rfl ?_
      sym =>
      simp [Zaa,Zab,Zac,Zad,Zae,Zaf,Zak,Zal,Zam,Zao,Zaz,Za0,Za1,Za2,Za3,Za4,Za5,Za9,Zba,Zbb,Zbc,Zbf,Zbt,Zbu,Zbv,Zbw,Zci,Zcn,Zcv,Zcx,Zc0,Zc3,Zc4,Zc6,Zc7,Zc8,Zc9,Zdm,Zrk,Zrl,Zrm,Zrn,Zro,Zrq,Zrr,Zva,Zru,Zrx,Zry,Zrz,Zr5,Zsf,Zsh,Zsj,Zsm,Zsn,Zso,Zsr,Zsw,Zdo,Zdp,Zdt,Zdu,Zdv,Zdw,Zdx,Zdy,Zdz,Zd0,Zd1,Zd2,Zeb,Zeh,Zek,Zeq,Zet,Zev,Zew,Zez,Ze0,Ze1,Ze2,Ze3,Ze4,Ze5,Ze8,Zfc,Zfd,Zfe,Zff,Zfg,Zfh,Zfn,Zfq,Zf4,Zgr,Zgs,Zgt,Zgv,Zgw,Zgx,Zhf,Zhg,Zhh,Zhm,Zhn,Zho,Zhs,Zhv,Zhw,Zh6,Zh7,Zin,Zio,Zip,Ziq,Zir,Ziu,Ziv,Ziw,Zix,Zuk,Ziz,Zi0,Zi2,Zi3,Zi6,Zi7,Zjb,Zje,Zjg,Zjh,Zji,Zjj,Zjk,Zjl,Zjm,Zjn,Zj7,Zj8,Zj9,Zkl,Zll,Zl2,Zmt,Zmv,Zmw,Zmy,Zm0,Zm1,Zm2,Zm5,Zm6,Zm7,Zm9,Zna,Znb,Znc,Znd,Zne,Znf,Zng,Znh,Znl,Znm,Znn,Zno,Znp,Znr,Zns,Znu,Znw,Zn0,Zn5,Zos,Zot,Zo7,Zo8,Zo9,Zpa,Zpg,Zpy,Zp1,Zp2,Zp8,Zqb,Zqc,List.length_append,eq_self,true_and,and_true,Nat.zero_add,Nat.mul_one,hg',callable_62]
      tactic =>
      refine clG [] none hc rfl ⟨trivial, trivial, rfl⟩ ?_
      sym =>
      simp [Zaa,Zab,Zac,Zad,Zae,Zaf,Zak,Zal,Zam,Zao,Zaz,Za0,Za1,Za2,Za3,Za4,Za5,Za9,Zba,Zbb,Zbc,Zbf,Zbt,Zbu,Zbv,Zbw,Zci,Zcn,Zcv,Zcx,Zc0,Zc3,Zc4,Zc6,Zc7,Zc8,Zc9,Zdm,Zrk,Zrl,Zrm,Zrn,Zro,Zrq,Zrr,Zva,Zru,Zrx,Zry,Zrz,Zr5,Zsf,Zsh,Zsj,Zsm,Zsn,Zso,Zsr,Zsw,Zdo,Zdp,Zdt,Zdu,Zdv,Zdw,Zdx,Zdy,Zdz,Zd0,Zd1,Zd2,Zeb,Zeh,Zek,Zeq,Zet,Zev,Zew,Zez,Ze0,Ze1,Ze2,Ze3,Ze4,Ze5,Ze8,Zfc,Zfd,Zfe,Zff,Zfg,Zfh,Zfn,Zfq,Zf4,Zgr,Zgs,Zgt,Zgv,Zgw,Zgx,Zhf,Zhg,Zhh,Zhm,Zhn,Zho,Zhs,Zhv,Zhw,Zh6,Zh7,Zin,Zio,Zip,Ziq,Zir,Ziu,Ziv,Ziw,Zix,Zuk,Ziz,Zi0,Zi2,Zi3,Zi6,Zi7,Zjb,Zje,Zjg,Zjh,Zji,Zjj,Zjk,Zjl,Zjm,Zjn,Zj7,Zj8,Zj9,Zkl,Zll,Zl2,Zmt,Zmv,Zmw,Zmy,Zm0,Zm1,Zm2,Zm5,Zm6,Zm7,Zm9,Zna,Znb,Znc,Znd,Zne,Znf,Zng,Znh,Znl,Znm,Znn,Zno,Znp,Znr,Zns,Znu,Znw,Zn0,Zn5,Zos,Zot,Zo7,Zo8,Zo9,Zpa,Zpg,Zpy,Zp1,Zp2,Zp8,Zqb,Zqc,List.length_append,eq_self,true_and,and_true,Nat.zero_add,Nat.mul_one]
      tactic =>
      refine endA ?_
      sym =>
      simp [Zaa,Zab,Zac,Zad,Zae,Zaf,Zak,Zal,Zam,Zao,Zaz,Za0,Za1,Za2,Za3,Za4,Za5,Za9,Zba,Zbb,Zbc,Zbf,Zbt,Zbu,Zbv,Zbw,Zci,Zcn,Zcv,Zcx,Zc0,Zc3,Zc4,Zc6,Zc7,Zc8,Zc9,Zdm,Zrk,Zrl,Zrm,Zrn,Zro,Zrq,Zrr,Zva,Zru,Zrx,Zry,Zrz,Zr5,Zsf,Zsh,Zsj,Zsm,Zsn,Zso,Zsr,Zsw,Zdo,Zdp,Zdt,Zdu,Zdv,Zdw,Zdx,Zdy,Zdz,Zd0,Zd1,Zd2,Zeb,Zeh,Zek,Zeq,Zet,Zev,Zew,Zez,Ze0,Ze1,Ze2,Ze3,Ze4,Ze5,Ze8,Zfc,Zfd,Zfe,Zff,Zfg,Zfh,Zfn,Zfq,Zf4,Zgr,Zgs,Zgt,Zgv,Zgw,Zgx,Zhf,Zhg,Zhh,Zhm,Zhn,Zho,Zhs,Zhv,Zhw,Zh6,Zh7,Zin,Zio,Zip,Ziq,Zir,Ziu,Ziv,Ziw,Zix,Zuk,Ziz,Zi0,Zi2,Zi3,Zi6,Zi7,Zjb,Zje,Zjg,Zjh,Zji,Zjj,Zjk,Zjl,Zjm,Zjn,Zj7,Zj8,Zj9,Zkl,Zll,Zl2,Zmt,Zmv,Zmw,Zmy,Zm0,Zm1,Zm2,Zm5,Zm6,Zm7,Zm9,Zna,Znb,Znc,Znd,Zne,Znf,Zng,Znh,Znl,Znm,Znn,Zno,Znp,Znr,Zns,Znu,Znw,Zn0,Zn5,Zos,Zot,Zo7,Zo8,Zo9,Zpa,Zpg,Zpy,Zp1,Zp2,Zp8,Zqb,Zqc,List.length_append,eq_self,true_and,and_true,Nat.zero_add,Nat.mul_one]
      tactic =>
      rfl
    · have h1 : ¬ (0 : Int) = IN L.length := by simp only [IN]; omega
      refine con_j b63 rfl ?_
      sym =>
      simp [Zaa,Zab,Zac,Zad,Zae,Zaf,Zak,Zal,Zam,Zao,Zaz,Za0,Za1,Za2,Za3,Za4,Za5,Za9,Zba,Zbb,Zbc,Zbf,Zbt,Zbu,Zbv,Zbw,Zci,Zcn,Zcv,Zcx,Zc0,Zc3,Zc4,Zc6,Zc7,Zc8,Zc9,Zdm,Zrk,Zrl,Zrm,Zrn,Zro,Zrq,Zrr,Zva,Zru,Zrx,Zry,Zrz,Zr5,Zsf,Zsh,Zsj,Zsm,Zsn,Zso,Zsr,Zsw,Zdo,Zdp,Zdt,Zdu,Zdv,Zdw,Zdx,Zdy,Zdz,Zd0,Zd1,Zd2,Zeb,Zeh,Zek,Zeq,Zet,Zev,Zew,Zez,Ze0,Ze1,Ze2,Ze3,Ze4,Ze5,Ze8,Zfc,Zfd,Zfe,Zff,Zfg,Zfh,Zfn,Zfq,Zf4,Zgr,Zgs,Zgt,Zgv,Zgw,Zgx,Zhf,Zhg,Zhh,Zhm,Zhn,Zho,Zhs,Zhv,Zhw,Zh6,Zh7,Zin,Zio,Zip,Ziq,Zir,Ziu,Ziv,Ziw,Zix,Zuk,Ziz,Zi0,Zi2,Zi3,Zi6,Zi7,Zjb,Zje,Zjg,Zjh,Zji,Zjj,Zjk,Zjl,Zjm,Zjn,Zj7,Zj8,Zj9,Zkl,Zll,Zl2,Zmt,Zmv,Zmw,Zmy,Zm0,Zm1,Zm2,Zm5,Zm6,Zm7,Zm9,Zna,Znb,Znc,Znd,Zne,Znf,Zng,Znh,Znl,Znm,Znn,Zno,Znp,Znr,Zns,Znu,Znw,Zn0,Zn5,Zos,Zot,Zo7,Zo8,Zo9,Zpa,Zpg,Zpy,Zp1,Zp2,Zp8,Zqb,Zqc,List.length_append,eq_self,true_and,and_true,Nat.zero_add,Nat.mul_one,hg,h1,hrl,hra,callable_62]
      tactic =>
      refine ⟨Nat.le_refl _, ?_⟩
      refine clG [] none hc rfl ⟨trivial, trivial, rfl⟩ ?_
      sym =>
      simp [Zaa,Zab,Zac,Zad,Zae,Zaf,Zak,Zal,Zam,Zao,Zaz,Za0,Za1,Za2,Za3,Za4,Za5,Za9,Zba,Zbb,Zbc,Zbf,Zbt,Zbu,Zbv,Zbw,Zci,Zcn,Zcv,Zcx,Zc0,Zc3,Zc4,Zc6,Zc7,Zc8,Zc9,Zdm,Zrk,Zrl,Zrm,Zrn,Zro,Zrq,Zrr,Zva,Zru,Zrx,Zry,Zrz,Zr5,Zsf,Zsh,Zsj,Zsm,Zsn,Zso,Zsr,Zsw,Zdo,Zdp,Zdt,Zdu,Zdv,Zdw,Zdx,Zdy,Zdz,Zd0,Zd1,Zd2,Zeb,Zeh,Zek,Zeq,Zet,Zev,Zew,Zez,Ze0,Ze1,Ze2,Ze3,Ze4,Ze5,Ze8,Zfc,Zfd,Zfe,Zff,Zfg,Zfh,Zfn,Zfq,Zf4,Zgr,Zgs,Zgt,Zgv,Zgw,Zgx,Zhf,Zhg,Zhh,Zhm,Zhn,Zho,Zhs,Zhv,Zhw,Zh6,Zh7,Zin,Zio,Zip,Ziq,Zir,Ziu,Ziv,Ziw,Zix,Zuk,Ziz,Zi0,Zi2,Zi3,Zi6,Zi7,Zjb,Zje,Zjg,Zjh,Zji,Zjj,Zjk,Zjl,Zjm,Zjn,Zj7,Zj8,Zj9,Zkl,Zll,Zl2,Zmt,Zmv,Zmw,Zmy,Zm0,Zm1,Zm2,Zm5,Zm6,Zm7,Zm9,Zna,Znb,Znc,Znd,Zne,Znf,Zng,Znh,Znl,Znm,Znn,Zno,Znp,Znr,Zns,Znu,Znw,Zn0,Zn5,Zos,Zot,Zo7,Zo8,Zo9,Zpa,Zpg,Zpy,Zp1,Zp2,Zp8,Zqb,Zqc,List.length_append,eq_self,true_and,and_true,Nat.zero_add,Nat.mul_one,hrl,hra]
      tactic =>
      refine ⟨⟨by omega, by omega⟩, ?_⟩
      have hcc : cR L ++ [fB d] = cR (L ++ [d]) := by rw [cR_append]; rfl
      have hcl : (cR (L ++ [d])).length = L.length + 1 := by rw [cR_length, List.length_append]; rfl
      have hcI := cR_okI (L ++ [d])
      rw [hcc]
      refine endA ?_
      sym =>
      simp [Zaa,Zab,Zac,Zad,Zae,Zaf,Zak,Zal,Zam,Zao,Zaz,Za0,Za1,Za2,Za3,Za4,Za5,Za9,Zba,Zbb,Zbc,Zbf,Zbt,Zbu,Zbv,Zbw,Zci,Zcn,Zcv,Zcx,Zc0,Zc3,Zc4,Zc6,Zc7,Zc8,Zc9,Zdm,Zrk,Zrl,Zrm,Zrn,Zro,Zrq,Zrr,Zva,Zru,Zrx,Zry,Zrz,Zr5,Zsf,Zsh,Zsj,Zsm,Zsn,Zso,Zsr,Zsw,Zdo,Zdp,Zdt,Zdu,Zdv,Zdw,Zdx,Zdy,Zdz,Zd0,Zd1,Zd2,Zeb,Zeh,Zek,Zeq,Zet,Zev,Zew,Zez,Ze0,Ze1,Ze2,Ze3,Ze4,Ze5,Ze8,Zfc,Zfd,Zfe,Zff,Zfg,Zfh,Zfn,Zfq,Zf4,Zgr,Zgs,Zgt,Zgv,Zgw,Zgx,Zhf,Zhg,Zhh,Zhm,Zhn,Zho,Zhs,Zhv,Zhw,Zh6,Zh7,Zin,Zio,Zip,Ziq,Zir,Ziu,Ziv,Ziw,Zix,Zuk,Ziz,Zi0,Zi2,Zi3,Zi6,Zi7,Zjb,Zje,Zjg,Zjh,Zji,Zjj,Zjk,Zjl,Zjm,Zjn,Zj7,Zj8,Zj9,Zkl,Zll,Zl2,Zmt,Zmv,Zmw,Zmy,Zm0,Zm1,Zm2,Zm5,Zm6,Zm7,Zm9,Zna,Znb,Znc,Znd,Zne,Znf,Zng,Znh,Znl,Znm,Znn,Zno,Znp,Znr,Zns,Znu,Znw,Zn0,Zn5,Zos,Zot,Zo7,Zo8,Zo9,Zpa,Zpg,Zpy,Zp1,Zp2,Zp8,Zqb,Zqc,List.length_append,eq_self,true_and,and_true,Nat.zero_add,Nat.mul_one,hcl]
      tactic =>
      rw [List.take_of_length_le (by rw [hcl]; exact Nat.le_refl _)]
      exact ⟨rfl, Nat.le_refl _, hcI⟩
  · have hg : room ≤ L.length := by omega
    have hp : putL room L d = L := by unfold putL; rw [if_neg h]
    refine ⟨IntKind.i64.wrap (lo + 1), ?_⟩
    rw [hp]
    refine con_j b63 rfl ?_
    sym =>
    simp [Zaa,Zab,Zac,Zad,Zae,Zaf,Zak,Zal,Zam,Zao,Zaz,Za0,Za1,Za2,Za3,Za4,Za5,Za9,Zba,Zbb,Zbc,Zbf,Zbt,Zbu,Zbv,Zbw,Zci,Zcn,Zcv,Zcx,Zc0,Zc3,Zc4,Zc6,Zc7,Zc8,Zc9,Zdm,Zrk,Zrl,Zrm,Zrn,Zro,Zrq,Zrr,Zva,Zru,Zrx,Zry,Zrz,Zr5,Zsf,Zsh,Zsj,Zsm,Zsn,Zso,Zsr,Zsw,Zdo,Zdp,Zdt,Zdu,Zdv,Zdw,Zdx,Zdy,Zdz,Zd0,Zd1,Zd2,Zeb,Zeh,Zek,Zeq,Zet,Zev,Zew,Zez,Ze0,Ze1,Ze2,Ze3,Ze4,Ze5,Ze8,Zfc,Zfd,Zfe,Zff,Zfg,Zfh,Zfn,Zfq,Zf4,Zgr,Zgs,Zgt,Zgv,Zgw,Zgx,Zhf,Zhg,Zhh,Zhm,Zhn,Zho,Zhs,Zhv,Zhw,Zh6,Zh7,Zin,Zio,Zip,Ziq,Zir,Ziu,Ziv,Ziw,Zix,Zuk,Ziz,Zi0,Zi2,Zi3,Zi6,Zi7,Zjb,Zje,Zjg,Zjh,Zji,Zjj,Zjk,Zjl,Zjm,Zjn,Zj7,Zj8,Zj9,Zkl,Zll,Zl2,Zmt,Zmv,Zmw,Zmy,Zm0,Zm1,Zm2,Zm5,Zm6,Zm7,Zm9,Zna,Znb,Znc,Znd,Zne,Znf,Zng,Znh,Znl,Znm,Znn,Zno,Znp,Znr,Zns,Znu,Znw,Zn0,Zn5,Zos,Zot,Zo7,Zo8,Zo9,Zpa,Zpg,Zpy,Zp1,Zp2,Zp8,Zqb,Zqc,List.length_append,eq_self,true_and,and_true,Nat.zero_add,Nat.mul_one,hg]
    tactic =>
    refine endA ?_
    sym =>
    simp [Zaa,Zab,Zac,Zad,Zae,Zaf,Zak,Zal,Zam,Zao,Zaz,Za0,Za1,Za2,Za3,Za4,Za5,Za9,Zba,Zbb,Zbc,Zbf,Zbt,Zbu,Zbv,Zbw,Zci,Zcn,Zcv,Zcx,Zc0,Zc3,Zc4,Zc6,Zc7,Zc8,Zc9,Zdm,Zrk,Zrl,Zrm,Zrn,Zro,Zrq,Zrr,Zva,Zru,Zrx,Zry,Zrz,Zr5,Zsf,Zsh,Zsj,Zsm,Zsn,Zso,Zsr,Zsw,Zdo,Zdp,Zdt,Zdu,Zdv,Zdw,Zdx,Zdy,Zdz,Zd0,Zd1,Zd2,Zeb,Zeh,Zek,Zeq,Zet,Zev,Zew,Zez,Ze0,Ze1,Ze2,Ze3,Ze4,Ze5,Ze8,Zfc,Zfd,Zfe,Zff,Zfg,Zfh,Zfn,Zfq,Zf4,Zgr,Zgs,Zgt,Zgv,Zgw,Zgx,Zhf,Zhg,Zhh,Zhm,Zhn,Zho,Zhs,Zhv,Zhw,Zh6,Zh7,Zin,Zio,Zip,Ziq,Zir,Ziu,Ziv,Ziw,Zix,Zuk,Ziz,Zi0,Zi2,Zi3,Zi6,Zi7,Zjb,Zje,Zjg,Zjh,Zji,Zjj,Zjk,Zjl,Zjm,Zjn,Zj7,Zj8,Zj9,Zkl,Zll,Zl2,Zmt,Zmv,Zmw,Zmy,Zm0,Zm1,Zm2,Zm5,Zm6,Zm7,Zm9,Zna,Znb,Znc,Znd,Zne,Znf,Zng,Znh,Znl,Znm,Znn,Zno,Znp,Znr,Zns,Znu,Znw,Zn0,Zn5,Zos,Zot,Zo7,Zo8,Zo9,Zpa,Zpg,Zpy,Zp1,Zp2,Zp8,Zqb,Zqc,List.length_append,eq_self,true_and,and_true,Nat.zero_add,Nat.mul_one]
theorem hput_con (room : Nat) (L : List (List Int)) (s lo : Int) (d : List Int) (hr : room ≤ 1000) (hL : L.length ≤ 1000) (hd : d.length ≤ 1000) : ∃ lo', Con Try.prog 63 [(0, ⟨cB d, 1, 0⟩)] [lkA (IN room) L s lo, .lv 0 0 d.length] [(0, ⟨cB d, 1, 0⟩)] (lkA (IN room) (putL room L d) s lo') := by
  have hc := hclone_con d (by omega)
  have hdI := cB_okI d
  by_cases h : L.length < room
  · have hg : ¬ room ≤ L.length := by omega
    have hp : putL room L d = L ++ [d] := by unfold putL; rw [if_pos h]
    have hrl := cR_length L
    have hra := cR_all L
    have hI := cR_okI L
    have hF := cR_okF L
    refine ⟨lo, ?_⟩
    rw [hp]
    by_cases h0 : L.length = 0
    · obtain rfl := List.length_eq_zero_iff.1 h0
      have hg' : ¬ room = 0 := by have : ([] : List (List Int)).length = 0 := rfl; omega
      refine con_n b63 rfl ?_
      sym =>
      simp [Zaa,Zab,Zac,Zad,Zae,Zaf,Zak,Zal,Zam,Zao,Zaz,Za0,Za1,Za2,Za3,Za4,Za5,Za9,Zba,Zbb,Zbc,Zbf,Zbt,Zbu,Zbv,Zbw,Zci,Zcn,Zcv,Zcx,Zc0,Zc3,Zc4,Zc6,Zc7,Zc8,Zc9,Zdm,Zrk,Zrl,Zrm,Zrn,Zro,Zrq,Zrr,Zrs,Zru,Zrv,Zrw,Zrx,Zry,Zrz,Zr0,Zr9,Zsd,Zse,Zsf,Zsg,Zsh,Zsj,Zsm,Zsn,Zso,Zsp,Zsr,Zsw,Zdo,Zdp,Zdt,Zdu,Zdv,Zdw,Zdx,Zdy,Zdz,Zd0,Zd1,Zd2,Zeb,Zeh,Zek,Zeq,Zet,Zev,Zew,Zez,Ze0,Ze1,Ze2,Ze3,Ze4,Ze5,Ze8,Zfc,Zfd,Zfe,Zff,Zfg,Zfh,Zfn,Zfq,Zf4,Zgr,Zgs,Zgt,Zgv,Zgw,Zgx,Zhf,Zhg,Zhh,Zhm,Zhn,Zho,Zhs,Zhv,Zhw,Zh6,Zh7,Zin,Zio,Zip,Ziq,Zir,Ziu,Ziv,Ziw,Zix,Zuk,Ziz,Zi0,Zi2,Zi3,Zi6,Zi7,Zjb,Zje,Zjg,Zjh,Zji,Zjj,Zjk,Zjl,Zjm,Zjn,Zj7,Zj8,Zj9,Zkl,Zlt,Zlx,Zl2,Zmt,Zmv,Zmw,Zmy,Zm0,Zm1,Zm2,Zm5,Zm6,Zm7,Zm9,Zna,Znb,Znc,Znd,Zne,Znf,Zng,Znh,Znl,Znm,Znn,Zno,Znp,Znr,Zns,Znu,Znw,Zn0,Zn5,Zos,Zot,Zo7,Zo8,Zo9,Zpa,Zpg,Zpy,Zp1,Zp2,Zp3,Zp8,Zqb,Zqc,Zq5,Zq6,Zqh,Zqi,Zqk,Zql,Zqm,Zqn,Zqo,List.length_append,eq_self,true_and,and_true,Nat.zero_add,Nat.mul_one,hg',callable_62]
      tactic =>
      refine ⟨hdI, ?_⟩
      refine clG [some ⟨cB d, 1, 0⟩] none hc rfl ⟨⟨hdI, trivial⟩, trivial, rfl⟩ ?_
      sym =>
      simp [Zaa,Zab,Zac,Zad,Zae,Zaf,Zak,Zal,Zam,Zao,Zaz,Za0,Za1,Za2,Za3,Za4,Za5,Za9,Zba,Zbb,Zbc,Zbf,Zbt,Zbu,Zbv,Zbw,Zci,Zcn,Zcv,Zcx,Zc0,Zc3,Zc4,Zc6,Zc7,Zc8,Zc9,Zdm,Zrk,Zrl,Zrm,Zrn,Zro,Zrq,Zrr,Zrs,Zru,Zrv,Zrw,Zrx,Zry,Zrz,Zr0,Zr9,Zsd,Zse,Zsf,Zsg,Zsh,Zsj,Zsm,Zsn,Zso,Zsp,Zsr,Zsw,Zdo,Zdp,Zdt,Zdu,Zdv,Zdw,Zdx,Zdy,Zdz,Zd0,Zd1,Zd2,Zeb,Zeh,Zek,Zeq,Zet,Zev,Zew,Zez,Ze0,Ze1,Ze2,Ze3,Ze4,Ze5,Ze8,Zfc,Zfd,Zfe,Zff,Zfg,Zfh,Zfn,Zfq,Zf4,Zgr,Zgs,Zgt,Zgv,Zgw,Zgx,Zhf,Zhg,Zhh,Zhm,Zhn,Zho,Zhs,Zhv,Zhw,Zh6,Zh7,Zin,Zio,Zip,Ziq,Zir,Ziu,Ziv,Ziw,Zix,Zuk,Ziz,Zi0,Zi2,Zi3,Zi6,Zi7,Zjb,Zje,Zjg,Zjh,Zji,Zjj,Zjk,Zjl,Zjm,Zjn,Zj7,Zj8,Zj9,Zkl,Zlt,Zlx,Zl2,Zmt,Zmv,Zmw,Zmy,Zm0,Zm1,Zm2,Zm5,Zm6,Zm7,Zm9,Zna,Znb,Znc,Znd,Zne,Znf,Zng,Znh,Znl,Znm,Znn,Zno,Znp,Znr,Zns,Znu,Znw,Zn0,Zn5,Zos,Zot,Zo7,Zo8,Zo9,Zpa,Zpg,Zpy,Zp1,Zp2,Zp3,Zp8,Zqb,Zqc,Zq5,Zq6,Zqh,Zqi,Zqk,Zql,Zqm,Zqn,Zqo,List.length_append,eq_self,true_and,and_true,Nat.zero_add,Nat.mul_one]
      tactic =>
      refine endM [(0, 0)] 3 ?_
      sym =>
      simp [Zaa,Zab,Zac,Zad,Zae,Zaf,Zak,Zal,Zam,Zao,Zaz,Za0,Za1,Za2,Za3,Za4,Za5,Za9,Zba,Zbb,Zbc,Zbf,Zbt,Zbu,Zbv,Zbw,Zci,Zcn,Zcv,Zcx,Zc0,Zc3,Zc4,Zc6,Zc7,Zc8,Zc9,Zdm,Zrk,Zrl,Zrm,Zrn,Zro,Zrq,Zrr,Zrs,Zru,Zrv,Zrw,Zrx,Zry,Zrz,Zr0,Zr9,Zsd,Zse,Zsf,Zsg,Zsh,Zsj,Zsm,Zsn,Zso,Zsp,Zsr,Zsw,Zdo,Zdp,Zdt,Zdu,Zdv,Zdw,Zdx,Zdy,Zdz,Zd0,Zd1,Zd2,Zeb,Zeh,Zek,Zeq,Zet,Zev,Zew,Zez,Ze0,Ze1,Ze2,Ze3,Ze4,Ze5,Ze8,Zfc,Zfd,Zfe,Zff,Zfg,Zfh,Zfn,Zfq,Zf4,Zgr,Zgs,Zgt,Zgv,Zgw,Zgx,Zhf,Zhg,Zhh,Zhm,Zhn,Zho,Zhs,Zhv,Zhw,Zh6,Zh7,Zin,Zio,Zip,Ziq,Zir,Ziu,Ziv,Ziw,Zix,Zuk,Ziz,Zi0,Zi2,Zi3,Zi6,Zi7,Zjb,Zje,Zjg,Zjh,Zji,Zjj,Zjk,Zjl,Zjm,Zjn,Zj7,Zj8,Zj9,Zkl,Zlt,Zlx,Zl2,Zmt,Zmv,Zmw,Zmy,Zm0,Zm1,Zm2,Zm5,Zm6,Zm7,Zm9,Zna,Znb,Znc,Znd,Zne,Znf,Zng,Znh,Znl,Znm,Znn,Zno,Znp,Znr,Zns,Znu,Znw,Zn0,Zn5,Zos,Zot,Zo7,Zo8,Zo9,Zpa,Zpg,Zpy,Zp1,Zp2,Zp3,Zp8,Zqb,Zqc,Zq5,Zq6,Zqh,Zqi,Zqk,Zql,Zqm,Zqn,Zqo,List.length_append,eq_self,true_and,and_true,Nat.zero_add,Nat.mul_one]
      tactic =>
      exact ⟨rfl, rs_self hdI⟩
    · have h1 : ¬ (0 : Int) = IN L.length := by simp only [IN]; omega
      refine con_n b63 rfl ?_
      sym =>
      simp [Zaa,Zab,Zac,Zad,Zae,Zaf,Zak,Zal,Zam,Zao,Zaz,Za0,Za1,Za2,Za3,Za4,Za5,Za9,Zba,Zbb,Zbc,Zbf,Zbt,Zbu,Zbv,Zbw,Zci,Zcn,Zcv,Zcx,Zc0,Zc3,Zc4,Zc6,Zc7,Zc8,Zc9,Zdm,Zrk,Zrl,Zrm,Zrn,Zro,Zrq,Zrr,Zrs,Zru,Zrv,Zrw,Zrx,Zry,Zrz,Zr0,Zr9,Zsd,Zse,Zsf,Zsg,Zsh,Zsj,Zsm,Zsn,Zso,Zsp,Zsr,Zsw,Zdo,Zdp,Zdt,Zdu,Zdv,Zdw,Zdx,Zdy,Zdz,Zd0,Zd1,Zd2,Zeb,Zeh,Zek,Zeq,Zet,Zev,Zew,Zez,Ze0,Ze1,Ze2,Ze3,Ze4,Ze5,Ze8,Zfc,Zfd,Zfe,Zff,Zfg,Zfh,Zfn,Zfq,Zf4,Zgr,Zgs,Zgt,Zgv,Zgw,Zgx,Zhf,Zhg,Zhh,Zhm,Zhn,Zho,Zhs,Zhv,Zhw,Zh6,Zh7,Zin,Zio,Zip,Ziq,Zir,Ziu,Ziv,Ziw,Zix,Zuk,Ziz,Zi0,Zi2,Zi3,Zi6,Zi7,Zjb,Zje,Zjg,Zjh,Zji,Zjj,Zjk,Zjl,Zjm,Zjn,Zj7,Zj8,Zj9,Zkl,Zlt,Zlx,Zl2,Zmt,Zmv,Zmw,Zmy,Zm0,Zm1,Zm2,Zm5,Zm6,Zm7,Zm9,Zna,Znb,Znc,Znd,Zne,Znf,Zng,Znh,Znl,Znm,Znn,Zno,Znp,Znr,Zns,Znu,Znw,Zn0,Zn5,Zos,Zot,Zo7,Zo8,Zo9,Zpa,Zpg,Zpy,Zp1,Zp2,Zp3,Zp8,Zqb,Zqc,Zq5,Zq6,Zqh,Zqi,Zqk,Zql,Zqm,Zqn,Zqo,List.length_append,eq_self,true_and,and_true,Nat.zero_add,Nat.mul_one,hg,h1,hrl,hra,callable_62]
      tactic =>
      refine ⟨Nat.le_refl _, hdI, ?_⟩
      refine clG [some ⟨cB d, 1, 0⟩] none hc rfl ⟨⟨hdI, trivial⟩, trivial, rfl⟩ ?_
      sym =>
      simp [Zaa,Zab,Zac,Zad,Zae,Zaf,Zak,Zal,Zam,Zao,Zaz,Za0,Za1,Za2,Za3,Za4,Za5,Za9,Zba,Zbb,Zbc,Zbf,Zbt,Zbu,Zbv,Zbw,Zci,Zcn,Zcv,Zcx,Zc0,Zc3,Zc4,Zc6,Zc7,Zc8,Zc9,Zdm,Zrk,Zrl,Zrm,Zrn,Zro,Zrq,Zrr,Zrs,Zru,Zrv,Zrw,Zrx,Zry,Zrz,Zr0,Zr9,Zsd,Zse,Zsf,Zsg,Zsh,Zsj,Zsm,Zsn,Zso,Zsp,Zsr,Zsw,Zdo,Zdp,Zdt,Zdu,Zdv,Zdw,Zdx,Zdy,Zdz,Zd0,Zd1,Zd2,Zeb,Zeh,Zek,Zeq,Zet,Zev,Zew,Zez,Ze0,Ze1,Ze2,Ze3,Ze4,Ze5,Ze8,Zfc,Zfd,Zfe,Zff,Zfg,Zfh,Zfn,Zfq,Zf4,Zgr,Zgs,Zgt,Zgv,Zgw,Zgx,Zhf,Zhg,Zhh,Zhm,Zhn,Zho,Zhs,Zhv,Zhw,Zh6,Zh7,Zin,Zio,Zip,Ziq,Zir,Ziu,Ziv,Ziw,Zix,Zuk,Ziz,Zi0,Zi2,Zi3,Zi6,Zi7,Zjb,Zje,Zjg,Zjh,Zji,Zjj,Zjk,Zjl,Zjm,Zjn,Zj7,Zj8,Zj9,Zkl,Zlt,Zlx,Zl2,Zmt,Zmv,Zmw,Zmy,Zm0,Zm1,Zm2,Zm5,Zm6,Zm7,Zm9,Zna,Znb,Znc,Znd,Zne,Znf,Zng,Znh,Znl,Znm,Znn,Zno,Znp,Znr,Zns,Znu,Znw,Zn0,Zn5,Zos,Zot,Zo7,Zo8,Zo9,Zpa,Zpg,Zpy,Zp1,Zp2,Zp3,Zp8,Zqb,Zqc,Zq5,Zq6,Zqh,Zqi,Zqk,Zql,Zqm,Zqn,Zqo,List.length_append,eq_self,true_and,and_true,Nat.zero_add,Nat.mul_one,hrl,hra]
      tactic =>
      refine ⟨⟨by omega, by omega⟩, ?_⟩
      have hcc : cR L ++ [fB d] = cR (L ++ [d]) := by rw [cR_append]; rfl
      have hcl : (cR (L ++ [d])).length = L.length + 1 := by rw [cR_length, List.length_append]; rfl
      have hcI := cR_okI (L ++ [d])
      rw [hcc]
      refine endM [(0, 0)] 3 ?_
      sym =>
      simp [Zaa,Zab,Zac,Zad,Zae,Zaf,Zak,Zal,Zam,Zao,Zaz,Za0,Za1,Za2,Za3,Za4,Za5,Za9,Zba,Zbb,Zbc,Zbf,Zbt,Zbu,Zbv,Zbw,Zci,Zcn,Zcv,Zcx,Zc0,Zc3,Zc4,Zc6,Zc7,Zc8,Zc9,Zdm,Zrk,Zrl,Zrm,Zrn,Zro,Zrq,Zrr,Zrs,Zru,Zrv,Zrw,Zrx,Zry,Zrz,Zr0,Zr9,Zsd,Zse,Zsf,Zsg,Zsh,Zsj,Zsm,Zsn,Zso,Zsp,Zsr,Zsw,Zdo,Zdp,Zdt,Zdu,Zdv,Zdw,Zdx,Zdy,Zdz,Zd0,Zd1,Zd2,Zeb,Zeh,Zek,Zeq,Zet,Zev,Zew,Zez,Ze0,Ze1,Ze2,Ze3,Ze4,Ze5,Ze8,Zfc,Zfd,Zfe,Zff,Zfg,Zfh,Zfn,Zfq,Zf4,Zgr,Zgs,Zgt,Zgv,Zgw,Zgx,Zhf,Zhg,Zhh,Zhm,Zhn,Zho,Zhs,Zhv,Zhw,Zh6,Zh7,Zin,Zio,Zip,Ziq,Zir,Ziu,Ziv,Ziw,Zix,Zuk,Ziz,Zi0,Zi2,Zi3,Zi6,Zi7,Zjb,Zje,Zjg,Zjh,Zji,Zjj,Zjk,Zjl,Zjm,Zjn,Zj7,Zj8,Zj9,Zkl,Zlt,Zlx,Zl2,Zmt,Zmv,Zmw,Zmy,Zm0,Zm1,Zm2,Zm5,Zm6,Zm7,Zm9,Zna,Znb,Znc,Znd,Zne,Znf,Zng,Znh,Znl,Znm,Znn,Zno,Znp,Znr,Zns,Znu,Znw,Zn0,Zn5,Zos,Zot,Zo7,Zo8,Zo9,Zpa,Zpg,Zpy,Zp1,Zp2,Zp3,Zp8,Zqb,Zqc,Zq5,Zq6,Zqh,Zqi,Zqk,Zql,Zqm,Zqn,Zqo,List.length_append,eq_self,true_and,and_true,Nat.zero_add,Nat.mul_one,hcl]
      tactic =>
      rw [List.take_of_length_le (by rw [hcl]; exact Nat.le_refl _)]
      exact ⟨⟨rfl, Nat.le_refl _, hcI⟩, rs_self hdI⟩
  · have hg : room ≤ L.length := by omega
    have hp : putL room L d = L := by unfold putL; rw [if_neg h]
    refine ⟨IntKind.i64.wrap (lo + 1), ?_⟩
    rw [hp]
    refine con_n b63 rfl ?_
    sym =>
    simp [Zaa,Zab,Zac,Zad,Zae,Zaf,Zak,Zal,Zam,Zao,Zaz,Za0,Za1,Za2,Za3,Za4,Za5,Za9,Zba,Zbb,Zbc,Zbf,Zbt,Zbu,Zbv,Zbw,Zci,Zcn,Zcv,Zcx,Zc0,Zc3,Zc4,Zc6,Zc7,Zc8,Zc9,Zdm,Zrk,Zrl,Zrm,Zrn,Zro,Zrq,Zrr,Zrs,Zru,Zrv,Zrw,Zrx,Zry,Zrz,Zr0,Zr9,Zsd,Zse,Zsf,Zsg,Zsh,Zsj,Zsm,Zsn,Zso,Zsp,Zsr,Zsw,Zdo,Zdp,Zdt,Zdu,Zdv,Zdw,Zdx,Zdy,Zdz,Zd0,Zd1,Zd2,Zeb,Zeh,Zek,Zeq,Zet,Zev,Zew,Zez,Ze0,Ze1,Ze2,Ze3,Ze4,Ze5,Ze8,Zfc,Zfd,Zfe,Zff,Zfg,Zfh,Zfn,Zfq,Zf4,Zgr,Zgs,Zgt,Zgv,Zgw,Zgx,Zhf,Zhg,Zhh,Zhm,Zhn,Zho,Zhs,Zhv,Zhw,Zh6,Zh7,Zin,Zio,Zip,Ziq,Zir,Ziu,Ziv,Ziw,Zix,Zuk,Ziz,Zi0,Zi2,Zi3,Zi6,Zi7,Zjb,Zje,Zjg,Zjh,Zji,Zjj,Zjk,Zjl,Zjm,Zjn,Zj7,Zj8,Zj9,Zkl,Zlt,Zlx,Zl2,Zmt,Zmv,Zmw,Zmy,Zm0,Zm1,Zm2,Zm5,Zm6,Zm7,Zm9,Zna,Znb,Znc,Znd,Zne,Znf,Zng,Znh,Znl,Znm,Znn,Zno,Znp,Znr,Zns,Znu,Znw,Zn0,Zn5,Zos,Zot,Zo7,Zo8,Zo9,Zpa,Zpg,Zpy,Zp1,Zp2,Zp3,Zp8,Zqb,Zqc,Zq5,Zq6,Zqh,Zqi,Zqk,Zql,Zqm,Zqn,Zqo,List.length_append,eq_self,true_and,and_true,Nat.zero_add,Nat.mul_one,hg]
    tactic =>
    refine endM [(0, 0)] 2 ?_
    sym =>
    simp [Zaa,Zab,Zac,Zad,Zae,Zaf,Zak,Zal,Zam,Zao,Zaz,Za0,Za1,Za2,Za3,Za4,Za5,Za9,Zba,Zbb,Zbc,Zbf,Zbt,Zbu,Zbv,Zbw,Zci,Zcn,Zcv,Zcx,Zc0,Zc3,Zc4,Zc6,Zc7,Zc8,Zc9,Zdm,Zrk,Zrl,Zrm,Zrn,Zro,Zrq,Zrr,Zrs,Zru,Zrv,Zrw,Zrx,Zry,Zrz,Zr0,Zr9,Zsd,Zse,Zsf,Zsg,Zsh,Zsj,Zsm,Zsn,Zso,Zsp,Zsr,Zsw,Zdo,Zdp,Zdt,Zdu,Zdv,Zdw,Zdx,Zdy,Zdz,Zd0,Zd1,Zd2,Zeb,Zeh,Zek,Zeq,Zet,Zev,Zew,Zez,Ze0,Ze1,Ze2,Ze3,Ze4,Ze5,Ze8,Zfc,Zfd,Zfe,Zff,Zfg,Zfh,Zfn,Zfq,Zf4,Zgr,Zgs,Zgt,Zgv,Zgw,Zgx,Zhf,Zhg,Zhh,Zhm,Zhn,Zho,Zhs,Zhv,Zhw,Zh6,Zh7,Zin,Zio,Zip,Ziq,Zir,Ziu,Ziv,Ziw,Zix,Zuk,Ziz,Zi0,Zi2,Zi3,Zi6,Zi7,Zjb,Zje,Zjg,Zjh,Zji,Zjj,Zjk,Zjl,Zjm,Zjn,Zj7,Zj8,Zj9,Zkl,Zlt,Zlx,Zl2,Zmt,Zmv,Zmw,Zmy,Zm0,Zm1,Zm2,Zm5,Zm6,Zm7,Zm9,Zna,Znb,Znc,Znd,Zne,Znf,Zng,Znh,Znl,Znm,Znn,Zno,Znp,Znr,Zns,Znu,Znw,Zn0,Zn5,Zos,Zot,Zo7,Zo8,Zo9,Zpa,Zpg,Zpy,Zp1,Zp2,Zp3,Zp8,Zqb,Zqc,Zq5,Zq6,Zqh,Zqi,Zqk,Zql,Zqm,Zqn,Zqo,List.length_append,eq_self,true_and,and_true,Nat.zero_add,Nat.mul_one]
    tactic =>
    exact rs_self hdI
theorem first_con (room : Nat) (L : List (List Int)) (s lo : Int) (d : List Int) (hr : room ≤ 1000) (hL : L.length ≤ 1000) (hd : d.length ≤ 1000) : ∃ lo', Con Try.prog 64 [] [lkA (IN room) L s lo, fB d] [] (lkA (IN room) (fstL room L d) s lo') := by
  have hc := clone_con d (by omega)
  by_cases h : L.length < room
  · have hg : ¬ room ≤ L.length := by omega
    have hp : fstL room L d = d :: L := by unfold fstL; rw [if_pos h]
    have hrl := cR_length L
    have hra := cR_all L
    have hI := cR_okI L
    have hF := cR_okF L
    refine ⟨lo, ?_⟩
    rw [hp]
    refine con_j b64 rfl ?_
    sym =>
    simp [Zaa,Zab,Zac,Zad,Zae,Zaf,Zak,Zal,Zam,Zao,Zaz,Za0,Za1,Za2,Za3,Za4,Za5,Za9,Zba,Zbc,Zbf,Zbt,Zbu,Zbv,Zbw,Zcn,Zcv,Zcx,Zc0,Zc3,Zc4,Zc6,Zc7,Zc8,Zc9,Zdm,Zrk,Zrl,Zrm,Zrn,Zro,Zrq,Zrr,Zva,Zru,Zrx,Zry,Zrz,Zr5,Zsf,Zsh,Zsj,Zsm,Zsn,Zso,Zsr,Zsw,Zdo,Zdp,Zdt,Zdu,Zdv,Zdw,Zdx,Zdy,Zdz,Zd0,Zd1,Zeb,Zeh,Zek,Zeq,Zet,Zev,Zew,Zez,Ze0,Ze1,Ze2,Ze3,Ze4,Ze5,Ze8,Zfc,Zfd,Zfe,Zff,Zfg,Zfh,Zfn,Zfq,Zf4,Zgr,Zgs,Zgt,Zgv,Zgw,Zgx,Zhf,Zhg,Zhh,Zh6,Zh7,Zin,Zio,Zip,Ziq,Zir,Ziu,Ziv,Ziw,Zix,Ziz,Zi0,Zi1,Zi6,Zi7,Zjb,Zje,Zjg,Zjh,Zji,Zjn,Zj7,Zkl,Zll,Zl2,Zmt,Zmv,Zmw,Zmy,Zm0,Zm1,Zm2,Zm5,Zm6,Zm7,Zm9,Zna,Znb,Znc,Znd,Zne,Znf,Zng,Znh,Znn,Zno,Znp,Znr,Znu,Zos,Zot,Zo7,Zo8,Zo9,Zpa,Zpg,Zpy,Zp1,Zp2,Zp8,Zqb,Zqc,eq_self,true_and,and_true,Nat.zero_add,Nat.mul_one,hg,hrl,hra,callable_62]
    tactic =>
    refine clG [] none hc rfl ⟨trivial, trivial, rfl⟩ ?_
    sym =>
    simp [Zaa,Zab,Zac,Zad,Zae,Zaf,Zak,Zal,Zam,Zao,Zaz,Za0,Za1,Za2,Za3,Za4,Za5,Za9,Zba,Zbc,Zbf,Zbt,Zbu,Zbv,Zbw,Zcn,Zcv,Zcx,Zc0,Zc3,Zc4,Zc6,Zc7,Zc8,Zc9,Zdm,Zrk,Zrl,Zrm,Zrn,Zro,Zrq,Zrr,Zva,Zru,Zrx,Zry,Zrz,Zr5,Zsf,Zsh,Zsj,Zsm,Zsn,Zso,Zsr,Zsw,Zdo,Zdp,Zdt,Zdu,Zdv,Zdw,Zdx,Zdy,Zdz,Zd0,Zd1,Zeb,Zeh,Zek,Zeq,Zet,Zev,Zew,Zez,Ze0,Ze1,Ze2,Ze3,Ze4,Ze5,Ze8,Zfc,Zfd,Zfe,Zff,Zfg,Zfh,Zfn,Zfq,Zf4,Zgr,Zgs,Zgt,Zgv,Zgw,Zgx,Zhf,Zhg,Zhh,Zh6,Zh7,Zin,Zio,Zip,Ziq,Zir,Ziu,Ziv,Ziw,Zix,Ziz,Zi0,Zi1,Zi6,Zi7,Zjb,Zje,Zjg,Zjh,Zji,Zjn,Zj7,Zkl,Zll,Zl2,Zmt,Zmv,Zmw,Zmy,Zm0,Zm1,Zm2,Zm5,Zm6,Zm7,Zm9,Zna,Znb,Znc,Znd,Zne,Znf,Zng,Znh,Znn,Zno,Znp,Znr,Znu,Zos,Zot,Zo7,Zo8,Zo9,Zpa,Zpg,Zpy,Zp1,Zp2,Zp8,Zqb,Zqc,eq_self,true_and,and_true,Nat.zero_add,Nat.mul_one,hrl,hra]
    tactic =>
    refine ⟨⟨hF, by omega, by omega⟩, ?_⟩
    have hcc : AV.fz d.length (cB d) :: cR L = cR (d :: L) := rfl
    have hcl : (cR (d :: L)).length = L.length + 1 := by rw [cR_length]; rfl
    have hcI := cR_okI (d :: L)
    have h1L : 1 + L.length = L.length + 1 := Nat.add_comm _ _
    rw [hcc, h1L]
    refine endA ?_
    sym =>
    simp [Zaa,Zab,Zac,Zad,Zae,Zaf,Zak,Zal,Zam,Zao,Zaz,Za0,Za1,Za2,Za3,Za4,Za5,Za9,Zba,Zbc,Zbf,Zbt,Zbu,Zbv,Zbw,Zcn,Zcv,Zcx,Zc0,Zc3,Zc4,Zc6,Zc7,Zc8,Zc9,Zdm,Zrk,Zrl,Zrm,Zrn,Zro,Zrq,Zrr,Zva,Zru,Zrx,Zry,Zrz,Zr5,Zsf,Zsh,Zsj,Zsm,Zsn,Zso,Zsr,Zsw,Zdo,Zdp,Zdt,Zdu,Zdv,Zdw,Zdx,Zdy,Zdz,Zd0,Zd1,Zeb,Zeh,Zek,Zeq,Zet,Zev,Zew,Zez,Ze0,Ze1,Ze2,Ze3,Ze4,Ze5,Ze8,Zfc,Zfd,Zfe,Zff,Zfg,Zfh,Zfn,Zfq,Zf4,Zgr,Zgs,Zgt,Zgv,Zgw,Zgx,Zhf,Zhg,Zhh,Zh6,Zh7,Zin,Zio,Zip,Ziq,Zir,Ziu,Ziv,Ziw,Zix,Ziz,Zi0,Zi1,Zi6,Zi7,Zjb,Zje,Zjg,Zjh,Zji,Zjn,Zj7,Zkl,Zll,Zl2,Zmt,Zmv,Zmw,Zmy,Zm0,Zm1,Zm2,Zm5,Zm6,Zm7,Zm9,Zna,Znb,Znc,Znd,Zne,Znf,Zng,Znh,Znn,Zno,Znp,Znr,Znu,Zos,Zot,Zo7,Zo8,Zo9,Zpa,Zpg,Zpy,Zp1,Zp2,Zp8,Zqb,Zqc,eq_self,true_and,and_true,Nat.zero_add,Nat.mul_one,hcl]
    tactic =>
    rw [List.take_of_length_le (by rw [hcl]; exact Nat.le_refl _)]
    exact ⟨rfl, Nat.le_refl _, hcI⟩
  · have hg : room ≤ L.length := by omega
    have hp : fstL room L d = L := by unfold fstL; rw [if_neg h]
    refine ⟨IntKind.i64.wrap (lo + 1), ?_⟩
    rw [hp]
    refine con_j b64 rfl ?_
    sym =>
    simp [Zaa,Zab,Zac,Zad,Zae,Zaf,Zak,Zal,Zam,Zao,Zaz,Za0,Za1,Za2,Za3,Za4,Za5,Za9,Zba,Zbc,Zbf,Zbt,Zbu,Zbv,Zbw,Zcn,Zcv,Zcx,Zc0,Zc3,Zc4,Zc6,Zc7,Zc8,Zc9,Zdm,Zrk,Zrl,Zrm,Zrn,Zro,Zrq,Zrr,Zva,Zru,Zrx,Zry,Zrz,Zr5,Zsf,Zsh,Zsj,Zsm,Zsn,Zso,Zsr,Zsw,Zdo,Zdp,Zdt,Zdu,Zdv,Zdw,Zdx,Zdy,Zdz,Zd0,Zd1,Zeb,Zeh,Zek,Zeq,Zet,Zev,Zew,Zez,Ze0,Ze1,Ze2,Ze3,Ze4,Ze5,Ze8,Zfc,Zfd,Zfe,Zff,Zfg,Zfh,Zfn,Zfq,Zf4,Zgr,Zgs,Zgt,Zgv,Zgw,Zgx,Zhf,Zhg,Zhh,Zh6,Zh7,Zin,Zio,Zip,Ziq,Zir,Ziu,Ziv,Ziw,Zix,Ziz,Zi0,Zi1,Zi6,Zi7,Zjb,Zje,Zjg,Zjh,Zji,Zjn,Zj7,Zkl,Zll,Zl2,Zmt,Zmv,Zmw,Zmy,Zm0,Zm1,Zm2,Zm5,Zm6,Zm7,Zm9,Zna,Znb,Znc,Znd,Zne,Znf,Zng,Znh,Znn,Zno,Znp,Znr,Znu,Zos,Zot,Zo7,Zo8,Zo9,Zpa,Zpg,Zpy,Zp1,Zp2,Zp8,Zqb,Zqc,eq_self,true_and,and_true,Nat.zero_add,Nat.mul_one,hg]
    tactic =>
    refine endA ?_
    sym =>
    simp [Zaa,Zab,Zac,Zad,Zae,Zaf,Zak,Zal,Zam,Zao,Zaz,Za0,Za1,Za2,Za3,Za4,Za5,Za9,Zba,Zbc,Zbf,Zbt,Zbu,Zbv,Zbw,Zcn,Zcv,Zcx,Zc0,Zc3,Zc4,Zc6,Zc7,Zc8,Zc9,Zdm,Zrk,Zrl,Zrm,Zrn,Zro,Zrq,Zrr,Zva,Zru,Zrx,Zry,Zrz,Zr5,Zsf,Zsh,Zsj,Zsm,Zsn,Zso,Zsr,Zsw,Zdo,Zdp,Zdt,Zdu,Zdv,Zdw,Zdx,Zdy,Zdz,Zd0,Zd1,Zeb,Zeh,Zek,Zeq,Zet,Zev,Zew,Zez,Ze0,Ze1,Ze2,Ze3,Ze4,Ze5,Ze8,Zfc,Zfd,Zfe,Zff,Zfg,Zfh,Zfn,Zfq,Zf4,Zgr,Zgs,Zgt,Zgv,Zgw,Zgx,Zhf,Zhg,Zhh,Zh6,Zh7,Zin,Zio,Zip,Ziq,Zir,Ziu,Ziv,Ziw,Zix,Ziz,Zi0,Zi1,Zi6,Zi7,Zjb,Zje,Zjg,Zjh,Zji,Zjn,Zj7,Zkl,Zll,Zl2,Zmt,Zmv,Zmw,Zmy,Zm0,Zm1,Zm2,Zm5,Zm6,Zm7,Zm9,Zna,Znb,Znc,Znd,Zne,Znf,Zng,Znh,Znn,Zno,Znp,Znr,Znu,Zos,Zot,Zo7,Zo8,Zo9,Zpa,Zpg,Zpy,Zp1,Zp2,Zp8,Zqb,Zqc,eq_self,true_and,and_true,Nat.zero_add,Nat.mul_one]
theorem hfirst_con (room : Nat) (L : List (List Int)) (s lo : Int) (d : List Int) (hr : room ≤ 1000) (hL : L.length ≤ 1000) (hd : d.length ≤ 1000) : ∃ lo', Con Try.prog 64 [(0, ⟨cB d, 1, 0⟩)] [lkA (IN room) L s lo, .lv 0 0 d.length] [(0, ⟨cB d, 1, 0⟩)] (lkA (IN room) (fstL room L d) s lo') := by
  have hc := hclone_con d (by omega)
  have hdI := cB_okI d
  by_cases h : L.length < room
  · have hg : ¬ room ≤ L.length := by omega
    have hp : fstL room L d = d :: L := by unfold fstL; rw [if_pos h]
    have hrl := cR_length L
    have hra := cR_all L
    have hI := cR_okI L
    have hF := cR_okF L
    refine ⟨lo, ?_⟩
    rw [hp]
    refine con_n b64 rfl ?_
    sym =>
    simp [Zaa,Zab,Zac,Zad,Zae,Zaf,Zak,Zal,Zam,Zao,Zaz,Za0,Za1,Za2,Za3,Za4,Za5,Za9,Zba,Zbc,Zbf,Zbt,Zbu,Zbv,Zbw,Zcn,Zcv,Zcx,Zc0,Zc3,Zc4,Zc6,Zc7,Zc8,Zc9,Zdm,Zrk,Zrl,Zrm,Zrn,Zro,Zrq,Zrr,Zrs,Zru,Zrv,Zrw,Zrx,Zry,Zrz,Zr0,Zr9,Zsd,Zse,Zsf,Zsg,Zsh,Zsj,Zsm,Zsn,Zso,Zsp,Zsr,Zsw,Zdo,Zdp,Zdt,Zdu,Zdv,Zdw,Zdx,Zdy,Zdz,Zd0,Zd1,Zeb,Zeh,Zek,Zeq,Zet,Zev,Zew,Zez,Ze0,Ze1,Ze2,Ze3,Ze4,Ze5,Ze8,Zfc,Zfd,Zfe,Zff,Zfg,Zfh,Zfn,Zfq,Zf4,Zgr,Zgs,Zgt,Zgv,Zgw,Zgx,Zhf,Zhg,Zhh,Zh6,Zh7,Zin,Zio,Zip,Ziq,Zir,Ziu,Ziv,Ziw,Zix,Ziz,Zi0,Zi1,Zi6,Zi7,Zjb,Zje,Zjg,Zjh,Zji,Zjn,Zj7,Zkl,Zlt,Zlx,Zl2,Zmt,Zmv,Zmw,Zmy,Zm0,Zm1,Zm2,Zm5,Zm6,Zm7,Zm9,Zna,Znb,Znc,Znd,Zne,Znf,Zng,Znh,Znn,Zno,Znp,Znr,Znu,Zos,Zot,Zo7,Zo8,Zo9,Zpa,Zpg,Zpy,Zp1,Zp2,Zp3,Zp8,Zqb,Zqc,Zq5,Zq6,Zqh,Zqi,Zqk,Zql,Zqm,Zqn,Zqo,eq_self,true_and,and_true,Nat.zero_add,Nat.mul_one,hg,hrl,hra,callable_62]
    tactic =>
    refine ⟨hdI, ?_⟩
    refine clG [some ⟨cB d, 1, 0⟩] none hc rfl ⟨⟨hdI, trivial⟩, trivial, rfl⟩ ?_
    sym =>
    simp [Zaa,Zab,Zac,Zad,Zae,Zaf,Zak,Zal,Zam,Zao,Zaz,Za0,Za1,Za2,Za3,Za4,Za5,Za9,Zba,Zbc,Zbf,Zbt,Zbu,Zbv,Zbw,Zcn,Zcv,Zcx,Zc0,Zc3,Zc4,Zc6,Zc7,Zc8,Zc9,Zdm,Zrk,Zrl,Zrm,Zrn,Zro,Zrq,Zrr,Zrs,Zru,Zrv,Zrw,Zrx,Zry,Zrz,Zr0,Zr9,Zsd,Zse,Zsf,Zsg,Zsh,Zsj,Zsm,Zsn,Zso,Zsp,Zsr,Zsw,Zdo,Zdp,Zdt,Zdu,Zdv,Zdw,Zdx,Zdy,Zdz,Zd0,Zd1,Zeb,Zeh,Zek,Zeq,Zet,Zev,Zew,Zez,Ze0,Ze1,Ze2,Ze3,Ze4,Ze5,Ze8,Zfc,Zfd,Zfe,Zff,Zfg,Zfh,Zfn,Zfq,Zf4,Zgr,Zgs,Zgt,Zgv,Zgw,Zgx,Zhf,Zhg,Zhh,Zh6,Zh7,Zin,Zio,Zip,Ziq,Zir,Ziu,Ziv,Ziw,Zix,Ziz,Zi0,Zi1,Zi6,Zi7,Zjb,Zje,Zjg,Zjh,Zji,Zjn,Zj7,Zkl,Zlt,Zlx,Zl2,Zmt,Zmv,Zmw,Zmy,Zm0,Zm1,Zm2,Zm5,Zm6,Zm7,Zm9,Zna,Znb,Znc,Znd,Zne,Znf,Zng,Znh,Znn,Zno,Znp,Znr,Znu,Zos,Zot,Zo7,Zo8,Zo9,Zpa,Zpg,Zpy,Zp1,Zp2,Zp3,Zp8,Zqb,Zqc,Zq5,Zq6,Zqh,Zqi,Zqk,Zql,Zqm,Zqn,Zqo,eq_self,true_and,and_true,Nat.zero_add,Nat.mul_one,hrl,hra]
    tactic =>
    refine ⟨⟨hF, by omega, by omega⟩, ?_⟩
    have hcc : AV.fz d.length (cB d) :: cR L = cR (d :: L) := rfl
    have hcl : (cR (d :: L)).length = L.length + 1 := by rw [cR_length]; rfl
    have hcI := cR_okI (d :: L)
    have h1L : 1 + L.length = L.length + 1 := Nat.add_comm _ _
    rw [hcc, h1L]
    refine endM [(0, 0)] 3 ?_
    sym =>
    simp [Zaa,Zab,Zac,Zad,Zae,Zaf,Zak,Zal,Zam,Zao,Zaz,Za0,Za1,Za2,Za3,Za4,Za5,Za9,Zba,Zbc,Zbf,Zbt,Zbu,Zbv,Zbw,Zcn,Zcv,Zcx,Zc0,Zc3,Zc4,Zc6,Zc7,Zc8,Zc9,Zdm,Zrk,Zrl,Zrm,Zrn,Zro,Zrq,Zrr,Zrs,Zru,Zrv,Zrw,Zrx,Zry,Zrz,Zr0,Zr9,Zsd,Zse,Zsf,Zsg,Zsh,Zsj,Zsm,Zsn,Zso,Zsp,Zsr,Zsw,Zdo,Zdp,Zdt,Zdu,Zdv,Zdw,Zdx,Zdy,Zdz,Zd0,Zd1,Zeb,Zeh,Zek,Zeq,Zet,Zev,Zew,Zez,Ze0,Ze1,Ze2,Ze3,Ze4,Ze5,Ze8,Zfc,Zfd,Zfe,Zff,Zfg,Zfh,Zfn,Zfq,Zf4,Zgr,Zgs,Zgt,Zgv,Zgw,Zgx,Zhf,Zhg,Zhh,Zh6,Zh7,Zin,Zio,Zip,Ziq,Zir,Ziu,Ziv,Ziw,Zix,Ziz,Zi0,Zi1,Zi6,Zi7,Zjb,Zje,Zjg,Zjh,Zji,Zjn,Zj7,Zkl,Zlt,Zlx,Zl2,Zmt,Zmv,Zmw,Zmy,Zm0,Zm1,Zm2,Zm5,Zm6,Zm7,Zm9,Zna,Znb,Znc,Znd,Zne,Znf,Zng,Znh,Znn,Zno,Znp,Znr,Znu,Zos,Zot,Zo7,Zo8,Zo9,Zpa,Zpg,Zpy,Zp1,Zp2,Zp3,Zp8,Zqb,Zqc,Zq5,Zq6,Zqh,Zqi,Zqk,Zql,Zqm,Zqn,Zqo,eq_self,true_and,and_true,Nat.zero_add,Nat.mul_one,hcl]
    tactic =>
    rw [List.take_of_length_le (by rw [hcl]; exact Nat.le_refl _)]
    exact ⟨⟨rfl, Nat.le_refl _, hcI⟩, rs_self hdI⟩
  · have hg : room ≤ L.length := by omega
    have hp : fstL room L d = L := by unfold fstL; rw [if_neg h]
    refine ⟨IntKind.i64.wrap (lo + 1), ?_⟩
    rw [hp]
    refine con_n b64 rfl ?_
    sym =>
    simp [Zaa,Zab,Zac,Zad,Zae,Zaf,Zak,Zal,Zam,Zao,Zaz,Za0,Za1,Za2,Za3,Za4,Za5,Za9,Zba,Zbc,Zbf,Zbt,Zbu,Zbv,Zbw,Zcn,Zcv,Zcx,Zc0,Zc3,Zc4,Zc6,Zc7,Zc8,Zc9,Zdm,Zrk,Zrl,Zrm,Zrn,Zro,Zrq,Zrr,Zrs,Zru,Zrv,Zrw,Zrx,Zry,Zrz,Zr0,Zr9,Zsd,Zse,Zsf,Zsg,Zsh,Zsj,Zsm,Zsn,Zso,Zsp,Zsr,Zsw,Zdo,Zdp,Zdt,Zdu,Zdv,Zdw,Zdx,Zdy,Zdz,Zd0,Zd1,Zeb,Zeh,Zek,Zeq,Zet,Zev,Zew,Zez,Ze0,Ze1,Ze2,Ze3,Ze4,Ze5,Ze8,Zfc,Zfd,Zfe,Zff,Zfg,Zfh,Zfn,Zfq,Zf4,Zgr,Zgs,Zgt,Zgv,Zgw,Zgx,Zhf,Zhg,Zhh,Zh6,Zh7,Zin,Zio,Zip,Ziq,Zir,Ziu,Ziv,Ziw,Zix,Ziz,Zi0,Zi1,Zi6,Zi7,Zjb,Zje,Zjg,Zjh,Zji,Zjn,Zj7,Zkl,Zlt,Zlx,Zl2,Zmt,Zmv,Zmw,Zmy,Zm0,Zm1,Zm2,Zm5,Zm6,Zm7,Zm9,Zna,Znb,Znc,Znd,Zne,Znf,Zng,Znh,Znn,Zno,Znp,Znr,Znu,Zos,Zot,Zo7,Zo8,Zo9,Zpa,Zpg,Zpy,Zp1,Zp2,Zp3,Zp8,Zqb,Zqc,Zq5,Zq6,Zqh,Zqi,Zqk,Zql,Zqm,Zqn,Zqo,eq_self,true_and,and_true,Nat.zero_add,Nat.mul_one,hg]
    tactic =>
    refine endM [(0, 0)] 2 ?_
    sym =>
    simp [Zaa,Zab,Zac,Zad,Zae,Zaf,Zak,Zal,Zam,Zao,Zaz,Za0,Za1,Za2,Za3,Za4,Za5,Za9,Zba,Zbc,Zbf,Zbt,Zbu,Zbv,Zbw,Zcn,Zcv,Zcx,Zc0,Zc3,Zc4,Zc6,Zc7,Zc8,Zc9,Zdm,Zrk,Zrl,Zrm,Zrn,Zro,Zrq,Zrr,Zrs,Zru,Zrv,Zrw,Zrx,Zry,Zrz,Zr0,Zr9,Zsd,Zse,Zsf,Zsg,Zsh,Zsj,Zsm,Zsn,Zso,Zsp,Zsr,Zsw,Zdo,Zdp,Zdt,Zdu,Zdv,Zdw,Zdx,Zdy,Zdz,Zd0,Zd1,Zeb,Zeh,Zek,Zeq,Zet,Zev,Zew,Zez,Ze0,Ze1,Ze2,Ze3,Ze4,Ze5,Ze8,Zfc,Zfd,Zfe,Zff,Zfg,Zfh,Zfn,Zfq,Zf4,Zgr,Zgs,Zgt,Zgv,Zgw,Zgx,Zhf,Zhg,Zhh,Zh6,Zh7,Zin,Zio,Zip,Ziq,Zir,Ziu,Ziv,Ziw,Zix,Ziz,Zi0,Zi1,Zi6,Zi7,Zjb,Zje,Zjg,Zjh,Zji,Zjn,Zj7,Zkl,Zlt,Zlx,Zl2,Zmt,Zmv,Zmw,Zmy,Zm0,Zm1,Zm2,Zm5,Zm6,Zm7,Zm9,Zna,Znb,Znc,Znd,Zne,Znf,Zng,Znh,Znn,Zno,Znp,Znr,Znu,Zos,Zot,Zo7,Zo8,Zo9,Zpa,Zpg,Zpy,Zp1,Zp2,Zp3,Zp8,Zqb,Zqc,Zq5,Zq6,Zqh,Zqi,Zqk,Zql,Zqm,Zqn,Zqo,eq_self,true_and,and_true,Nat.zero_add,Nat.mul_one]
    tactic =>
    exact rs_self hdI
end Go.Proofs.Ytnfgnafphfddhaa.LkA
