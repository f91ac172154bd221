import Derived.Test.YtbmdahhhgpbchaaSwB
namespace Go.Proofs.Ytbmdahhhgpbchaa.SwC
open Go Go.Sim Go.Sim.E Go.RowKit Go.Proofs Go.Proofs.Ytbmdahhhgpbchaa.Cod Go.Proofs.Ytbmdahhhgpbchaa.Tab Go.Proofs.Ytbmdahhhgpbchaa.Bse Go.Proofs.Ytbmdahhhgpbchaa.SpnP Go.Proofs.Ytbmdahhhgpbchaa.SwA Go.Proofs.Ytbmdahhhgpbchaa.SwB
set_option linter.unusedVariables false
set_option linter.unusedSimpArgs false
set_option maxRecDepth 100000
set_option maxHeartbeats 4000000
abbrev wC (t : Int) (s o : List Rg) : List AV := [I t, fR s, fR o]
abbrev wV (t : Int) (s o : List Rg) : AV := .ag (wC t s o)
theorem base_con (t : Int) (s o : List Rg) (hs : s.length < 1000000) : Con Try.prog 73 [] [wV t s o] [] (I (endF (lim 0) s)) := by
  refine con_j b73 rfl ?_
  sym =>
  simp [Zab,Zad,Zam,Zaz,Za0,Za1,Za2,Za3,Za4,Za5,Za9,Zba,Zbb,Zbt,Zbv,Zcx,Zdc,Zdd,Zde,Zev,Zew,Zez,Ze0,Ze2,Ze3,Ze5,Ze8,Zfc,Zfd,Zfe,Zfh,Zgr,Zgs,Zgt,Zgv,Zgw,Zgx,Zio,Zip,Zi6,Zla,Zlb,Zlc,Zld,Zle,Zlf,Zlh,Zlj,Zlm,Zm5,Zm7,Zm9,Zna,Znb,Zne,Znf,Zng,Zos,Zot,Zo7,eq_self,true_and,and_true,callable_112]
  tactic =>
  refine cl none (end_con s hs 0) trivial ?_
  sym =>
  simp [Zak,Zam,Zaz,Za0,Za1,Za2,Za3,Za4,Za5,Za9,Zba,Zbb,Zdi,Zev,Zez,Ze0,Ze2,Zfd,Zfe,Zfh,Zjr,Zlz,Zmt,Zmv,Zmw,Zmx,Zmz,Zm2,Zo7,eq_self,true_and]
  tactic =>
  refine endA ?_
  sym =>
  simp [Zpc,eq_self]
theorem left_con (t : Int) (s o : List Rg) (hs : s.length < 1000000) : Con Try.prog 110 [] [wV t s o] [] (I (IntKind.i64.wrap (t - sumR s))) := by
  refine con_j b110 rfl ?_
  sym =>
  simp [Zab,Zac,Zad,Zam,Zaz,Za0,Za1,Za2,Za3,Za4,Za5,Za9,Zba,Zbb,Zbu,Zbw,Zcx,Zc7,Zc8,Zdf,Zdg,Zdh,Zdp,Zdt,Zdu,Zdv,Zdw,Zdx,Zdy,Zdz,Zd0,Zd1,Zec,Zek,Zen,Zeq,Zer,Zes,Zet,Zev,Zew,Zez,Ze0,Ze2,Ze3,Ze5,Ze8,Zfc,Zfd,Zfe,Zfh,Zgr,Zgs,Zgt,Zgv,Zgw,Zgx,Zio,Zip,Zi6,Zla,Zlb,Zlc,Zld,Zle,Zlf,Zlh,Zlm,Zm5,Zm6,Zm7,Zm9,Zna,Znb,Zne,Znf,Zng,Zos,Zot,Zo7,eq_self,true_and,and_true,callable_65]
  tactic =>
  refine cl none (size_con s hs) trivial ?_
  sym =>
  simp [Zak,Zam,Zaz,Za0,Za1,Za2,Za3,Zbc,Zbg,Zc7,Zc8,Zdj,Zdk,Zdo,Zdp,Zdt,Zdu,Zdv,Zdw,Zdx,Zdy,Zdz,Zd0,Zd1,Zd2,Zev,Zez,Ze0,Ze2,Zfd,Zfe,Zfh,Zfn,Zfr,Zjr,Zlz,Zmt,Zmv,Zmw,Zmx,Zmz,Zm2,Zne,Zo7,eq_self,true_and,and_true]
  tactic =>
  refine endA ?_
  sym =>
  simp [Zpc,eq_self]
theorem lose_con (t : Int) (s o : List Rg) : Con Try.prog 75 [] [wV t s o] [] (wV t s []) := by
  refine con_j b75 rfl ?_
  sym =>
  simp [Zab,Zad,Zak,Zam,Zaz,Za0,Za1,Za2,Za3,Za4,Za5,Za9,Zba,Zbt,Zbv,Zb9,Zcv,Zcx,Zc3,Zev,Zez,Ze0,Ze1,Ze2,Ze3,Ze5,Ze8,Zfc,Zfd,Zfe,Zgr,Zgs,Zgt,Zgv,Zgw,Zgx,Zhd,Zhe,Zhf,Zin,Zio,Zip,Ziu,Ziv,Ziw,Zi6,Zjh,Zji,Zjn,Zj2,Zj7,Zmt,Zmv,Zmw,Zmy,Zm0,Zm1,Zm2,Zm5,Zm7,Zm9,Zna,Znb,Znn,Zno,Znp,Zos,Zot,Zo7,eq_self,true_and,and_true]
  tactic =>
  refine endA ?_
  sym =>
  simp [Zpa,Zpg,Zpv,Zp8,Zqb,Zqc,eq_self,true_and,and_true]
  tactic =>
  rfl
theorem segs_con (t : Int) (s o : List Rg) : Con Try.prog 108 [] [wV t s o] [] (.fn 133 [.fp (wC t s o) 0]) := by
  refine con_j b108 rfl ?_
  sym =>
  simp [Zab,Zad,Zak,Zam,Zaz,Za0,Za1,Za2,Za3,Za4,Za5,Za9,Zba,Zbb,Zcb,Zcx,Zev,Zew,Zez,Ze0,Ze2,Ze3,Zfd,Zfe,Zfh,Zhi,Zio,Zip,Zi6,Zmt,Zmv,Zmw,Zmx,Zmz,Zm2,Zna,Znb,Znf,Zng,Zos,Zot,Zo7,eq_self,true_and]
  tactic =>
  refine endA ?_
  sym =>
  simp [Zfc,Zjl,Zjm,Zjp,Zj9,Zna,Znb,Zp2,Zvi,Zvl,Zqa,Zqb,Zqc,eq_self,and_true]
def plF (t n : Int) : Bool := decide (0 ≤ n) && (decide (n ≤ t) && (decide (Int.tmod n (256 : Int) = 0) || decide (n = t)))
theorem place_con (t n : Int) (s o : List Rg) : Con Try.prog 105 [] [wV t s o, I n] [] (Bo (plF t n)) := by
  unfold plF
  refine con_j b105 rfl ?_
  by_cases h1 : 0 ≤ n
  · by_cases h2 : n ≤ t
    · by_cases h3 : Int.tmod n (256 : Int) = 0
      · sym =>
        simp [Zab,Zad,Zak,Zam,Zaz,Za0,Za1,Za2,Za3,Za4,Za5,Za6,Za7,Za8,Za9,Zba,Zbb,Zbd,Zbf,Zbt,Zbv,Zcx,Zev,Zew,Zex,Zez,Ze0,Ze2,Ze3,Ze5,Ze8,Zfc,Zfd,Zfe,Zfh,Zfi,Zfj,Zfl,Zfn,Zfu,Zfz,Zf2,Zf4,Zgr,Zgs,Zgt,Zgv,Zgw,Zgx,Zio,Zip,Zi6,Zmt,Zmv,Zmw,Zmx,Zmz,Zm2,Zm6,Zm9,Zna,Znb,Zos,Zot,Zo6,Zo7,Zo8,eq_self,true_and,Bool.and_true,Bool.true_or,h1,h2,h3]
        tactic =>
        refine endA ?_
        sym =>
        simp [Zpc,eq_self,h1,h2,h3]
      · by_cases h4 : n = t
        · subst h4
          have h5 : n ≤ n := Int.le_refl n
          sym =>
          simp [Zab,Zad,Zak,Zam,Zaz,Za0,Za1,Za2,Za3,Za4,Za5,Za6,Za7,Za9,Zba,Zbb,Zbd,Zbf,Zbt,Zbv,Zcx,Zev,Zew,Zex,Zez,Ze0,Ze2,Ze3,Ze5,Ze8,Zfc,Zfd,Zfe,Zfh,Zfi,Zfl,Zfn,Zfu,Zfz,Zf2,Zf4,Zgr,Zgs,Zgt,Zgv,Zgw,Zgx,Zio,Zip,Zi6,Zmt,Zmv,Zmw,Zmx,Zmz,Zm2,Zm6,Zm9,Zna,Znb,Zos,Zot,Zo7,Zo8,Zo9,eq_self,true_and,Bool.and_true,Bool.or_true,h1,h3,h5]
          tactic =>
          refine endA ?_
          sym =>
          simp [Zpc,eq_self,h1,h3,h5]
        · sym =>
          simp [Zab,Zad,Zak,Zam,Zaz,Za0,Za1,Za2,Za3,Za4,Za5,Za6,Za7,Za9,Zba,Zbb,Zbd,Zbf,Zbt,Zbv,Zcx,Zev,Zew,Zex,Zez,Ze0,Ze2,Ze3,Ze5,Ze8,Zfc,Zfd,Zfe,Zfh,Zfi,Zfl,Zfn,Zfu,Zfz,Zf2,Zf4,Zgr,Zgs,Zgt,Zgv,Zgw,Zgx,Zio,Zip,Zi6,Zmt,Zmv,Zmw,Zmx,Zmz,Zm2,Zm6,Zm9,Zna,Znb,Zos,Zot,Zo7,Zo8,Zo9,eq_self,true_and,Bool.and_false,Bool.or_false,h1,h2,h3,h4]
          tactic =>
          refine endA ?_
          sym =>
          simp [Zpc,eq_self,h1,h2,h3,h4]
    · sym =>
      simp [Zab,Zad,Zak,Zam,Zaz,Za0,Za1,Za2,Za3,Za4,Za5,Za6,Za7,Zrh,Za8,Za9,Zba,Zbb,Zbd,Zbf,Zbt,Zbv,Zcx,Zev,Zew,Zex,Zez,Ze0,Ze2,Ze3,Ze5,Ze8,Zfc,Zfd,Zfe,Zfh,Zfi,Zfk,Zfl,Zfn,Zf2,Zf4,Zgr,Zgs,Zgt,Zgv,Zgw,Zgx,Zio,Zip,Zi6,Zmt,Zmv,Zmw,Zmx,Zmz,Zm2,Zm6,Zm9,Zna,Znb,Zos,Zot,Zo7,Zo8,Zo9,eq_self,true_and,Bool.and_false,Bool.false_and,h1,h2]
      tactic =>
      refine endA ?_
      sym =>
      simp [Zpc,eq_self,h1,h2]
  · sym =>
    simp [Zab,Zad,Zak,Zam,Zaz,Za0,Za1,Za2,Za3,Za4,Za5,Za6,Za7,Zrh,Za8,Za9,Zba,Zbb,Zbd,Zbf,Zcx,Zev,Zew,Zex,Zez,Ze0,Ze2,Ze3,Zfd,Zfe,Zfh,Zfi,Zfk,Zfn,Zf4,Zio,Zip,Zi6,Zmt,Zmv,Zmw,Zmx,Zmz,Zm2,Zna,Znb,Zos,Zot,Zo7,Zo9,eq_self,true_and,Bool.false_and,h1]
    tactic =>
    refine endA ?_
    sym =>
    simp [Zpc,eq_self,h1]
end Go.Proofs.Ytbmdahhhgpbchaa.SwC
