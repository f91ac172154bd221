import Derived.Test.YtbmdahhhgpbchaaSnF
namespace Go.Proofs.Ytbmdahhhgpbchaa.SnG
open Go Go.Sim Go.Sim.E Go.RowKit Go.Proofs Go.Proofs.Ytbmdahhhgpbchaa.Cod Go.Proofs.Ytbmdahhhgpbchaa.Tab Go.Proofs.Ytbmdahhhgpbchaa.Bse Go.Proofs.Ytbmdahhhgpbchaa.SpnP Go.Proofs.Ytbmdahhhgpbchaa.SwA Go.Proofs.Ytbmdahhhgpbchaa.SwB Go.Proofs.Ytbmdahhhgpbchaa.SwC Go.Proofs.Ytbmdahhhgpbchaa.SwS Go.Proofs.Ytbmdahhhgpbchaa.SwD Go.Proofs.Ytbmdahhhgpbchaa.SwF Go.Proofs.Ytbmdahhhgpbchaa.SwG Go.Proofs.Ytbmdahhhgpbchaa.SwL Go.Proofs.Ytbmdahhhgpbchaa.ObA Go.Proofs.Ytbmdahhhgpbchaa.ObB Go.Proofs.Ytbmdahhhgpbchaa.ObC Go.Proofs.Ytbmdahhhgpbchaa.SnA Go.Proofs.Ytbmdahhhgpbchaa.SnB Go.Proofs.Ytbmdahhhgpbchaa.SnC Go.Proofs.Ytbmdahhhgpbchaa.SnD Go.Proofs.Ytbmdahhhgpbchaa.SnE Go.Proofs.Ytbmdahhhgpbchaa.SnF
set_option linter.unusedVariables false
set_option linter.unusedSimpArgs false
set_option maxRecDepth 100000
set_option maxHeartbeats 4000000
theorem sack_con (x : Sn) (h : Inv x) (f : Fm) (hfr : f.r.length ≤ 1000) : Con Try.prog 89 [] [.ag (sn x), .ag (fr f)] [] (.tu [.ag (sn (skF x f).1), fF (skF x f).2]) := by
  have hs := h.src
  have hb := h.bd
  obtain ⟨R, hR⟩ : ∃ R, R = skF x f := ⟨_, rfl⟩
  rw [← hR]
  unfold skF at hR
  by_cases c1 : ¬ (x.st = 2)
  · rw [if_pos c1] at hR
    subst hR
    obtain ⟨st, cd, src, su, tk, es, er, os, t, s, o, ⟨a, b, c⟩, ⟨a2, b2, c2⟩⟩ := x
    obtain ⟨fk, ft, fes, fer, fo, fn, fsu, fd, frs, fcc⟩ := f
    simp only [sn, fr] at c1 ⊢
    refine con_j b89 rfl ?_
    sym =>
    simp [Zaa,Zab,Zac,Zad,Zae,Zaf,Zak,Zal,Zam,Zao,Zaz,Za0,Za1,Za2,Za3,Za4,Za5,Za6,Za7,Za8,Za9,Zba,Zbb,Zbc,Zbd,Zbf,Zbh,Zbj,Zbm,Zbt,Zbu,Zbv,Zbw,Zb7,Zb8,Zcv,Zcw,Zcx,Zc3,Zc4,Zc7,Zc8,Zc9,Zdc,Zdd,Zde,Zdf,Zdg,Zdh,Zdi,Zdj,Zdk,Zdm,Zdo,Zdp,Zdt,Zdu,Zdv,Zdw,Zdx,Zdy,Zdz,Zd0,Zd1,Zd2,Zd3,Zeb,Zec,Zek,Zen,Zep,Zeq,Zer,Zes,Zet,Zev,Zew,Zex,Zez,Ze0,Ze1,Ze2,Ze3,Ze5,Ze8,Zfc,Zfd,Zfe,Zfh,Zfi,Zfj,Zfl,Zfn,Zf0,Zf3,Zga,Zgc,Zgd,Zgg,Zgh,Zgi,Zgr,Zgs,Zgt,Zgv,Zgw,Zgx,Zhb,Zhc,Zin,Zio,Zip,Ziu,Ziv,Ziw,Zi6,Zjh,Zji,Zjn,Zjs,Zj7,Zka,Zkb,Zkx,Zky,Zk0,Zk1,Zla,Zlb,Zlc,Zld,Zle,Zlf,Zlh,Zlj,Zlk,Zll,Zlm,Zlz,Zl2,Zmt,Zmv,Zmw,Zmx,Zmy,Zmz,Zm0,Zm1,Zm3,Zm5,Zm6,Zm7,Zm9,Zna,Znb,Zne,Znf,Zng,Znn,Zno,Znp,Zof,Zog,Zok,Zol,Zom,Zor,Zos,Zot,Zo3,Zo4,Zo6,Zo7,Zo8,Zo9,Zpg,Zph,Zpw,Zp7,Zp9,Zqd,Zqe,List.length_map,eq_self,true_and,and_true,fc_17,fc_18,fc_19,fc_54,fc_len,zS_sc,sc_0,sc_51,sc_52,sc_53,sc_54,sc_55,sc_56,sc_57,sc_58,sc_59,rd_0,ss_53,ss_54,ss_55,ss_56,ss_57,ss_58,ss_59,sp_0,sc_len,sc_ok,sc_rs,fz_sc,scF1,flL_sc,c1]
    tactic =>
    refine endA ?_
    sym =>
    simp [Zaa,Zab,Zac,Zad,Zae,Zaf,Zak,Zal,Zam,Zao,Zaz,Za0,Za1,Za2,Za3,Za4,Za5,Za6,Za7,Za8,Za9,Zba,Zbb,Zbc,Zbd,Zbf,Zbh,Zbj,Zbm,Zbt,Zbu,Zbv,Zbw,Zb7,Zb8,Zcv,Zcw,Zcx,Zc3,Zc4,Zc7,Zc8,Zc9,Zdc,Zdd,Zde,Zdf,Zdg,Zdh,Zdi,Zdj,Zdk,Zdm,Zdo,Zdp,Zdt,Zdu,Zdv,Zdw,Zdx,Zdy,Zdz,Zd0,Zd1,Zd2,Zd3,Zeb,Zec,Zek,Zen,Zep,Zeq,Zer,Zes,Zet,Zev,Zew,Zex,Zez,Ze0,Ze1,Ze2,Ze3,Ze5,Ze8,Zfc,Zfd,Zfe,Zfh,Zfi,Zfj,Zfl,Zfn,Zf0,Zf3,Zga,Zgc,Zgd,Zgg,Zgh,Zgi,Zgr,Zgs,Zgt,Zgv,Zgw,Zgx,Zhb,Zhc,Zin,Zio,Zip,Ziu,Ziv,Ziw,Zi6,Zjh,Zji,Zjn,Zjs,Zj7,Zka,Zkb,Zkx,Zky,Zk0,Zk1,Zla,Zlb,Zlc,Zld,Zle,Zlf,Zlh,Zlj,Zlk,Zll,Zlm,Zlz,Zl2,Zmt,Zmv,Zmw,Zmx,Zmy,Zmz,Zm0,Zm1,Zm3,Zm5,Zm6,Zm7,Zm9,Zna,Znb,Zne,Znf,Zng,Znn,Zno,Znp,Zof,Zog,Zok,Zol,Zom,Zor,Zos,Zot,Zo3,Zo4,Zo6,Zo7,Zo8,Zo9,Zpg,Zph,Zpw,Zp7,Zp9,Zqd,Zqe,List.length_map,eq_self,true_and,and_true,fc_17,fc_18,fc_19,fc_54,fc_len,zS_sc,sc_0,sc_51,sc_52,sc_53,sc_54,sc_55,sc_56,sc_57,sc_58,sc_59,rd_0,ss_53,ss_54,ss_55,ss_56,ss_57,ss_58,ss_59,sp_0,sc_len,sc_ok,sc_rs,fz_sc,scF1,flL_sc]
    tactic =>
    all_goals rfl
  replace c1 := Classical.not_not.1 c1
  rw [if_neg (fun hn => hn c1)] at hR
  by_cases c2 : ¬ (f.es = x.es)
  · rw [if_pos c2] at hR
    subst hR
    obtain ⟨st, cd, src, su, tk, es, er, os, t, s, o, ⟨a, b, c⟩, ⟨a2, b2, c2⟩⟩ := x
    obtain ⟨fk, ft, fes, fer, fo, fn, fsu, fd, frs, fcc⟩ := f
    simp only [sn, fr] at c1 c2 ⊢
    subst c1
    refine con_j b89 rfl ?_
    sym =>
    simp [Zaa,Zab,Zac,Zad,Zae,Zaf,Zak,Zal,Zam,Zao,Zaz,Za0,Za1,Za2,Za3,Za4,Za5,Za6,Za7,Za8,Za9,Zba,Zbb,Zbc,Zbd,Zbf,Zbh,Zbj,Zbm,Zbt,Zbu,Zbv,Zbw,Zb7,Zb8,Zcv,Zcw,Zcx,Zc3,Zc4,Zc7,Zc8,Zc9,Zdc,Zdd,Zde,Zdf,Zdg,Zdh,Zdi,Zdj,Zdk,Zdm,Zdo,Zdp,Zdt,Zdu,Zdv,Zdw,Zdx,Zdy,Zdz,Zd0,Zd1,Zd2,Zd3,Zeb,Zec,Zek,Zen,Zep,Zeq,Zer,Zes,Zet,Zev,Zew,Zex,Zez,Ze0,Ze1,Ze2,Ze3,Ze5,Ze8,Zfc,Zfd,Zfe,Zfh,Zfi,Zfj,Zfl,Zfn,Zf0,Zf3,Zga,Zgc,Zgd,Zgg,Zgh,Zgi,Zgr,Zgs,Zgt,Zgv,Zgw,Zgx,Zhb,Zhc,Zin,Zio,Zip,Ziu,Ziv,Ziw,Zi6,Zjh,Zji,Zjn,Zjs,Zj7,Zka,Zkb,Zkx,Zky,Zk0,Zk1,Zla,Zlb,Zlc,Zld,Zle,Zlf,Zlh,Zlj,Zlk,Zll,Zlm,Zlz,Zl2,Zmt,Zmv,Zmw,Zmx,Zmy,Zmz,Zm0,Zm1,Zm3,Zm5,Zm6,Zm7,Zm9,Zna,Znb,Zne,Znf,Zng,Znn,Zno,Znp,Zof,Zog,Zok,Zol,Zom,Zor,Zos,Zot,Zo3,Zo4,Zo6,Zo7,Zo8,Zo9,Zpg,Zph,Zpw,Zp7,Zp9,Zqd,Zqe,List.length_map,eq_self,true_and,and_true,fc_17,fc_18,fc_19,fc_54,fc_len,zS_sc,sc_0,sc_51,sc_52,sc_53,sc_54,sc_55,sc_56,sc_57,sc_58,sc_59,rd_0,ss_53,ss_54,ss_55,ss_56,ss_57,ss_58,ss_59,sp_0,sc_len,sc_ok,sc_rs,fz_sc,scF1,flL_sc,c2]
    tactic =>
    refine endA ?_
    sym =>
    simp [Zaa,Zab,Zac,Zad,Zae,Zaf,Zak,Zal,Zam,Zao,Zaz,Za0,Za1,Za2,Za3,Za4,Za5,Za6,Za7,Za8,Za9,Zba,Zbb,Zbc,Zbd,Zbf,Zbh,Zbj,Zbm,Zbt,Zbu,Zbv,Zbw,Zb7,Zb8,Zcv,Zcw,Zcx,Zc3,Zc4,Zc7,Zc8,Zc9,Zdc,Zdd,Zde,Zdf,Zdg,Zdh,Zdi,Zdj,Zdk,Zdm,Zdo,Zdp,Zdt,Zdu,Zdv,Zdw,Zdx,Zdy,Zdz,Zd0,Zd1,Zd2,Zd3,Zeb,Zec,Zek,Zen,Zep,Zeq,Zer,Zes,Zet,Zev,Zew,Zex,Zez,Ze0,Ze1,Ze2,Ze3,Ze5,Ze8,Zfc,Zfd,Zfe,Zfh,Zfi,Zfj,Zfl,Zfn,Zf0,Zf3,Zga,Zgc,Zgd,Zgg,Zgh,Zgi,Zgr,Zgs,Zgt,Zgv,Zgw,Zgx,Zhb,Zhc,Zin,Zio,Zip,Ziu,Ziv,Ziw,Zi6,Zjh,Zji,Zjn,Zjs,Zj7,Zka,Zkb,Zkx,Zky,Zk0,Zk1,Zla,Zlb,Zlc,Zld,Zle,Zlf,Zlh,Zlj,Zlk,Zll,Zlm,Zlz,Zl2,Zmt,Zmv,Zmw,Zmx,Zmy,Zmz,Zm0,Zm1,Zm3,Zm5,Zm6,Zm7,Zm9,Zna,Znb,Zne,Znf,Zng,Znn,Zno,Znp,Zof,Zog,Zok,Zol,Zom,Zor,Zos,Zot,Zo3,Zo4,Zo6,Zo7,Zo8,Zo9,Zpg,Zph,Zpw,Zp7,Zp9,Zqd,Zqe,List.length_map,eq_self,true_and,and_true,fc_17,fc_18,fc_19,fc_54,fc_len,zS_sc,sc_0,sc_51,sc_52,sc_53,sc_54,sc_55,sc_56,sc_57,sc_58,sc_59,rd_0,ss_53,ss_54,ss_55,ss_56,ss_57,ss_58,ss_59,sp_0,sc_len,sc_ok,sc_rs,fz_sc,scF1,flL_sc]
    tactic =>
    all_goals rfl
  replace c2 := Classical.not_not.1 c2
  rw [if_neg (fun hn => hn c2)] at hR
  by_cases c3 : ¬ (f.er = x.er)
  · rw [if_pos c3] at hR
    subst hR
    obtain ⟨st, cd, src, su, tk, es, er, os, t, s, o, ⟨a, b, c⟩, ⟨a2, b2, c2⟩⟩ := x
    obtain ⟨fk, ft, fes, fer, fo, fn, fsu, fd, frs, fcc⟩ := f
    simp only [sn, fr] at c1 c2 c3 ⊢
    subst c1; subst c2
    refine con_j b89 rfl ?_
    sym =>
    simp [Zaa,Zab,Zac,Zad,Zae,Zaf,Zak,Zal,Zam,Zao,Zaz,Za0,Za1,Za2,Za3,Za4,Za5,Za6,Za7,Za8,Za9,Zba,Zbb,Zbc,Zbd,Zbf,Zbh,Zbj,Zbm,Zbt,Zbu,Zbv,Zbw,Zb7,Zb8,Zcv,Zcw,Zcx,Zc3,Zc4,Zc7,Zc8,Zc9,Zdc,Zdd,Zde,Zdf,Zdg,Zdh,Zdi,Zdj,Zdk,Zdm,Zdo,Zdp,Zdt,Zdu,Zdv,Zdw,Zdx,Zdy,Zdz,Zd0,Zd1,Zd2,Zd3,Zeb,Zec,Zek,Zen,Zep,Zeq,Zer,Zes,Zet,Zev,Zew,Zex,Zez,Ze0,Ze1,Ze2,Ze3,Ze5,Ze8,Zfc,Zfd,Zfe,Zfh,Zfi,Zfj,Zfl,Zfn,Zf0,Zf3,Zga,Zgc,Zgd,Zgg,Zgh,Zgi,Zgr,Zgs,Zgt,Zgv,Zgw,Zgx,Zhb,Zhc,Zin,Zio,Zip,Ziu,Ziv,Ziw,Zi6,Zjh,Zji,Zjn,Zjs,Zj7,Zka,Zkb,Zkx,Zky,Zk0,Zk1,Zla,Zlb,Zlc,Zld,Zle,Zlf,Zlh,Zlj,Zlk,Zll,Zlm,Zlz,Zl2,Zmt,Zmv,Zmw,Zmx,Zmy,Zmz,Zm0,Zm1,Zm3,Zm5,Zm6,Zm7,Zm9,Zna,Znb,Zne,Znf,Zng,Znn,Zno,Znp,Zof,Zog,Zok,Zol,Zom,Zor,Zos,Zot,Zo3,Zo4,Zo6,Zo7,Zo8,Zo9,Zpg,Zph,Zpw,Zp7,Zp9,Zqd,Zqe,List.length_map,eq_self,true_and,and_true,fc_17,fc_18,fc_19,fc_54,fc_len,zS_sc,sc_0,sc_51,sc_52,sc_53,sc_54,sc_55,sc_56,sc_57,sc_58,sc_59,rd_0,ss_53,ss_54,ss_55,ss_56,ss_57,ss_58,ss_59,sp_0,sc_len,sc_ok,sc_rs,fz_sc,scF1,flL_sc,c3]
    tactic =>
    refine endA ?_
    sym =>
    simp [Zaa,Zab,Zac,Zad,Zae,Zaf,Zak,Zal,Zam,Zao,Zaz,Za0,Za1,Za2,Za3,Za4,Za5,Za6,Za7,Za8,Za9,Zba,Zbb,Zbc,Zbd,Zbf,Zbh,Zbj,Zbm,Zbt,Zbu,Zbv,Zbw,Zb7,Zb8,Zcv,Zcw,Zcx,Zc3,Zc4,Zc7,Zc8,Zc9,Zdc,Zdd,Zde,Zdf,Zdg,Zdh,Zdi,Zdj,Zdk,Zdm,Zdo,Zdp,Zdt,Zdu,Zdv,Zdw,Zdx,Zdy,Zdz,Zd0,Zd1,Zd2,Zd3,Zeb,Zec,Zek,Zen,Zep,Zeq,Zer,Zes,Zet,Zev,Zew,Zex,Zez,Ze0,Ze1,Ze2,Ze3,Ze5,Ze8,Zfc,Zfd,Zfe,Zfh,Zfi,Zfj,Zfl,Zfn,Zf0,Zf3,Zga,Zgc,Zgd,Zgg,Zgh,Zgi,Zgr,Zgs,Zgt,Zgv,Zgw,Zgx,Zhb,Zhc,Zin,Zio,Zip,Ziu,Ziv,Ziw,Zi6,Zjh,Zji,Zjn,Zjs,Zj7,Zka,Zkb,Zkx,Zky,Zk0,Zk1,Zla,Zlb,Zlc,Zld,Zle,Zlf,Zlh,Zlj,Zlk,Zll,Zlm,Zlz,Zl2,Zmt,Zmv,Zmw,Zmx,Zmy,Zmz,Zm0,Zm1,Zm3,Zm5,Zm6,Zm7,Zm9,Zna,Znb,Zne,Znf,Zng,Znn,Zno,Znp,Zof,Zog,Zok,Zol,Zom,Zor,Zos,Zot,Zo3,Zo4,Zo6,Zo7,Zo8,Zo9,Zpg,Zph,Zpw,Zp7,Zp9,Zqd,Zqe,List.length_map,eq_self,true_and,and_true,fc_17,fc_18,fc_19,fc_54,fc_len,zS_sc,sc_0,sc_51,sc_52,sc_53,sc_54,sc_55,sc_56,sc_57,sc_58,sc_59,rd_0,ss_53,ss_54,ss_55,ss_56,ss_57,ss_58,ss_59,sp_0,sc_len,sc_ok,sc_rs,fz_sc,scF1,flL_sc]
    tactic =>
    all_goals rfl
  replace c3 := Classical.not_not.1 c3
  rw [if_neg (fun hn => hn c3)] at hR
  by_cases c4 : 4611686018427387904 < f.o
  · rw [if_pos c4] at hR
    subst hR
    obtain ⟨st, cd, src, su, tk, es, er, os, t, s, o, ⟨a, b, c⟩, ⟨a2, b2, c2⟩⟩ := x
    obtain ⟨fk, ft, fes, fer, fo, fn, fsu, fd, frs, fcc⟩ := f
    simp only [sn, fr] at c1 c2 c3 c4 ⊢
    subst c1; subst c2; subst c3
    refine con_j b89 rfl ?_
    sym =>
    simp [Zaa,Zab,Zac,Zad,Zae,Zaf,Zak,Zal,Zam,Zao,Zaz,Za0,Za1,Za2,Za3,Za4,Za5,Za6,Za7,Za8,Za9,Zba,Zbb,Zbc,Zbd,Zbf,Zbh,Zbj,Zbm,Zbt,Zbu,Zbv,Zbw,Zb7,Zb8,Zcv,Zcw,Zcx,Zc3,Zc4,Zc7,Zc8,Zc9,Zdc,Zdd,Zde,Zdf,Zdg,Zdh,Zdi,Zdj,Zdk,Zdm,Zdo,Zdp,Zdt,Zdu,Zdv,Zdw,Zdx,Zdy,Zdz,Zd0,Zd1,Zd2,Zd3,Zeb,Zec,Zek,Zen,Zep,Zeq,Zer,Zes,Zet,Zev,Zew,Zex,Zez,Ze0,Ze1,Ze2,Ze3,Ze5,Ze8,Zfc,Zfd,Zfe,Zfh,Zfi,Zfj,Zfl,Zfn,Zf0,Zf3,Zga,Zgc,Zgd,Zgg,Zgh,Zgi,Zgr,Zgs,Zgt,Zgv,Zgw,Zgx,Zhb,Zhc,Zin,Zio,Zip,Ziu,Ziv,Ziw,Zi6,Zjh,Zji,Zjn,Zjs,Zj7,Zka,Zkb,Zkx,Zky,Zk0,Zk1,Zla,Zlb,Zlc,Zld,Zle,Zlf,Zlh,Zlj,Zlk,Zll,Zlm,Zlz,Zl2,Zmt,Zmv,Zmw,Zmx,Zmy,Zmz,Zm0,Zm1,Zm3,Zm5,Zm6,Zm7,Zm9,Zna,Znb,Zne,Znf,Zng,Znn,Zno,Znp,Zof,Zog,Zok,Zol,Zom,Zor,Zos,Zot,Zo3,Zo4,Zo6,Zo7,Zo8,Zo9,Zpg,Zph,Zpw,Zp7,Zp9,Zqd,Zqe,List.length_map,eq_self,true_and,and_true,fc_17,fc_18,fc_19,fc_54,fc_len,zS_sc,sc_0,sc_51,sc_52,sc_53,sc_54,sc_55,sc_56,sc_57,sc_58,sc_59,rd_0,ss_53,ss_54,ss_55,ss_56,ss_57,ss_58,ss_59,sp_0,sc_len,sc_ok,sc_rs,fz_sc,scF1,flL_sc,c4]
    tactic =>
    refine endA ?_
    sym =>
    simp [Zaa,Zab,Zac,Zad,Zae,Zaf,Zak,Zal,Zam,Zao,Zaz,Za0,Za1,Za2,Za3,Za4,Za5,Za6,Za7,Za8,Za9,Zba,Zbb,Zbc,Zbd,Zbf,Zbh,Zbj,Zbm,Zbt,Zbu,Zbv,Zbw,Zb7,Zb8,Zcv,Zcw,Zcx,Zc3,Zc4,Zc7,Zc8,Zc9,Zdc,Zdd,Zde,Zdf,Zdg,Zdh,Zdi,Zdj,Zdk,Zdm,Zdo,Zdp,Zdt,Zdu,Zdv,Zdw,Zdx,Zdy,Zdz,Zd0,Zd1,Zd2,Zd3,Zeb,Zec,Zek,Zen,Zep,Zeq,Zer,Zes,Zet,Zev,Zew,Zex,Zez,Ze0,Ze1,Ze2,Ze3,Ze5,Ze8,Zfc,Zfd,Zfe,Zfh,Zfi,Zfj,Zfl,Zfn,Zf0,Zf3,Zga,Zgc,Zgd,Zgg,Zgh,Zgi,Zgr,Zgs,Zgt,Zgv,Zgw,Zgx,Zhb,Zhc,Zin,Zio,Zip,Ziu,Ziv,Ziw,Zi6,Zjh,Zji,Zjn,Zjs,Zj7,Zka,Zkb,Zkx,Zky,Zk0,Zk1,Zla,Zlb,Zlc,Zld,Zle,Zlf,Zlh,Zlj,Zlk,Zll,Zlm,Zlz,Zl2,Zmt,Zmv,Zmw,Zmx,Zmy,Zmz,Zm0,Zm1,Zm3,Zm5,Zm6,Zm7,Zm9,Zna,Znb,Zne,Znf,Zng,Znn,Zno,Znp,Zof,Zog,Zok,Zol,Zom,Zor,Zos,Zot,Zo3,Zo4,Zo6,Zo7,Zo8,Zo9,Zpg,Zph,Zpw,Zp7,Zp9,Zqd,Zqe,List.length_map,eq_self,true_and,and_true,fc_17,fc_18,fc_19,fc_54,fc_len,zS_sc,sc_0,sc_51,sc_52,sc_53,sc_54,sc_55,sc_56,sc_57,sc_58,sc_59,rd_0,ss_53,ss_54,ss_55,ss_56,ss_57,ss_58,ss_59,sp_0,sc_len,sc_ok,sc_rs,fz_sc,scF1,flL_sc]
    tactic =>
    all_goals rfl
  rw [if_neg c4] at hR
  have hsl : (spF f.r).length ≤ 1000 := by
    unfold spF
    rw [List.length_map]
    exact Nat.le_trans (List.length_filter_le _ _) hfr
  have hsp := spans_con f.r (by omega)
  have hbk := back_con x.os x.t x.s x.o x.T (IntKind.i64.wrap f.o) (spF f.r) (by omega) h.s h.o (by omega)
  obtain ⟨k1, k2, _⟩ := ac_ok (IntKind.i64.wrap f.o) (spF f.r) (by omega : 0 ≤ x.t ∧ x.t ≤ 1099511627776) h.s h.o
  have hon := on_con {x with s := acS x.t x.s (IntKind.i64.wrap f.o) (spF f.r), o := acO x.t x.s x.o (IntKind.i64.wrap f.o) (spF f.r), T := acT x.t x.s (IntKind.i64.wrap f.o) (spF f.r) x.T} ⟨h.src, h.os, h.t, k1, k2, acT_ok h.T, h.T2⟩
  generalize acS x.t x.s (IntKind.i64.wrap f.o) (spF f.r) = s1 at *
  generalize acO x.t x.s x.o (IntKind.i64.wrap f.o) (spF f.r) = o1 at *
  generalize acT x.t x.s (IntKind.i64.wrap f.o) (spF f.r) x.T = T1 at *
  obtain ⟨a1, b1, cc1⟩ := T1
  by_cases c5 : acM x.t x.s (IntKind.i64.wrap f.o) (spF f.r) = true
  · rw [if_pos c5] at hR
    rw [← hR] at hon
    clear hR
    rw [c5] at hbk
    obtain ⟨⟨st', cd', src', su', tk', es', er', os', t', s', o', ⟨a', b', c'⟩, ⟨a2', b2', c2'⟩⟩, fs⟩ := R
    obtain ⟨st, cd, src, su, tk, es, er, os, t, s, o, ⟨a, b, c⟩, ⟨a2, b2, c2⟩⟩ := x
    obtain ⟨fk, ft, fes, fer, fo, fn, fsu, fd, frs, fcc⟩ := f
    simp only [sn, fr] at c1 c2 c3 c4 hon hbk hsp ⊢
    subst c1; subst c2; subst c3
    refine con_j b89 rfl ?_
    sym =>
    simp [Zaa,Zab,Zac,Zad,Zae,Zaf,Zak,Zal,Zam,Zao,Zaz,Za0,Za1,Za2,Za3,Za4,Za5,Za6,Za7,Za8,Za9,Zba,Zbb,Zbc,Zbd,Zbf,Zbh,Zbj,Zbm,Zbt,Zbu,Zbv,Zbw,Zb7,Zb8,Zcv,Zcw,Zcx,Zc3,Zc4,Zc7,Zc8,Zc9,Zdc,Zdd,Zde,Zdf,Zdg,Zdh,Zdi,Zdj,Zdk,Zdm,Zdo,Zdp,Zdt,Zdu,Zdv,Zdw,Zdx,Zdy,Zdz,Zd0,Zd1,Zd2,Zd3,Zeb,Zec,Zek,Zen,Zep,Zeq,Zer,Zes,Zet,Zev,Zew,Zex,Zez,Ze0,Ze1,Ze2,Ze3,Ze5,Ze8,Zfc,Zfd,Zfe,Zfh,Zfi,Zfj,Zfl,Zfn,Zf0,Zf3,Zga,Zgc,Zgd,Zgg,Zgh,Zgi,Zgr,Zgs,Zgt,Zgv,Zgw,Zgx,Zhb,Zhc,Zin,Zio,Zip,Ziu,Ziv,Ziw,Zi6,Zjh,Zji,Zjn,Zjs,Zj7,Zka,Zkb,Zkx,Zky,Zk0,Zk1,Zla,Zlb,Zlc,Zld,Zle,Zlf,Zlh,Zlj,Zlk,Zll,Zlm,Zlz,Zl2,Zmt,Zmv,Zmw,Zmx,Zmy,Zmz,Zm0,Zm1,Zm3,Zm5,Zm6,Zm7,Zm9,Zna,Znb,Zne,Znf,Zng,Znn,Zno,Znp,Zof,Zog,Zok,Zol,Zom,Zor,Zos,Zot,Zo3,Zo4,Zo6,Zo7,Zo8,Zo9,Zpg,Zph,Zpw,Zp7,Zp9,Zqd,Zqe,List.length_map,eq_self,true_and,and_true,fc_17,fc_18,fc_19,fc_54,fc_len,zS_sc,sc_0,sc_51,sc_52,sc_53,sc_54,sc_55,sc_56,sc_57,sc_58,sc_59,rd_0,ss_53,ss_54,ss_55,ss_56,ss_57,ss_58,ss_59,sp_0,sc_len,sc_ok,sc_rs,fz_sc,scF1,flL_sc,c4,callable_12]
    tactic =>
    refine cl none (hsp) trivial ?_
    sym =>
    simp [Zaa,Zab,Zac,Zad,Zae,Zaf,Zak,Zal,Zam,Zao,Zaz,Za0,Za1,Za2,Za3,Za4,Za5,Za6,Za7,Za8,Za9,Zba,Zbb,Zbc,Zbd,Zbf,Zbh,Zbj,Zbm,Zbt,Zbu,Zbv,Zbw,Zb7,Zb8,Zcv,Zcw,Zcx,Zc3,Zc4,Zc7,Zc8,Zc9,Zdc,Zdd,Zde,Zdf,Zdg,Zdh,Zdi,Zdj,Zdk,Zdm,Zdo,Zdp,Zdt,Zdu,Zdv,Zdw,Zdx,Zdy,Zdz,Zd0,Zd1,Zd2,Zd3,Zeb,Zec,Zek,Zen,Zep,Zeq,Zer,Zes,Zet,Zev,Zew,Zex,Zez,Ze0,Ze1,Ze2,Ze3,Ze5,Ze8,Zfc,Zfd,Zfe,Zfh,Zfi,Zfj,Zfl,Zfn,Zf0,Zf3,Zga,Zgc,Zgd,Zgg,Zgh,Zgi,Zgr,Zgs,Zgt,Zgv,Zgw,Zgx,Zhb,Zhc,Zin,Zio,Zip,Ziu,Ziv,Ziw,Zi6,Zjh,Zji,Zjn,Zjs,Zj7,Zka,Zkb,Zkx,Zky,Zk0,Zk1,Zla,Zlb,Zlc,Zld,Zle,Zlf,Zlh,Zlj,Zlk,Zll,Zlm,Zlz,Zl2,Zmt,Zmv,Zmw,Zmx,Zmy,Zmz,Zm0,Zm1,Zm3,Zm5,Zm6,Zm7,Zm9,Zna,Znb,Zne,Znf,Zng,Znn,Zno,Znp,Zof,Zog,Zok,Zol,Zom,Zor,Zos,Zot,Zo3,Zo4,Zo6,Zo7,Zo8,Zo9,Zpg,Zph,Zpw,Zp7,Zp9,Zqd,Zqe,List.length_map,eq_self,true_and,and_true,fc_17,fc_18,fc_19,fc_54,fc_len,zS_sc,sc_0,sc_51,sc_52,sc_53,sc_54,sc_55,sc_56,sc_57,sc_58,sc_59,rd_0,ss_53,ss_54,ss_55,ss_56,ss_57,ss_58,ss_59,sp_0,sc_len,sc_ok,sc_rs,fz_sc,scF1,flL_sc,callable_33]
    tactic =>
    refine cl none (hbk) trivial ?_
    sym =>
    simp [Zaa,Zab,Zac,Zad,Zae,Zaf,Zak,Zal,Zam,Zao,Zaz,Za0,Za1,Za2,Za3,Za4,Za5,Za6,Za7,Za8,Za9,Zba,Zbb,Zbc,Zbd,Zbf,Zbh,Zbj,Zbm,Zbt,Zbu,Zbv,Zbw,Zb7,Zb8,Zcv,Zcw,Zcx,Zc3,Zc4,Zc7,Zc8,Zc9,Zdc,Zdd,Zde,Zdf,Zdg,Zdh,Zdi,Zdj,Zdk,Zdm,Zdo,Zdp,Zdt,Zdu,Zdv,Zdw,Zdx,Zdy,Zdz,Zd0,Zd1,Zd2,Zd3,Zeb,Zec,Zek,Zen,Zep,Zeq,Zer,Zes,Zet,Zev,Zew,Zex,Zez,Ze0,Ze1,Ze2,Ze3,Ze5,Ze8,Zfc,Zfd,Zfe,Zfh,Zfi,Zfj,Zfl,Zfn,Zf0,Zf3,Zga,Zgc,Zgd,Zgg,Zgh,Zgi,Zgr,Zgs,Zgt,Zgv,Zgw,Zgx,Zhb,Zhc,Zin,Zio,Zip,Ziu,Ziv,Ziw,Zi6,Zjh,Zji,Zjn,Zjs,Zj7,Zka,Zkb,Zkx,Zky,Zk0,Zk1,Zla,Zlb,Zlc,Zld,Zle,Zlf,Zlh,Zlj,Zlk,Zll,Zlm,Zlz,Zl2,Zmt,Zmv,Zmw,Zmx,Zmy,Zmz,Zm0,Zm1,Zm3,Zm5,Zm6,Zm7,Zm9,Zna,Znb,Zne,Znf,Zng,Znn,Zno,Znp,Zof,Zog,Zok,Zol,Zom,Zor,Zos,Zot,Zo3,Zo4,Zo6,Zo7,Zo8,Zo9,Zpg,Zph,Zpw,Zp7,Zp9,Zqd,Zqe,List.length_map,eq_self,true_and,and_true,fc_17,fc_18,fc_19,fc_54,fc_len,zS_sc,sc_0,sc_51,sc_52,sc_53,sc_54,sc_55,sc_56,sc_57,sc_58,sc_59,rd_0,ss_53,ss_54,ss_55,ss_56,ss_57,ss_58,ss_59,sp_0,sc_len,sc_ok,sc_rs,fz_sc,scF1,flL_sc,callable_121]
    tactic =>
    refine cl none (hon) trivial ?_
    sym =>
    simp [Zaa,Zab,Zac,Zad,Zae,Zaf,Zak,Zal,Zam,Zao,Zaz,Za0,Za1,Za2,Za3,Za4,Za5,Za6,Za7,Za8,Za9,Zba,Zbb,Zbc,Zbd,Zbf,Zbh,Zbj,Zbm,Zbt,Zbu,Zbv,Zbw,Zb7,Zb8,Zcv,Zcw,Zcx,Zc3,Zc4,Zc7,Zc8,Zc9,Zdc,Zdd,Zde,Zdf,Zdg,Zdh,Zdi,Zdj,Zdk,Zdm,Zdo,Zdp,Zdt,Zdu,Zdv,Zdw,Zdx,Zdy,Zdz,Zd0,Zd1,Zd2,Zd3,Zeb,Zec,Zek,Zen,Zep,Zeq,Zer,Zes,Zet,Zev,Zew,Zex,Zez,Ze0,Ze1,Ze2,Ze3,Ze5,Ze8,Zfc,Zfd,Zfe,Zfh,Zfi,Zfj,Zfl,Zfn,Zf0,Zf3,Zga,Zgc,Zgd,Zgg,Zgh,Zgi,Zgr,Zgs,Zgt,Zgv,Zgw,Zgx,Zhb,Zhc,Zin,Zio,Zip,Ziu,Ziv,Ziw,Zi6,Zjh,Zji,Zjn,Zjs,Zj7,Zka,Zkb,Zkx,Zky,Zk0,Zk1,Zla,Zlb,Zlc,Zld,Zle,Zlf,Zlh,Zlj,Zlk,Zll,Zlm,Zlz,Zl2,Zmt,Zmv,Zmw,Zmx,Zmy,Zmz,Zm0,Zm1,Zm3,Zm5,Zm6,Zm7,Zm9,Zna,Znb,Zne,Znf,Zng,Znn,Zno,Znp,Zof,Zog,Zok,Zol,Zom,Zor,Zos,Zot,Zo3,Zo4,Zo6,Zo7,Zo8,Zo9,Zpg,Zph,Zpw,Zp7,Zp9,Zqd,Zqe,List.length_map,eq_self,true_and,and_true,fc_17,fc_18,fc_19,fc_54,fc_len,zS_sc,sc_0,sc_51,sc_52,sc_53,sc_54,sc_55,sc_56,sc_57,sc_58,sc_59,rd_0,ss_53,ss_54,ss_55,ss_56,ss_57,ss_58,ss_59,sp_0,sc_len,sc_ok,sc_rs,fz_sc,scF1,flL_sc]
    tactic =>
    refine endA ?_
    sym =>
    simp [Zaa,Zab,Zac,Zad,Zae,Zaf,Zak,Zal,Zam,Zao,Zaz,Za0,Za1,Za2,Za3,Za4,Za5,Za6,Za7,Za8,Za9,Zba,Zbb,Zbc,Zbd,Zbf,Zbh,Zbj,Zbm,Zbt,Zbu,Zbv,Zbw,Zb7,Zb8,Zcv,Zcw,Zcx,Zc3,Zc4,Zc7,Zc8,Zc9,Zdc,Zdd,Zde,Zdf,Zdg,Zdh,Zdi,Zdj,Zdk,Zdm,Zdo,Zdp,Zdt,Zdu,Zdv,Zdw,Zdx,Zdy,Zdz,Zd0,Zd1,Zd2,Zd3,Zeb,Zec,Zek,Zen,Zep,Zeq,Zer,Zes,Zet,Zev,Zew,Zex,Zez,Ze0,Ze1,Ze2,Ze3,Ze5,Ze8,Zfc,Zfd,Zfe,Zfh,Zfi,Zfj,Zfl,Zfn,Zf0,Zf3,Zga,Zgc,Zgd,Zgg,Zgh,Zgi,Zgr,Zgs,Zgt,Zgv,Zgw,Zgx,Zhb,Zhc,Zin,Zio,Zip,Ziu,Ziv,Ziw,Zi6,Zjh,Zji,Zjn,Zjs,Zj7,Zka,Zkb,Zkx,Zky,Zk0,Zk1,Zla,Zlb,Zlc,Zld,Zle,Zlf,Zlh,Zlj,Zlk,Zll,Zlm,Zlz,Zl2,Zmt,Zmv,Zmw,Zmx,Zmy,Zmz,Zm0,Zm1,Zm3,Zm5,Zm6,Zm7,Zm9,Zna,Znb,Zne,Znf,Zng,Znn,Zno,Znp,Zof,Zog,Zok,Zol,Zom,Zor,Zos,Zot,Zo3,Zo4,Zo6,Zo7,Zo8,Zo9,Zpg,Zph,Zpw,Zp7,Zp9,Zqd,Zqe,List.length_map,eq_self,true_and,and_true,fc_17,fc_18,fc_19,fc_54,fc_len,zS_sc,sc_0,sc_51,sc_52,sc_53,sc_54,sc_55,sc_56,sc_57,sc_58,sc_59,rd_0,ss_53,ss_54,ss_55,ss_56,ss_57,ss_58,ss_59,sp_0,sc_len,sc_ok,sc_rs,fz_sc,scF1,flL_sc]
  · rw [if_neg c5] at hR
    subst hR
    have c5 : acM x.t x.s (IntKind.i64.wrap f.o) (spF f.r) = false := by simpa using c5
    rw [c5] at hbk
    obtain ⟨st, cd, src, su, tk, es, er, os, t, s, o, ⟨a, b, c⟩, ⟨a2, b2, c2⟩⟩ := x
    obtain ⟨fk, ft, fes, fer, fo, fn, fsu, fd, frs, fcc⟩ := f
    simp only [sn, fr] at c1 c2 c3 c4 hbk hsp ⊢
    subst c1; subst c2; subst c3
    refine con_j b89 rfl ?_
    sym =>
    simp [Zaa,Zab,Zac,Zad,Zae,Zaf,Zak,Zal,Zam,Zao,Zaz,Za0,Za1,Za2,Za3,Za4,Za5,Za6,Za7,Za8,Za9,Zba,Zbb,Zbc,Zbd,Zbf,Zbh,Zbj,Zbm,Zbt,Zbu,Zbv,Zbw,Zb7,Zb8,Zcv,Zcw,Zcx,Zc3,Zc4,Zc7,Zc8,Zc9,Zdc,Zdd,Zde,Zdf,Zdg,Zdh,Zdi,Zdj,Zdk,Zdm,Zdo,Zdp,Zdt,Zdu,Zdv,Zdw,Zdx,Zdy,Zdz,Zd0,Zd1,Zd2,Zd3,Zeb,Zec,Zek,Zen,Zep,Zeq,Zer,Zes,Zet,Zev,Zew,Zex,Zez,Ze0,Ze1,Ze2,Ze3,Ze5,Ze8,Zfc,Zfd,Zfe,Zfh,Zfi,Zfj,Zfl,Zfn,Zf0,Zf3,Zga,Zgc,Zgd,Zgg,Zgh,Zgi,Zgr,Zgs,Zgt,Zgv,Zgw,Zgx,Zhb,Zhc,Zin,Zio,Zip,Ziu,Ziv,Ziw,Zi6,Zjh,Zji,Zjn,Zjs,Zj7,Zka,Zkb,Zkx,Zky,Zk0,Zk1,Zla,Zlb,Zlc,Zld,Zle,Zlf,Zlh,Zlj,Zlk,Zll,Zlm,Zlz,Zl2,Zmt,Zmv,Zmw,Zmx,Zmy,Zmz,Zm0,Zm1,Zm3,Zm5,Zm6,Zm7,Zm9,Zna,Znb,Zne,Znf,Zng,Znn,Zno,Znp,Zof,Zog,Zok,Zol,Zom,Zor,Zos,Zot,Zo3,Zo4,Zo6,Zo7,Zo8,Zo9,Zpg,Zph,Zpw,Zp7,Zp9,Zqd,Zqe,List.length_map,eq_self,true_and,and_true,fc_17,fc_18,fc_19,fc_54,fc_len,zS_sc,sc_0,sc_51,sc_52,sc_53,sc_54,sc_55,sc_56,sc_57,sc_58,sc_59,rd_0,ss_53,ss_54,ss_55,ss_56,ss_57,ss_58,ss_59,sp_0,sc_len,sc_ok,sc_rs,fz_sc,scF1,flL_sc,c4,callable_12]
    tactic =>
    refine cl none (hsp) trivial ?_
    sym =>
    simp [Zaa,Zab,Zac,Zad,Zae,Zaf,Zak,Zal,Zam,Zao,Zaz,Za0,Za1,Za2,Za3,Za4,Za5,Za6,Za7,Za8,Za9,Zba,Zbb,Zbc,Zbd,Zbf,Zbh,Zbj,Zbm,Zbt,Zbu,Zbv,Zbw,Zb7,Zb8,Zcv,Zcw,Zcx,Zc3,Zc4,Zc7,Zc8,Zc9,Zdc,Zdd,Zde,Zdf,Zdg,Zdh,Zdi,Zdj,Zdk,Zdm,Zdo,Zdp,Zdt,Zdu,Zdv,Zdw,Zdx,Zdy,Zdz,Zd0,Zd1,Zd2,Zd3,Zeb,Zec,Zek,Zen,Zep,Zeq,Zer,Zes,Zet,Zev,Zew,Zex,Zez,Ze0,Ze1,Ze2,Ze3,Ze5,Ze8,Zfc,Zfd,Zfe,Zfh,Zfi,Zfj,Zfl,Zfn,Zf0,Zf3,Zga,Zgc,Zgd,Zgg,Zgh,Zgi,Zgr,Zgs,Zgt,Zgv,Zgw,Zgx,Zhb,Zhc,Zin,Zio,Zip,Ziu,Ziv,Ziw,Zi6,Zjh,Zji,Zjn,Zjs,Zj7,Zka,Zkb,Zkx,Zky,Zk0,Zk1,Zla,Zlb,Zlc,Zld,Zle,Zlf,Zlh,Zlj,Zlk,Zll,Zlm,Zlz,Zl2,Zmt,Zmv,Zmw,Zmx,Zmy,Zmz,Zm0,Zm1,Zm3,Zm5,Zm6,Zm7,Zm9,Zna,Znb,Zne,Znf,Zng,Znn,Zno,Znp,Zof,Zog,Zok,Zol,Zom,Zor,Zos,Zot,Zo3,Zo4,Zo6,Zo7,Zo8,Zo9,Zpg,Zph,Zpw,Zp7,Zp9,Zqd,Zqe,List.length_map,eq_self,true_and,and_true,fc_17,fc_18,fc_19,fc_54,fc_len,zS_sc,sc_0,sc_51,sc_52,sc_53,sc_54,sc_55,sc_56,sc_57,sc_58,sc_59,rd_0,ss_53,ss_54,ss_55,ss_56,ss_57,ss_58,ss_59,sp_0,sc_len,sc_ok,sc_rs,fz_sc,scF1,flL_sc,callable_33]
    tactic =>
    refine cl none (hbk) trivial ?_
    sym =>
    simp [Zaa,Zab,Zac,Zad,Zae,Zaf,Zak,Zal,Zam,Zao,Zaz,Za0,Za1,Za2,Za3,Za4,Za5,Za6,Za7,Za8,Za9,Zba,Zbb,Zbc,Zbd,Zbf,Zbh,Zbj,Zbm,Zbt,Zbu,Zbv,Zbw,Zb7,Zb8,Zcv,Zcw,Zcx,Zc3,Zc4,Zc7,Zc8,Zc9,Zdc,Zdd,Zde,Zdf,Zdg,Zdh,Zdi,Zdj,Zdk,Zdm,Zdo,Zdp,Zdt,Zdu,Zdv,Zdw,Zdx,Zdy,Zdz,Zd0,Zd1,Zd2,Zd3,Zeb,Zec,Zek,Zen,Zep,Zeq,Zer,Zes,Zet,Zev,Zew,Zex,Zez,Ze0,Ze1,Ze2,Ze3,Ze5,Ze8,Zfc,Zfd,Zfe,Zfh,Zfi,Zfj,Zfl,Zfn,Zf0,Zf3,Zga,Zgc,Zgd,Zgg,Zgh,Zgi,Zgr,Zgs,Zgt,Zgv,Zgw,Zgx,Zhb,Zhc,Zin,Zio,Zip,Ziu,Ziv,Ziw,Zi6,Zjh,Zji,Zjn,Zjs,Zj7,Zka,Zkb,Zkx,Zky,Zk0,Zk1,Zla,Zlb,Zlc,Zld,Zle,Zlf,Zlh,Zlj,Zlk,Zll,Zlm,Zlz,Zl2,Zmt,Zmv,Zmw,Zmx,Zmy,Zmz,Zm0,Zm1,Zm3,Zm5,Zm6,Zm7,Zm9,Zna,Znb,Zne,Znf,Zng,Znn,Zno,Znp,Zof,Zog,Zok,Zol,Zom,Zor,Zos,Zot,Zo3,Zo4,Zo6,Zo7,Zo8,Zo9,Zpg,Zph,Zpw,Zp7,Zp9,Zqd,Zqe,List.length_map,eq_self,true_and,and_true,fc_17,fc_18,fc_19,fc_54,fc_len,zS_sc,sc_0,sc_51,sc_52,sc_53,sc_54,sc_55,sc_56,sc_57,sc_58,sc_59,rd_0,ss_53,ss_54,ss_55,ss_56,ss_57,ss_58,ss_59,sp_0,sc_len,sc_ok,sc_rs,fz_sc,scF1,flL_sc]
    tactic =>
    refine endA ?_
    sym =>
    simp [Zaa,Zab,Zac,Zad,Zae,Zaf,Zak,Zal,Zam,Zao,Zaz,Za0,Za1,Za2,Za3,Za4,Za5,Za6,Za7,Za8,Za9,Zba,Zbb,Zbc,Zbd,Zbf,Zbh,Zbj,Zbm,Zbt,Zbu,Zbv,Zbw,Zb7,Zb8,Zcv,Zcw,Zcx,Zc3,Zc4,Zc7,Zc8,Zc9,Zdc,Zdd,Zde,Zdf,Zdg,Zdh,Zdi,Zdj,Zdk,Zdm,Zdo,Zdp,Zdt,Zdu,Zdv,Zdw,Zdx,Zdy,Zdz,Zd0,Zd1,Zd2,Zd3,Zeb,Zec,Zek,Zen,Zep,Zeq,Zer,Zes,Zet,Zev,Zew,Zex,Zez,Ze0,Ze1,Ze2,Ze3,Ze5,Ze8,Zfc,Zfd,Zfe,Zfh,Zfi,Zfj,Zfl,Zfn,Zf0,Zf3,Zga,Zgc,Zgd,Zgg,Zgh,Zgi,Zgr,Zgs,Zgt,Zgv,Zgw,Zgx,Zhb,Zhc,Zin,Zio,Zip,Ziu,Ziv,Ziw,Zi6,Zjh,Zji,Zjn,Zjs,Zj7,Zka,Zkb,Zkx,Zky,Zk0,Zk1,Zla,Zlb,Zlc,Zld,Zle,Zlf,Zlh,Zlj,Zlk,Zll,Zlm,Zlz,Zl2,Zmt,Zmv,Zmw,Zmx,Zmy,Zmz,Zm0,Zm1,Zm3,Zm5,Zm6,Zm7,Zm9,Zna,Znb,Zne,Znf,Zng,Znn,Zno,Znp,Zof,Zog,Zok,Zol,Zom,Zor,Zos,Zot,Zo3,Zo4,Zo6,Zo7,Zo8,Zo9,Zpg,Zph,Zpw,Zp7,Zp9,Zqd,Zqe,List.length_map,eq_self,true_and,and_true,fc_17,fc_18,fc_19,fc_54,fc_len,zS_sc,sc_0,sc_51,sc_52,sc_53,sc_54,sc_55,sc_56,sc_57,sc_58,sc_59,rd_0,ss_53,ss_54,ss_55,ss_56,ss_57,ss_58,ss_59,sp_0,sc_len,sc_ok,sc_rs,fz_sc,scF1,flL_sc]
    tactic =>
    all_goals rfl
theorem take_con (x : Sn) (h : Inv x) (f : Fm) (hfr : f.r.length ≤ 1000) : Con Try.prog 49 [] [.ag (sn x), .ag (fr f)] [] (.tu [.ag (sn (taF x f).1), fF (taF x f).2]) := by
  have hs := h.src
  have hrs := resume_con x h f
  have hsk := sack_con x h f hfr
  obtain ⟨R, hR⟩ : ∃ R, R = taF x f := ⟨_, rfl⟩
  rw [← hR]
  unfold taF at hR
  by_cases c1 : x.st < 1
  · rw [if_pos c1] at hR
    subst hR
    obtain ⟨st, cd, src, su, tk, es, er, os, t, s, o, ⟨a, b, c⟩, ⟨a2, b2, c2⟩⟩ := x
    obtain ⟨fk, ft, fes, fer, fo, fn, fsu, fd, frs, fcc⟩ := f
    simp only [sn, fr] at c1 ⊢
    refine con_j b49 rfl ?_
    sym =>
    simp [Zab,Zad,Zae,Zaf,Zak,Zal,Zam,Zao,Zaz,Za0,Za1,Za2,Za3,Za4,Za5,Za6,Za7,Za8,Za9,Zba,Zbb,Zbd,Zbf,Zbt,Zbv,Zcv,Zcx,Zc3,Zev,Zew,Zex,Zez,Ze0,Ze1,Ze2,Ze3,Ze5,Ze8,Zfc,Zfd,Zfe,Zfh,Zfi,Zfj,Zfn,Zf1,Zgr,Zgs,Zgt,Zgv,Zgw,Zgx,Zin,Zio,Zip,Ziu,Ziv,Ziw,Zi6,Zjh,Zji,Zj7,Zmt,Zmv,Zmw,Zmx,Zmy,Zmz,Zm0,Zm1,Zm3,Zm5,Zm6,Zna,Znb,Zos,Zot,Zo6,Zo7,Zo8,eq_self,true_and,and_true,zS_sc,sc_0,rd_0,sp_0,sc_len,sc_ok,c1]
    tactic =>
    refine endA ?_
    sym =>
    simp [Zpg,Zpw,Zp7,Zp9,Zqd,Zqe,eq_self,true_and,and_true,sc_rs]
    tactic =>
    all_goals rfl
  rw [if_neg c1] at hR
  by_cases c2 : 3 < x.st
  · rw [if_pos c2] at hR
    subst hR
    obtain ⟨st, cd, src, su, tk, es, er, os, t, s, o, ⟨a, b, c⟩, ⟨a2, b2, c2⟩⟩ := x
    obtain ⟨fk, ft, fes, fer, fo, fn, fsu, fd, frs, fcc⟩ := f
    simp only [sn, fr] at c1 c2 ⊢
    refine con_j b49 rfl ?_
    sym =>
    simp [Zab,Zad,Zae,Zaf,Zak,Zal,Zam,Zao,Zaz,Za0,Za1,Za2,Za3,Za4,Za5,Za6,Za7,Za8,Za9,Zba,Zbb,Zbd,Zbf,Zbt,Zbv,Zcv,Zcx,Zc3,Zev,Zew,Zex,Zez,Ze0,Ze1,Ze2,Ze3,Ze5,Ze8,Zfc,Zfd,Zfe,Zfh,Zfi,Zfj,Zfl,Zfn,Zf1,Zf3,Zgr,Zgs,Zgt,Zgv,Zgw,Zgx,Zin,Zio,Zip,Ziu,Ziv,Ziw,Zi6,Zjh,Zji,Zj7,Zmt,Zmv,Zmw,Zmx,Zmy,Zmz,Zm0,Zm1,Zm3,Zm5,Zm6,Zna,Znb,Zos,Zot,Zo6,Zo7,Zo8,Zo9,eq_self,true_and,and_true,zS_sc,sc_0,rd_0,sp_0,sc_len,sc_ok,c1,c2]
    tactic =>
    refine endA ?_
    sym =>
    simp [Zpg,Zpw,Zp7,Zp9,Zqd,Zqe,eq_self,true_and,and_true,sc_rs]
    tactic =>
    all_goals rfl
  rw [if_neg c2] at hR
  by_cases c3 : ¬ (f.t = x.tk)
  · rw [if_pos c3] at hR
    subst hR
    obtain ⟨st, cd, src, su, tk, es, er, os, t, s, o, ⟨a, b, c⟩, ⟨a2, b2, c2⟩⟩ := x
    obtain ⟨fk, ft, fes, fer, fo, fn, fsu, fd, frs, fcc⟩ := f
    simp only [sn, fr] at c1 c2 c3 ⊢
    have e3 : eqL (cB ft.1) (cB tk.1) = false := by rw [eqL_V]; exact decide_eq_false c3
    refine con_j b49 rfl ?_
    sym =>
    simp [Zab,Zad,Zae,Zaf,Zak,Zal,Zam,Zao,Zaz,Za0,Za1,Za2,Za3,Za4,Za5,Za6,Za7,Za8,Za9,Zba,Zbb,Zbd,Zbf,Zbh,Zbt,Zbv,Zcv,Zcx,Zc3,Zev,Zew,Zex,Zez,Ze0,Ze1,Ze2,Ze3,Ze5,Ze8,Zfc,Zfd,Zfe,Zfh,Zfi,Zfj,Zfl,Zfn,Zf1,Zf3,Zga,Zgc,Zgr,Zgs,Zgt,Zgv,Zgw,Zgx,Zin,Zio,Zip,Ziu,Ziv,Ziw,Zi6,Zjh,Zji,Zj7,Zmt,Zmv,Zmw,Zmx,Zmy,Zmz,Zm0,Zm1,Zm3,Zm5,Zm6,Zna,Znb,Zos,Zot,Zo4,Zo6,Zo7,Zo9,eq_self,true_and,and_true,rb_1,fc_len,v16,zS_sc,sc_0,rd_35,rd_0,sp_0,sc_len,sc_ok,c1,c2,e3,sk16]
    tactic =>
    refine endA ?_
    sym =>
    simp [Zpg,Zpw,Zp7,Zp9,Zqd,Zqe,eq_self,true_and,and_true,sc_rs]
    tactic =>
    all_goals rfl
  replace c3 := Classical.not_not.1 c3
  rw [if_neg (fun hn => hn c3)] at hR
  by_cases c4 : ¬ (f.es = x.es)
  · rw [if_pos c4] at hR
    subst hR
    obtain ⟨st, cd, src, su, tk, es, er, os, t, s, o, ⟨a, b, c⟩, ⟨a2, b2, c2⟩⟩ := x
    obtain ⟨fk, ft, fes, fer, fo, fn, fsu, fd, frs, fcc⟩ := f
    simp only [sn, fr] at c1 c2 c3 c4 ⊢
    subst c3
    refine con_j b49 rfl ?_
    sym =>
    simp [Zab,Zad,Zae,Zaf,Zak,Zal,Zam,Zao,Zaz,Za0,Za1,Za2,Za3,Za4,Za5,Za6,Za7,Za9,Zba,Zbb,Zbd,Zbf,Zbh,Zbt,Zbv,Zcv,Zcx,Zc3,Zev,Zew,Zex,Zez,Ze0,Ze1,Ze2,Ze3,Ze5,Ze8,Zfc,Zfd,Zfe,Zfh,Zfi,Zfl,Zfn,Zf0,Zf1,Zf3,Zga,Zgc,Zgr,Zgs,Zgt,Zgv,Zgw,Zgx,Zin,Zio,Zip,Ziu,Ziv,Ziw,Zi6,Zjh,Zji,Zj7,Zmt,Zmv,Zmw,Zmx,Zmy,Zmz,Zm0,Zm1,Zm3,Zm5,Zm6,Zna,Znb,Zos,Zot,Zo3,Zo4,Zo7,Zo9,eq_self,true_and,and_true,fc_17,rb_1,fc_len,v16,zS_sc,sc_0,sc_51,rd_35,rd_0,sp_0,sc_len,sc_ok,c1,c2,eqL_self,sk16,c4]
    tactic =>
    refine endA ?_
    sym =>
    simp [Zpg,Zpw,Zp7,Zp9,Zqd,Zqe,eq_self,true_and,and_true,sc_rs]
    tactic =>
    all_goals rfl
  replace c4 := Classical.not_not.1 c4
  rw [if_neg (fun hn => hn c4)] at hR
  by_cases c5 : f.k = 2
  · rw [if_pos c5] at hR
    rw [← hR] at hrs
    clear hR hsk
    obtain ⟨⟨st', cd', src', su', tk', es', er', os', t', s', o', ⟨a', b', c'⟩, ⟨a2', b2', c2'⟩⟩, fs⟩ := R
    obtain ⟨st, cd, src, su, tk, es, er, os, t, s, o, ⟨a, b, c⟩, ⟨a2, b2, c2⟩⟩ := x
    obtain ⟨fk, ft, fes, fer, fo, fn, fsu, fd, frs, fcc⟩ := f
    simp only [sn, fr] at c1 c2 c3 c4 c5 hrs ⊢
    subst c3; subst c4; subst c5
    refine con_j b49 rfl ?_
    sym =>
    simp [Zaa,Zab,Zad,Zae,Zaf,Zag,Zai,Zal,Zam,Zan,Zaq,Zaz,Za0,Za1,Za2,Za3,Za4,Za5,Za6,Za7,Za9,Zba,Zbb,Zbd,Zbf,Zbh,Zbt,Zbv,Zcv,Zcx,Zdc,Zdd,Zde,Zev,Zew,Zex,Zez,Ze0,Ze2,Ze3,Ze5,Ze8,Zfc,Zfd,Zfe,Zfh,Zfi,Zfl,Zfn,Zfz,Zf0,Zf1,Zf3,Zga,Zgc,Zgr,Zgs,Zgt,Zgv,Zgw,Zgx,Zin,Zio,Zip,Zi6,Zla,Zlb,Zle,Zlf,Zlh,Zlm,Zm5,Zm6,Zna,Znb,Zne,Znf,Zng,Zos,Zot,Zo3,Zo7,Zo8,Zo9,eq_self,true_and,and_true,fc_0,fc_17,rb_1,rb_0,fc_len,v16,fz_fc,fcF1,zS_sc,sc_0,sc_51,rd_35,rd_0,sc_len,fz_sc,scF1,c1,c2,eqL_self,sk16,callable_88]
    tactic =>
    refine cl none (hrs) trivial ?_
    sym =>
    simp [Zak,Zam,Zao,Zar,Zaz,Za0,Za1,Za2,Za3,Za4,Za5,Za9,Zba,Zbb,Zb7,Zc3,Zdi,Zev,Zez,Ze0,Ze1,Ze2,Ze3,Ze5,Zfc,Zfd,Zfe,Zfh,Zhb,Zhc,Ziu,Ziv,Ziw,Zi6,Zjh,Zji,Zj7,Zky,Zk0,Zk1,Zlz,Zl2,Zmt,Zmv,Zmw,Zmx,Zmy,Zmz,Zm0,Zm1,Zm3,Zm5,Zm9,Zna,Znb,Zo7,eq_self,true_and,and_true,rd_0,sp_0,sc_len,sc_ok,flL_sc]
    tactic =>
    refine endA ?_
    sym =>
    simp [Zpg,Zph,Zp7,Zp9,Zqd,Zqe,eq_self,and_true,sc_rs]
  rw [if_neg c5] at hR
  by_cases c6 : f.k = 4
  · rw [if_pos c6] at hR
    rw [← hR] at hsk
    clear hR hrs
    obtain ⟨⟨st', cd', src', su', tk', es', er', os', t', s', o', ⟨a', b', c'⟩, ⟨a2', b2', c2'⟩⟩, fs⟩ := R
    obtain ⟨st, cd, src, su, tk, es, er, os, t, s, o, ⟨a, b, c⟩, ⟨a2, b2, c2⟩⟩ := x
    obtain ⟨fk, ft, fes, fer, fo, fn, fsu, fd, frs, fcc⟩ := f
    simp only [sn, fr] at c1 c2 c3 c4 c6 hsk ⊢
    subst c3; subst c4; subst c6
    refine con_j b49 rfl ?_
    sym =>
    simp [Zaa,Zab,Zad,Zae,Zaf,Zag,Zai,Zal,Zam,Zan,Zaq,Zaz,Za0,Za1,Za2,Za3,Za4,Za5,Za6,Za7,Za9,Zba,Zbb,Zbd,Zbf,Zbh,Zbt,Zbv,Zcv,Zcx,Zdc,Zdd,Zde,Zev,Zew,Zex,Zez,Ze0,Ze2,Ze3,Ze5,Ze8,Zfc,Zfd,Zfe,Zfh,Zfi,Zfl,Zfn,Zfz,Zf0,Zf1,Zf3,Zga,Zgc,Zgr,Zgs,Zgt,Zgv,Zgw,Zgx,Zin,Zio,Zip,Zi6,Zla,Zlb,Zle,Zlf,Zlh,Zlm,Zm5,Zm6,Zna,Znb,Zne,Znf,Zng,Zos,Zot,Zo3,Zo7,Zo8,Zo9,eq_self,true_and,and_true,fc_0,fc_17,rb_1,rb_0,fc_len,v16,fz_fc,fcF1,zS_sc,sc_0,sc_51,rd_35,rd_0,sc_len,fz_sc,scF1,c1,c2,eqL_self,sk16,callable_89]
    tactic =>
    refine cl none (hsk) trivial ?_
    sym =>
    simp [Zak,Zam,Zao,Zar,Zaz,Za0,Za1,Za2,Za3,Za4,Za5,Za9,Zba,Zbb,Zb7,Zc3,Zdi,Zev,Zez,Ze0,Ze1,Ze2,Ze3,Ze5,Zfc,Zfd,Zfe,Zfh,Zhb,Zhc,Ziu,Ziv,Ziw,Zi6,Zjh,Zji,Zj7,Zky,Zk0,Zk1,Zlz,Zl2,Zmt,Zmv,Zmw,Zmx,Zmy,Zmz,Zm0,Zm1,Zm3,Zm5,Zm9,Zna,Znb,Zo7,eq_self,true_and,and_true,rd_0,sp_0,sc_len,sc_ok,flL_sc]
    tactic =>
    refine endA ?_
    sym =>
    simp [Zpg,Zph,Zp7,Zp9,Zqd,Zqe,eq_self,and_true,sc_rs]
  rw [if_neg c6] at hR
  by_cases c7 : f.k = 7
  · rw [if_pos c7] at hR
    subst hR
    obtain ⟨st, cd, src, su, tk, es, er, os, t, s, o, ⟨a, b, c⟩, ⟨a2, b2, c2⟩⟩ := x
    obtain ⟨fk, ft, fes, fer, fo, fn, fsu, fd, frs, fcc⟩ := f
    simp only [sn, fr] at c1 c2 c3 c4 c7 ⊢
    subst c3; subst c4; subst c7
    refine con_j b49 rfl ?_
    sym =>
    simp [Zaa,Zab,Zac,Zad,Zae,Zaf,Zag,Zai,Zak,Zal,Zam,Zan,Zaq,Zaz,Za0,Za1,Za2,Za3,Za4,Za5,Za6,Za7,Za9,Zba,Zbb,Zbd,Zbf,Zbh,Zbt,Zbu,Zbv,Zbw,Zcv,Zcx,Zc3,Zc4,Zc7,Zc8,Zc9,Zdo,Zdp,Zdt,Zdu,Zdv,Zdw,Zdx,Zdy,Zdz,Zd0,Zd1,Zd2,Zek,Zev,Zew,Zex,Zez,Ze0,Ze1,Ze2,Ze3,Ze5,Ze8,Zfc,Zfd,Zfe,Zfh,Zfi,Zfl,Zfn,Zfz,Zf0,Zf1,Zf3,Zga,Zgc,Zgr,Zgs,Zgt,Zgv,Zgw,Zgx,Zin,Zio,Zip,Ziu,Ziv,Ziw,Zi6,Zi7,Zjh,Zji,Zjn,Zj7,Zmt,Zmv,Zmw,Zmx,Zmy,Zmz,Zm0,Zm1,Zm3,Zm5,Zm6,Zna,Znb,Zne,Znn,Zno,Zos,Zot,Zo3,Zo7,Zo8,Zo9,eq_self,true_and,and_true,fc_0,fc_17,fc_55,rb_1,fc_len,v16,zS_sc,sc_0,sc_51,rd_35,rd_0,ss_0,ss_1,sp_0,sc_len,sc_ok,c1,c2,eqL_self,sk16]
    tactic =>
    refine endA ?_
    sym =>
    simp [Zpg,Zpw,Zp7,Zp9,Zqd,Zqe,eq_self,true_and,and_true,sc_rs]
    tactic =>
    all_goals rfl
  rw [if_neg c7] at hR
  by_cases c8 : f.k = 6
  · rw [if_pos c8] at hR
    have hw : IntKind.u64.wrap (IN x.src.length) = IN x.src.length := by simp only [IN]; rw [wu64]; omega
    by_cases c9 : f.n = IN x.src.length
    · rw [if_neg (fun hn => hn c9)] at hR
      subst hR
      obtain ⟨st, cd, src, su, tk, es, er, os, t, s, o, ⟨a, b, c⟩, ⟨a2, b2, c2⟩⟩ := x
      obtain ⟨fk, ft, fes, fer, fo, fn, fsu, fd, frs, fcc⟩ := f
      simp only [sn, fr] at c1 c2 c3 c4 c8 c9 hw ⊢
      subst c3; subst c4; subst c8; subst c9
      refine con_j b49 rfl ?_
      sym =>
      simp [Zaa,Zab,Zad,Zae,Zaf,Zag,Zai,Zak,Zal,Zam,Zan,Zap,Zaq,Zaz,Za0,Za1,Za2,Za3,Za4,Za5,Za6,Za7,Za9,Zba,Zbb,Zbd,Zbf,Zbh,Zbl,Zbt,Zbv,Zcn,Zcv,Zcx,Zc3,Zev,Zew,Zex,Zez,Ze0,Ze1,Ze2,Ze3,Ze5,Ze8,Zfc,Zfd,Zfe,Zfh,Zfi,Zfl,Zfn,Zfz,Zf0,Zf1,Zf3,Zga,Zgc,Zgh,Zgi,Zgr,Zgs,Zgt,Zgv,Zgw,Zgx,Zh6,Zh7,Zin,Zio,Zip,Ziu,Ziv,Ziw,Zi6,Zi7,Zjh,Zji,Zjn,Zj7,Zmt,Zmv,Zmw,Zmx,Zmy,Zmz,Zm0,Zm1,Zm3,Zm5,Zm6,Zna,Znb,Znn,Zno,Zos,Zot,Zo3,Zo7,Zo8,Zo9,eq_self,true_and,and_true,fc_0,fc_17,fc_20,rb_1,fc_len,v16,zS_sc,sc_0,sc_2,sc_51,rd_35,rd_0,ss_0,ss_1,sp_0,sc_len,sc_ok,c1,c2,eqL_self,sk16,hw]
      tactic =>
      refine endA ?_
      sym =>
      simp [Zpg,Zpw,Zp7,Zp9,Zqd,Zqe,eq_self,true_and,and_true,sc_rs]
      tactic =>
      all_goals rfl
    · rw [if_pos c9] at hR
      subst hR
      obtain ⟨st, cd, src, su, tk, es, er, os, t, s, o, ⟨a, b, c⟩, ⟨a2, b2, c2⟩⟩ := x
      obtain ⟨fk, ft, fes, fer, fo, fn, fsu, fd, frs, fcc⟩ := f
      simp only [sn, fr] at c1 c2 c3 c4 c8 c9 hw ⊢
      subst c3; subst c4; subst c8
      refine con_j b49 rfl ?_
      sym =>
      simp [Zaa,Zab,Zad,Zae,Zaf,Zag,Zai,Zak,Zal,Zam,Zan,Zaq,Zaz,Za0,Za1,Za2,Za3,Za4,Za5,Za6,Za7,Za9,Zba,Zbb,Zbd,Zbf,Zbh,Zbl,Zbt,Zbv,Zcn,Zcv,Zcx,Zc3,Zev,Zew,Zex,Zez,Ze0,Ze1,Ze2,Ze3,Ze5,Ze8,Zfc,Zfd,Zfe,Zfh,Zfi,Zfl,Zfn,Zfz,Zf0,Zf1,Zf3,Zga,Zgc,Zgh,Zgi,Zgr,Zgs,Zgt,Zgv,Zgw,Zgx,Zh6,Zh7,Zin,Zio,Zip,Ziu,Ziv,Ziw,Zi6,Zjh,Zji,Zj7,Zmt,Zmv,Zmw,Zmx,Zmy,Zmz,Zm0,Zm1,Zm3,Zm5,Zm6,Zna,Znb,Zos,Zot,Zo3,Zo4,Zo7,Zo8,Zo9,eq_self,true_and,and_true,fc_0,fc_17,fc_20,rb_1,fc_len,v16,zS_sc,sc_0,sc_2,sc_51,rd_35,rd_0,sp_0,sc_len,sc_ok,c1,c2,eqL_self,sk16,hw,c9]
      tactic =>
      refine endA ?_
      sym =>
      simp [Zpg,Zpw,Zp7,Zp9,Zqd,Zqe,eq_self,true_and,and_true,sc_rs]
      tactic =>
      all_goals rfl
  rw [if_neg c8] at hR
  subst hR
  obtain ⟨st, cd, src, su, tk, es, er, os, t, s, o, ⟨a, b, c⟩, ⟨a2, b2, c2⟩⟩ := x
  obtain ⟨fk, ft, fes, fer, fo, fn, fsu, fd, frs, fcc⟩ := f
  simp only [sn, fr] at c1 c2 c3 c4 c5 c6 c7 c8 ⊢
  subst c3; subst c4
  refine con_j b49 rfl ?_
  sym =>
  simp [Zaa,Zab,Zad,Zae,Zaf,Zag,Zai,Zak,Zal,Zam,Zan,Zaq,Zaz,Za0,Za1,Za2,Za3,Za4,Za5,Za6,Za7,Za9,Zba,Zbb,Zbd,Zbf,Zbh,Zbt,Zbv,Zcv,Zcx,Zc3,Zev,Zew,Zex,Zez,Ze0,Ze1,Ze2,Ze3,Ze5,Ze8,Zfc,Zfd,Zfe,Zfh,Zfi,Zfl,Zfn,Zfz,Zf0,Zf1,Zf3,Zga,Zgc,Zgr,Zgs,Zgt,Zgv,Zgw,Zgx,Zin,Zio,Zip,Ziu,Ziv,Ziw,Zi6,Zi7,Zjh,Zji,Zjn,Zj7,Zmt,Zmv,Zmw,Zmx,Zmy,Zmz,Zm0,Zm1,Zm3,Zm5,Zm6,Zna,Znb,Znn,Zno,Zos,Zot,Zo3,Zo7,Zo8,Zo9,eq_self,true_and,and_true,fc_0,fc_17,rb_1,fc_len,v16,zS_sc,sc_0,sc_51,rd_35,rd_0,ss_1,sp_0,sc_len,sc_ok,c1,c2,eqL_self,sk16,c5,c6,c7,c8]
  tactic =>
  refine endA ?_
  sym =>
  simp [Zpg,Zpw,Zp7,Zp9,Zqd,Zqe,eq_self,true_and,and_true,sc_rs]
  tactic =>
  all_goals rfl
end Go.Proofs.Ytbmdahhhgpbchaa.SnG
