import Derived.Test.YtbmdahhhgpbchaaSnD
namespace Go.Proofs.Ytbmdahhhgpbchaa.SnE
open Go Go.Sim Go.Sim.E Go.RowKit Go.Proofs Go.Proofs.Ytbmdahhhgpbchaa.Cod Go.Proofs.Ytbmdahhhgpbchaa.Tab Go.Proofs.Ytbmdahhhgpbchaa.Bse Go.Proofs.Ytbmdahhhgpbchaa.SpnP Go.Proofs.Ytbmdahhhgpbchaa.SwA Go.Proofs.Ytbmdahhhgpbchaa.SwB Go.Proofs.Ytbmdahhhgpbchaa.SwC Go.Proofs.Ytbmdahhhgpbchaa.SwS Go.Proofs.Ytbmdahhhgpbchaa.SwD Go.Proofs.Ytbmdahhhgpbchaa.SwF Go.Proofs.Ytbmdahhhgpbchaa.SwG Go.Proofs.Ytbmdahhhgpbchaa.SwL Go.Proofs.Ytbmdahhhgpbchaa.ObA Go.Proofs.Ytbmdahhhgpbchaa.ObB Go.Proofs.Ytbmdahhhgpbchaa.ObC Go.Proofs.Ytbmdahhhgpbchaa.SnA Go.Proofs.Ytbmdahhhgpbchaa.SnB Go.Proofs.Ytbmdahhhgpbchaa.SnC Go.Proofs.Ytbmdahhhgpbchaa.SnD
set_option linter.unusedVariables false
set_option linter.unusedSimpArgs false
set_option maxRecDepth 100000
set_option maxHeartbeats 4000000
theorem tick_con (x : Sn) (h : Inv x) : Con Try.prog 48 [] [.ag (sn x)] [] (.tu [.ag (sn (tcF x).1), fF (tcF x).2]) := by
  have f1 := fires_con x h 1
  have f5 := fires_con x h 5
  have hbt := btick_con x.os x.t x.s x.o x.T h.T
  have hpi := pieces_con {x with o := otF x.t x.s x.o x.T, T := (tkF x.T).1} ⟨h.src, h.os, h.t, h.s, otF_ok (s := x.s) h.o, h.T.tick, h.T2⟩
  unfold tcF
  by_cases h1 : x.st = 1
  · rw [if_pos h1]
    generalize fiF x 1 = R at *
    obtain ⟨⟨st', cd', src', su', tk', es', er', os', t', s', o', ⟨a', b', c'⟩, ⟨a2', b2', c2'⟩⟩, fs⟩ := R
    obtain ⟨st, cd, src, su, tk, es, er, os, t, s, o, ⟨a, b, c⟩, ⟨a2, b2, c2⟩⟩ := x
    simp only [sn] at f1 h1 ⊢
    subst h1
    refine con_j b48 rfl ?_
    sym =>
    simp [Zab,Zad,Zae,Zaf,Zag,Zal,Zam,Zaz,Za0,Za1,Za2,Za3,Za4,Za5,Za9,Zba,Zbb,Zbf,Zbt,Zbv,Zcv,Zcx,Zdc,Zdd,Zde,Zev,Zew,Zez,Ze0,Ze2,Ze3,Ze5,Ze8,Zfc,Zfd,Zfe,Zfh,Zfn,Zfz,Zgr,Zgs,Zgt,Zgv,Zgw,Zgx,Zin,Zio,Zip,Zi6,Zla,Zlb,Zle,Zlf,Zlh,Zlj,Zlm,Zm5,Zm6,Zna,Znb,Zne,Znf,Zng,Zos,Zot,Zo7,Zo8,eq_self,true_and,and_true,zS_sc,sc_0,rd_0,sc_len,fz_sc,scF1,callable_86]
    tactic =>
    refine cl none (f1) trivial ?_
    sym =>
    simp [Zak,Zam,Zao,Zar,Zaz,Za0,Za1,Za2,Za3,Za4,Za5,Za9,Zba,Zbb,Zb7,Zc3,Zdi,Zev,Zez,Ze0,Ze1,Ze2,Ze3,Ze5,Zfc,Zfd,Zfe,Zfh,Zhb,Zhc,Ziu,Ziv,Ziw,Zi6,Zjh,Zji,Zj7,Zky,Zk0,Zk1,Zlz,Zl2,Zmt,Zmv,Zmw,Zmx,Zmy,Zmz,Zm0,Zm1,Zm3,Zm5,Zm9,Zna,Znb,Zo7,eq_self,true_and,and_true,rd_0,sp_0,sc_len,sc_ok,flL_sc]
    tactic =>
    refine endA ?_
    sym =>
    simp [Zpg,Zph,Zp7,Zp9,Zqd,Zqe,eq_self,and_true,sc_rs]
  rw [if_neg h1]
  by_cases h2 : x.st = 2
  · rw [if_pos h2]
    generalize piF {x with o := otF x.t x.s x.o x.T, T := (tkF x.T).1} = R at *
    obtain ⟨⟨st', cd', src', su', tk', es', er', os', t', s', o', ⟨a', b', c'⟩, ⟨a2', b2', c2'⟩⟩, fs⟩ := R
    obtain ⟨st, cd, src, su, tk, es, er, os, t, s, o, ⟨a, b, c⟩, ⟨a2, b2, c2⟩⟩ := x
    simp only [sn] at hbt hpi h1 h2 ⊢
    subst h2
    refine con_j b48 rfl ?_
    sym =>
    simp [Zab,Zad,Zae,Zaf,Zag,Zal,Zam,Zaz,Za0,Za1,Za2,Za3,Za4,Za5,Za9,Zba,Zbb,Zbf,Zbt,Zbv,Zcv,Zcx,Zdc,Zdd,Zde,Zev,Zew,Zez,Ze0,Ze2,Ze3,Ze5,Ze8,Zfc,Zfd,Zfe,Zfh,Zfn,Zfz,Zgr,Zgs,Zgt,Zgv,Zgw,Zgx,Zin,Zio,Zip,Zi6,Zla,Zlb,Zlc,Zld,Zle,Zlf,Zlh,Zlk,Zlm,Zm5,Zm6,Zm7,Zna,Znb,Zne,Znf,Zng,Zos,Zot,Zo7,Zo8,Zo9,eq_self,true_and,and_true,zS_sc,sc_0,sc_53,sc_54,sc_55,sc_56,sc_57,sc_58,sc_59,sc_len,callable_35]
    tactic =>
    refine cl none (hbt) trivial ?_
    sym =>
    simp [Zab,Zad,Zam,Zaz,Za0,Za1,Za2,Za3,Za4,Za5,Za9,Zba,Zbb,Zbt,Zbv,Zb7,Zc3,Zdc,Zdd,Zde,Zdi,Zev,Zew,Zez,Ze0,Ze1,Ze2,Ze3,Ze5,Ze8,Zfc,Zfd,Zfe,Zfh,Zgr,Zgs,Zgt,Zgv,Zgw,Zgx,Zhb,Zhc,Ziu,Ziv,Ziw,Zi6,Zjh,Zji,Zjn,Zjs,Zj7,Zka,Zkx,Zky,Zk0,Zk1,Zla,Zlb,Zle,Zlf,Zlh,Zlm,Zlz,Zl2,Zm5,Zm9,Zna,Znb,Zne,Znf,Zng,Znn,Zno,Zo7,eq_self,true_and,and_true,rd_0,ss_53,ss_54,ss_55,ss_56,ss_57,ss_58,ss_59,sc_len,fz_sc,scF1,callable_87]
    tactic =>
    refine cl none (hpi) trivial ?_
    sym =>
    simp [Zak,Zam,Zao,Zar,Zaz,Za0,Za1,Za2,Za3,Za4,Za5,Za9,Zba,Zbb,Zb7,Zc3,Zdi,Zev,Zez,Ze0,Ze1,Ze2,Ze3,Ze5,Zfc,Zfd,Zfe,Zfh,Zhb,Zhc,Ziu,Ziv,Ziw,Zi6,Zjh,Zji,Zj7,Zky,Zk0,Zk1,Zlz,Zl2,Zmt,Zmv,Zmw,Zmx,Zmy,Zmz,Zm0,Zm1,Zm3,Zm5,Zm9,Zna,Znb,Zo7,eq_self,true_and,and_true,rd_0,sp_0,sc_len,sc_ok,flL_sc]
    tactic =>
    refine endA ?_
    sym =>
    simp [Zpg,Zph,Zp7,Zp9,Zqd,Zqe,eq_self,and_true,sc_rs]
  rw [if_neg h2]
  by_cases h3 : x.st = 3
  · rw [if_pos h3]
    generalize fiF x 5 = R at *
    obtain ⟨⟨st', cd', src', su', tk', es', er', os', t', s', o', ⟨a', b', c'⟩, ⟨a2', b2', c2'⟩⟩, fs⟩ := R
    obtain ⟨st, cd, src, su, tk, es, er, os, t, s, o, ⟨a, b, c⟩, ⟨a2, b2, c2⟩⟩ := x
    simp only [sn] at f5 h3 ⊢
    subst h3
    refine con_j b48 rfl ?_
    sym =>
    simp [Zab,Zad,Zae,Zaf,Zag,Zal,Zam,Zaz,Za0,Za1,Za2,Za3,Za4,Za5,Za9,Zba,Zbb,Zbf,Zbt,Zbv,Zcv,Zcx,Zdc,Zdd,Zde,Zev,Zew,Zez,Ze0,Ze2,Ze3,Ze5,Ze8,Zfc,Zfd,Zfe,Zfh,Zfn,Zfz,Zgr,Zgs,Zgt,Zgv,Zgw,Zgx,Zin,Zio,Zip,Zi6,Zla,Zlb,Zle,Zlf,Zlh,Zlj,Zlm,Zm5,Zm6,Zna,Znb,Zne,Znf,Zng,Zos,Zot,Zo7,Zo8,Zo9,eq_self,true_and,and_true,zS_sc,sc_0,rd_0,sc_len,fz_sc,scF1,callable_86]
    tactic =>
    refine cl none (f5) trivial ?_
    sym =>
    simp [Zak,Zam,Zao,Zar,Zaz,Za0,Za1,Za2,Za3,Za4,Za5,Za9,Zba,Zbb,Zb7,Zc3,Zdi,Zev,Zez,Ze0,Ze1,Ze2,Ze3,Ze5,Zfc,Zfd,Zfe,Zfh,Zhb,Zhc,Ziu,Ziv,Ziw,Zi6,Zjh,Zji,Zj7,Zky,Zk0,Zk1,Zlz,Zl2,Zmt,Zmv,Zmw,Zmx,Zmy,Zmz,Zm0,Zm1,Zm3,Zm5,Zm9,Zna,Znb,Zo7,eq_self,true_and,and_true,rd_0,sp_0,sc_len,sc_ok,flL_sc]
    tactic =>
    refine endA ?_
    sym =>
    simp [Zpg,Zph,Zp7,Zp9,Zqd,Zqe,eq_self,and_true,sc_rs]
  rw [if_neg h3]
  obtain ⟨st, cd, src, su, tk, es, er, os, t, s, o, ⟨a, b, c⟩, ⟨a2, b2, c2⟩⟩ := x
  simp only [sn] at h1 h2 h3 ⊢
  refine con_j b48 rfl ?_
  sym =>
  simp [Zaa,Zab,Zad,Zae,Zaf,Zag,Zak,Zal,Zam,Zap,Zaz,Za0,Za1,Za2,Za3,Za4,Za5,Za9,Zba,Zbb,Zbf,Zbt,Zbv,Zcv,Zcx,Zc3,Zev,Zew,Zez,Ze0,Ze1,Ze2,Ze3,Ze5,Ze8,Zfc,Zfd,Zfe,Zfh,Zfn,Zfz,Zgr,Zgs,Zgt,Zgv,Zgw,Zgx,Zin,Zio,Zip,Ziu,Ziv,Ziw,Zi6,Zjh,Zji,Zj7,Zmt,Zmv,Zmw,Zmx,Zmy,Zmz,Zm0,Zm1,Zm3,Zm5,Zm6,Zna,Znb,Zos,Zot,Zo7,Zo9,eq_self,true_and,and_true,zS_sc,sc_0,rd_0,sp_0,sc_len,sc_ok,h1,h2,h3]
  tactic =>
  refine endA ?_
  sym =>
  simp [Zpg,Zpw,Zp7,Zp9,Zqd,Zqe,eq_self,true_and,and_true,sc_rs]
  tactic =>
  rfl
theorem on_con (x : Sn) (h : Inv x) : Con Try.prog 121 [] [.ag (sn x)] [] (.tu [.ag (sn (onF x).1), fF (onF x).2]) := by
  have hs := h.src
  have hb := h.bd
  have ls := h.s.len (by omega)
  have hdn := bdone_con x.os x.t x.s x.o x.T (by omega)
  have hpi := pieces_con x h
  have hwh := whole_con {x with st := 3, T2 := oneT} 5 (by show x.src.length ≤ 100000; omega)
  have e : whF {x with st := 3, T2 := oneT} 5 = whF x 5 := rfl
  rw [e] at hwh
  unfold onF
  by_cases h0 : lfF x.t x.s = 0
  · rw [if_pos h0]
    rw [decide_eq_true h0] at hdn
    obtain ⟨st, cd, src, su, tk, es, er, os, t, s, o, ⟨a, b, c⟩, ⟨a2, b2, c2⟩⟩ := x
    unfold oneT at hwh ⊢
    simp only [sn] at hdn hwh ⊢
    refine con_j b121 rfl ?_
    sym =>
    simp [Zab,Zad,Zam,Zaz,Za0,Za1,Za2,Za3,Za4,Za5,Za9,Zba,Zbb,Zbt,Zbv,Zcv,Zcx,Zdc,Zdd,Zde,Zev,Zew,Zez,Ze0,Ze2,Ze3,Ze5,Ze8,Zfc,Zfd,Zfe,Zfh,Zgr,Zgs,Zgt,Zgv,Zgw,Zgx,Zin,Zio,Zip,Zi6,Zla,Zlb,Zlc,Zld,Zle,Zlf,Zlh,Zlk,Zlm,Zm5,Zm7,Zna,Znb,Zne,Znf,Zng,Zos,Zot,Zo7,eq_self,true_and,and_true,zS_sc,sc_53,sc_54,sc_55,sc_56,sc_57,sc_58,sc_59,sc_len,callable_36]
    tactic =>
    refine cl none (hdn) trivial ?_
    sym =>
    simp [Zaa,Zab,Zad,Zae,Zaf,Zal,Zam,Zaz,Za0,Za1,Za2,Za3,Za4,Za5,Za9,Zba,Zbj,Zbv,Zc3,Zdc,Zdd,Zde,Zdi,Zev,Zew,Zez,Ze0,Ze1,Ze2,Ze3,Ze5,Zfc,Zfd,Zfe,Zgd,Zgg,Zgv,Zgw,Zgx,Ziu,Ziv,Ziw,Zi7,Zjh,Zji,Zjn,Zjw,Zla,Zlb,Zle,Zlj,Zlz,Zna,Znb,Zne,Znf,Zng,Znn,Zno,Zo3,Zo7,eq_self,true_and,and_true,ss_0,sc_len,callable_67]
    tactic =>
    refine cl none (start_con) trivial ?_
    unfold oneT
    sym =>
    simp [Zac,Zad,Zam,Zaz,Za0,Za1,Za2,Za3,Za4,Za5,Za9,Zba,Zbb,Zbu,Zbv,Zb7,Zc3,Zc7,Zc8,Zdf,Zdg,Zdh,Zdi,Zdp,Zdt,Zdu,Zdv,Zdw,Zdx,Zdy,Zdz,Zd0,Zd1,Zd2,Zec,Zek,Zen,Zeq,Zet,Zev,Zew,Zez,Ze0,Ze1,Ze2,Ze3,Ze5,Ze8,Zfc,Zfd,Zfe,Zfh,Zgr,Zgs,Zgt,Zgv,Zgw,Zgx,Zhb,Zhc,Ziu,Ziv,Ziw,Zi6,Zjh,Zji,Zjn,Zjq,Zjs,Zjv,Zkw,Zkx,Zky,Zkz,Zk0,Zk1,Zk2,Zla,Zlb,Zle,Zlf,Zlh,Zlj,Zlm,Zlz,Zm5,Zm9,Zna,Znb,Zne,Znf,Zng,Znn,Zno,Zof,Zog,Zo7,eq_self,true_and,and_true,rd_0,ss_60,ss_61,ss_62,sc_len,sc_id,fz_sc,scF1,callable_119]
    tactic =>
    refine cl none (hwh) trivial ?_
    sym =>
    simp [Zak,Zam,Zaz,Za0,Za1,Za2,Za3,Zbc,Zc4,Zc7,Zc8,Zc9,Zdj,Zdk,Zdm,Zdo,Zdp,Zdt,Zdu,Zdv,Zdw,Zdx,Zdy,Zdz,Zd0,Zd1,Zeb,Zec,Zek,Zen,Zev,Zez,Ze0,Ze1,Ze2,Ze3,Ze5,Zfc,Zfd,Zfe,Zfh,Ziu,Ziv,Ziw,Zi6,Zjh,Zji,Zj7,Zkb,Zlz,Zl2,Zmt,Zmv,Zmw,Zmx,Zmy,Zmz,Zm0,Zm1,Zm3,Zm5,Zna,Znb,Zne,Zo7,eq_self,true_and,and_true,rd_0,sp_0,sc_len,sc_ok,sc_id]
    tactic =>
    refine endA ?_
    sym =>
    simp [Zpg,Zph,Zp7,Zp9,Zqd,Zqe,eq_self,and_true,sc_rs]
  · rw [if_neg h0]
    rw [decide_eq_false h0] at hdn
    generalize piF x = R at *
    obtain ⟨⟨st', cd', src', su', tk', es', er', os', t', s', o', ⟨a', b', c'⟩, ⟨a2', b2', c2'⟩⟩, fs⟩ := R
    obtain ⟨st, cd, src, su, tk, es, er, os, t, s, o, ⟨a, b, c⟩, ⟨a2, b2, c2⟩⟩ := x
    simp only [sn] at hdn hpi ⊢
    refine con_j b121 rfl ?_
    sym =>
    simp [Zab,Zad,Zam,Zaz,Za0,Za1,Za2,Za3,Za4,Za5,Za9,Zba,Zbb,Zbt,Zbv,Zcv,Zcx,Zdc,Zdd,Zde,Zev,Zew,Zez,Ze0,Ze2,Ze3,Ze5,Ze8,Zfc,Zfd,Zfe,Zfh,Zgr,Zgs,Zgt,Zgv,Zgw,Zgx,Zin,Zio,Zip,Zi6,Zla,Zlb,Zlc,Zld,Zle,Zlf,Zlh,Zlk,Zlm,Zm5,Zm7,Zna,Znb,Zne,Znf,Zng,Zos,Zot,Zo7,eq_self,true_and,and_true,zS_sc,sc_53,sc_54,sc_55,sc_56,sc_57,sc_58,sc_59,sc_len,callable_36]
    tactic =>
    refine cl none (hdn) trivial ?_
    sym =>
    simp [Zab,Zad,Zae,Zaf,Zal,Zam,Zaz,Za0,Za1,Za2,Za3,Za4,Za5,Za9,Zba,Zbj,Zbt,Zdc,Zdd,Zde,Zdi,Zev,Zew,Zez,Ze0,Ze2,Ze5,Ze8,Zfc,Zfd,Zfe,Zgd,Zgg,Zgr,Zgs,Zgt,Zjw,Zla,Zlb,Zle,Zlf,Zlh,Zlm,Zlz,Zm5,Zna,Znb,Zne,Znf,Zng,Zo4,Zo7,eq_self,true_and,and_true,rd_0,sc_len,fz_sc,scF1,callable_87]
    tactic =>
    refine cl none (hpi) trivial ?_
    sym =>
    simp [Zak,Zam,Zao,Zaz,Za0,Za1,Za2,Za3,Za4,Za5,Za9,Zba,Zbb,Zb7,Zc3,Zdi,Zev,Zez,Ze0,Ze1,Ze2,Ze3,Ze5,Zfc,Zfd,Zfe,Zfh,Zhb,Zhc,Ziu,Ziv,Ziw,Zi6,Zjh,Zji,Zj7,Zky,Zk0,Zk1,Zlz,Zl2,Zmt,Zmv,Zmw,Zmx,Zmy,Zmz,Zm0,Zm1,Zm3,Zm5,Zm9,Zna,Znb,Zo7,eq_self,true_and,and_true,rd_0,sp_0,sc_len,sc_ok,flL_sc]
    tactic =>
    refine endA ?_
    sym =>
    simp [Zpg,Zph,Zp7,Zp9,Zqd,Zqe,eq_self,and_true,sc_rs]
end Go.Proofs.Ytbmdahhhgpbchaa.SnE
