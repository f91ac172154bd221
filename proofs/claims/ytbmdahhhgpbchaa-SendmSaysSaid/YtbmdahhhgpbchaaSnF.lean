import Derived.Test.YtbmdahhhgpbchaaSnE
namespace Go.Proofs.Ytbmdahhhgpbchaa.SnF
open Go Go.Sim Go.Sim.E Go.RowKit Go.Proofs Go.Proofs.Ytbmdahhhgpbchaa.Cod Go.Proofs.Ytbmdahhhgpbchaa.Tab Go.Proofs.Ytbmdahhhgpbchaa.Bse Go.Proofs.Ytbmdahhhgpbchaa.SpnP Go.Proofs.Ytbmdahhhgpbchaa.SwA Go.Proofs.Ytbmdahhhgpbchaa.SwB Go.Proofs.Ytbmdahhhgpbchaa.SwC Go.Proofs.Ytbmdahhhgpbchaa.SwS Go.Proofs.Ytbmdahhhgpbchaa.SwD Go.Proofs.Ytbmdahhhgpbchaa.SwF Go.Proofs.Ytbmdahhhgpbchaa.SwG Go.Proofs.Ytbmdahhhgpbchaa.SwL Go.Proofs.Ytbmdahhhgpbchaa.ObA Go.Proofs.Ytbmdahhhgpbchaa.ObB Go.Proofs.Ytbmdahhhgpbchaa.ObC Go.Proofs.Ytbmdahhhgpbchaa.SnA Go.Proofs.Ytbmdahhhgpbchaa.SnB Go.Proofs.Ytbmdahhhgpbchaa.SnC Go.Proofs.Ytbmdahhhgpbchaa.SnD Go.Proofs.Ytbmdahhhgpbchaa.SnE
set_option linter.unusedVariables false
set_option linter.unusedSimpArgs false
set_option maxRecDepth 100000
set_option maxHeartbeats 4000000
theorem resume_con (x : Sn) (h : Inv x) (f : Fm) : Con Try.prog 88 [] [.ag (sn x), .ag (fr f)] [] (.tu [.ag (sn (rsF x f).1), fF (rsF x f).2]) := by
  have hs := h.src
  obtain ⟨R, hR⟩ : ∃ R, R = rsF x f := ⟨_, rfl⟩
  rw [← hR]
  unfold rsF at hR
  by_cases c1 : x.er < f.er ∨ (x.st = 1 ∧ f.er = x.er)
  · rw [if_neg (fun hn => hn c1)] at hR
    by_cases c2 : 4611686018427387904 < f.o
    · rw [if_pos c2] at hR
      subst hR
      obtain ⟨st, cd, src, su, tk, es, er, os, t, s, o, ⟨a, b, c⟩, ⟨a2, b2, c2⟩⟩ := x
      obtain ⟨fk, ft, fes, fer, fo, fn, fsu, fd, frs, fcc⟩ := f
      simp only [sn, fr] at c1 c2 ⊢
      refine con_j b88 rfl ?_
      by_cases c3 : er < fer
      · sym =>
        simp [Zab,Zad,Zae,Zaf,Zak,Zal,Zam,Zao,Zaz,Za0,Za1,Za2,Za3,Za4,Za5,Za6,Za7,Zrh,Za8,Za9,Zba,Zbb,Zbd,Zbf,Zbj,Zbt,Zbv,Zcv,Zcx,Zc3,Zev,Zew,Zex,Zez,Ze0,Ze1,Ze2,Ze3,Ze5,Ze8,Zfc,Zfd,Zfe,Zfh,Zfi,Zfj,Zfl,Zfn,Zf3,Zgd,Zgg,Zgr,Zgs,Zgt,Zgv,Zgw,Zgx,Zin,Zio,Zip,Ziu,Ziv,Ziw,Zi6,Zjh,Zji,Zj7,Zmt,Zmv,Zmw,Zmx,Zmy,Zmz,Zm0,Zm1,Zm3,Zm5,Zm6,Zna,Znb,Zos,Zot,Zo3,Zo6,Zo7,Zo8,eq_self,true_and,and_true,fc_18,fc_19,fc_len,zS_sc,sc_52,rd_0,sp_0,sc_len,sc_ok,c2,c3]
        tactic =>
        refine endA ?_
        sym =>
        simp [Zpg,Zpw,Zp7,Zp9,Zqd,Zqe,eq_self,true_and,and_true,sc_rs]
        tactic =>
        all_goals rfl
      · obtain ⟨c4, c5⟩ := c1.resolve_left c3
        subst c4; subst c5
        sym =>
        simp [Zab,Zad,Zae,Zaf,Zak,Zal,Zam,Zao,Zaz,Za0,Za1,Za2,Za3,Za4,Za5,Za6,Za7,Za9,Zba,Zbb,Zbd,Zbf,Zbj,Zbt,Zbv,Zcv,Zcx,Zc3,Zev,Zew,Zex,Zez,Ze0,Ze1,Ze2,Ze3,Ze5,Ze8,Zfc,Zfd,Zfe,Zfh,Zfi,Zfl,Zfn,Zfz,Zf3,Zgd,Zgg,Zgr,Zgs,Zgt,Zgv,Zgw,Zgx,Zin,Zio,Zip,Ziu,Ziv,Ziw,Zi6,Zjh,Zji,Zj7,Zmt,Zmv,Zmw,Zmx,Zmy,Zmz,Zm0,Zm1,Zm3,Zm5,Zm6,Zna,Znb,Zos,Zot,Zo3,Zo7,Zo8,Zo9,eq_self,true_and,and_true,fc_18,fc_19,fc_len,zS_sc,sc_0,sc_52,rd_0,sp_0,sc_len,sc_ok,c2,c3]
        tactic =>
        refine endA ?_
        sym =>
        simp [Zpg,Zpw,Zp7,Zp9,Zqd,Zqe,eq_self,true_and,and_true,sc_rs]
        tactic =>
        all_goals rfl
    · rw [if_neg c2] at hR
      by_cases c3 : plF (IN x.src.length) (IntKind.i64.wrap f.o) = false
      · rw [if_pos c3] at hR
        subst hR
        have hno := bnew_no x.src _ c3
        obtain ⟨st, cd, src, su, tk, es, er, os, t, s, o, ⟨a, b, c⟩, ⟨a2, b2, c2⟩⟩ := x
        obtain ⟨fk, ft, fes, fer, fo, fn, fsu, fd, frs, fcc⟩ := f
        simp only [sn, fr, offT] at c1 c2 hno ⊢
        refine con_j b88 rfl ?_
        by_cases c4 : er < fer
        · sym =>
          simp [Zaa,Zab,Zad,Zae,Zaf,Zal,Zam,Zaz,Za0,Za1,Za2,Za3,Za4,Za5,Za6,Za7,Zrh,Za8,Za9,Zba,Zbb,Zbd,Zbf,Zbj,Zbl,Zbt,Zbv,Zcv,Zcx,Zdc,Zdd,Zde,Zev,Zew,Zex,Zez,Ze0,Ze2,Ze3,Ze5,Ze8,Zfc,Zfd,Zfe,Zfh,Zfi,Zfj,Zfl,Zfn,Zf3,Zgd,Zgg,Zgh,Zgi,Zgr,Zgs,Zgt,Zgv,Zgw,Zgx,Zin,Zio,Zip,Zi6,Zla,Zlb,Zle,Zlj,Zll,Zm6,Zna,Znb,Zne,Znf,Zng,Zos,Zot,Zo3,Zo6,Zo7,Zo8,Zo9,eq_self,true_and,and_true,fc_18,fc_19,fc_len,zS_sc,sc_2,sc_52,sc_len,c2,c4,callable_31]
          tactic =>
          refine cl none (hno) trivial ?_
          sym =>
          simp [Zab,Zad,Zae,Zaf,Zak,Zal,Zam,Zao,Zaz,Za0,Za1,Za2,Za3,Za4,Za5,Za9,Zba,Zbb,Zbf,Zbt,Zb7,Zcv,Zc3,Zdi,Zev,Zew,Zez,Ze0,Ze1,Ze2,Ze3,Ze5,Ze8,Zfc,Zfd,Zfe,Zfh,Zfn,Zf0,Zgr,Zgs,Zgt,Zhb,Zhc,Zin,Ziu,Ziv,Ziw,Zi6,Zjh,Zji,Zjn,Zjs,Zj7,Zka,Zkx,Zky,Zk0,Zk1,Zlz,Zl2,Zmt,Zmv,Zmw,Zmx,Zmy,Zmz,Zm0,Zm1,Zm3,Zm5,Zm9,Zna,Znb,Znn,Zno,Znp,Zof,Zog,Zo4,Zo7,Zo9,eq_self,true_and,and_true,rd_0,sp_0,sc_len,sc_ok]
          tactic =>
          refine endA ?_
          sym =>
          simp [Zpg,Zpw,Zp7,Zp9,Zqd,Zqe,eq_self,true_and,and_true,sc_rs]
          tactic =>
          all_goals rfl
        · obtain ⟨c5, c6⟩ := c1.resolve_left c4
          subst c5; subst c6
          sym =>
          simp [Zaa,Zab,Zad,Zae,Zaf,Zal,Zam,Zaz,Za0,Za1,Za2,Za3,Za4,Za5,Za6,Za7,Za9,Zba,Zbb,Zbd,Zbf,Zbj,Zbl,Zbt,Zbv,Zcv,Zcx,Zdc,Zdd,Zde,Zev,Zew,Zex,Zez,Ze0,Ze2,Ze3,Ze5,Ze8,Zfc,Zfd,Zfe,Zfh,Zfi,Zfl,Zfn,Zfz,Zf3,Zgd,Zgg,Zgh,Zgi,Zgr,Zgs,Zgt,Zgv,Zgw,Zgx,Zin,Zio,Zip,Zi6,Zla,Zlb,Zle,Zlj,Zll,Zm6,Zna,Znb,Zne,Znf,Zng,Zos,Zot,Zo3,Zo7,Zo8,Zo9,eq_self,true_and,and_true,fc_18,fc_19,fc_len,zS_sc,sc_0,sc_2,sc_52,sc_len,c2,c4,callable_31]
          tactic =>
          refine cl none (hno) trivial ?_
          sym =>
          simp [Zab,Zad,Zae,Zaf,Zak,Zal,Zam,Zao,Zaz,Za0,Za1,Za2,Za3,Za4,Za5,Za9,Zba,Zbb,Zbf,Zbt,Zb7,Zcv,Zc3,Zdi,Zev,Zew,Zez,Ze0,Ze1,Ze2,Ze3,Ze5,Ze8,Zfc,Zfd,Zfe,Zfh,Zfn,Zf0,Zgr,Zgs,Zgt,Zhb,Zhc,Zin,Ziu,Ziv,Ziw,Zi6,Zjh,Zji,Zjn,Zjs,Zj7,Zka,Zkx,Zky,Zk0,Zk1,Zlz,Zl2,Zmt,Zmv,Zmw,Zmx,Zmy,Zmz,Zm0,Zm1,Zm3,Zm5,Zm9,Zna,Znb,Znn,Zno,Znp,Zof,Zog,Zo4,Zo7,Zo9,eq_self,true_and,and_true,rd_0,sp_0,sc_len,sc_ok]
          tactic =>
          refine endA ?_
          sym =>
          simp [Zpg,Zpw,Zp7,Zp9,Zqd,Zqe,eq_self,true_and,and_true,sc_rs]
          tactic =>
          all_goals rfl
      · rw [if_neg c3] at hR
        have c3 : plF (IN x.src.length) (IntKind.i64.wrap f.o) = true := by simpa using c3
        have hnew := bnew_con x.src _ (by omega) c3
        have hbd : 0 ≤ IN x.src.length ∧ IN x.src.length ≤ 1099511627776 := by simp only [IN]; omega
        have hon := on_con {x with os := x.src, t := IN x.src.length, s := addS [] 0 (IntKind.i64.wrap f.o), o := [], T := tmF (IN x.src.length) (addS [] 0 (IntKind.i64.wrap f.o)) oneT, er := f.er, st := 2}
          ⟨h.src, h.src, rfl, ((Ok.nil (IN x.src.length)).add hbd 0 _ ((plF_iff _ _).1 c3).2.1).1, Ok.nil _, TOk.timed TOk.one, h.T2⟩
        rw [← hR] at hon
        generalize tmF (IN x.src.length) (addS [] 0 (IntKind.i64.wrap f.o)) oneT = Tn at *
        generalize addS [] 0 (IntKind.i64.wrap f.o) = sn' at *
        clear hR
        obtain ⟨⟨st', cd', src', su', tk', es', er', os', t', s', o', ⟨a', b', c'⟩, ⟨a2', b2', c2'⟩⟩, fs⟩ := R
        obtain ⟨st, cd, src, su, tk, es, er, os, t, s, o, ⟨a, b, c⟩, ⟨a2, b2, c2⟩⟩ := x
        obtain ⟨fk, ft, fes, fer, fo, fn, fsu, fd, frs, fcc⟩ := f
        simp only [sn, fr] at c1 c2 hnew hon ⊢
        refine con_j b88 rfl ?_
        by_cases c4 : er < fer
        · sym =>
          simp [Zaa,Zab,Zad,Zae,Zaf,Zal,Zam,Zaz,Za0,Za1,Za2,Za3,Za4,Za5,Za6,Za7,Zrh,Za8,Za9,Zba,Zbb,Zbd,Zbf,Zbj,Zbl,Zbt,Zbv,Zcv,Zcx,Zdc,Zdd,Zde,Zev,Zew,Zex,Zez,Ze0,Ze2,Ze3,Ze5,Ze8,Zfc,Zfd,Zfe,Zfh,Zfi,Zfj,Zfl,Zfn,Zf3,Zgd,Zgg,Zgh,Zgi,Zgr,Zgs,Zgt,Zgv,Zgw,Zgx,Zin,Zio,Zip,Zi6,Zla,Zlb,Zle,Zlj,Zll,Zm6,Zna,Znb,Zne,Znf,Zng,Zos,Zot,Zo3,Zo6,Zo7,Zo8,Zo9,eq_self,true_and,and_true,fc_18,fc_19,fc_len,zS_sc,sc_2,sc_52,sc_len,c2,c4,callable_31]
          tactic =>
          refine cl none (hnew) trivial ?_
          sym =>
          simp [Zaa,Zab,Zac,Zad,Zae,Zaf,Zal,Zam,Zaz,Za0,Za1,Za2,Za3,Za4,Za5,Za9,Zba,Zbb,Zbf,Zbt,Zbu,Zbw,Zb7,Zcv,Zc3,Zc4,Zc7,Zc8,Zc9,Zdc,Zdd,Zde,Zdi,Zdo,Zdp,Zdt,Zdu,Zdv,Zdw,Zdx,Zdy,Zdz,Zd0,Zd1,Zd2,Zd3,Zec,Zek,Zen,Zer,Zes,Zev,Zew,Zez,Ze0,Ze1,Ze2,Ze3,Ze5,Ze8,Zfc,Zfd,Zfe,Zfh,Zfn,Zf0,Zgr,Zgs,Zgt,Zgv,Zgw,Zgx,Zhb,Zhc,Zin,Ziu,Ziv,Ziw,Zi6,Zi7,Zjh,Zji,Zjn,Zjs,Zj7,Zka,Zkx,Zky,Zk0,Zk1,Zla,Zlb,Zle,Zlf,Zlh,Zlm,Zlz,Zl2,Zm5,Zm6,Zm7,Zm9,Zna,Znb,Zne,Znf,Zng,Znn,Zno,Znp,Zo3,Zo7,Zo8,eq_self,true_and,and_true,fc_18,fc_len,rd_0,ss_0,ss_52,ss_53,ss_54,ss_55,ss_56,ss_57,ss_58,ss_59,sc_len,fz_sc,scF1,callable_121]
          tactic =>
          refine cl none (hon) trivial ?_
          sym =>
          simp [Zak,Zam,Zaz,Za0,Za1,Za2,Za3,Za4,Za5,Za9,Zba,Zbb,Zb7,Zc3,Zdi,Zev,Zez,Ze0,Ze1,Ze2,Ze3,Ze5,Zfc,Zfd,Zfe,Zfh,Zhb,Zhc,Ziu,Ziv,Ziw,Zi6,Zjh,Zji,Zj7,Zky,Zk0,Zk1,Zlz,Zl2,Zmt,Zmv,Zmw,Zmx,Zmy,Zmz,Zm0,Zm1,Zm3,Zm5,Zm9,Zna,Znb,Zo7,eq_self,true_and,and_true,rd_0,sp_0,sc_len,sc_ok,flL_sc]
          tactic =>
          refine endA ?_
          sym =>
          simp [Zpg,Zph,Zp7,Zp9,Zqd,Zqe,eq_self,and_true,sc_rs]
        · obtain ⟨c5, c6⟩ := c1.resolve_left c4
          subst c5; subst c6
          sym =>
          simp [Zaa,Zab,Zad,Zae,Zaf,Zal,Zam,Zaz,Za0,Za1,Za2,Za3,Za4,Za5,Za6,Za7,Za9,Zba,Zbb,Zbd,Zbf,Zbj,Zbl,Zbt,Zbv,Zcv,Zcx,Zdc,Zdd,Zde,Zev,Zew,Zex,Zez,Ze0,Ze2,Ze3,Ze5,Ze8,Zfc,Zfd,Zfe,Zfh,Zfi,Zfl,Zfn,Zfz,Zf3,Zgd,Zgg,Zgh,Zgi,Zgr,Zgs,Zgt,Zgv,Zgw,Zgx,Zin,Zio,Zip,Zi6,Zla,Zlb,Zle,Zlj,Zll,Zm6,Zna,Znb,Zne,Znf,Zng,Zos,Zot,Zo3,Zo7,Zo8,Zo9,eq_self,true_and,and_true,fc_18,fc_19,fc_len,zS_sc,sc_0,sc_2,sc_52,sc_len,c2,c4,callable_31]
          tactic =>
          refine cl none (hnew) trivial ?_
          sym =>
          simp [Zaa,Zab,Zac,Zad,Zae,Zaf,Zal,Zam,Zaz,Za0,Za1,Za2,Za3,Za4,Za5,Za9,Zba,Zbb,Zbf,Zbt,Zbu,Zbw,Zb7,Zcv,Zc3,Zc4,Zc7,Zc8,Zc9,Zdc,Zdd,Zde,Zdi,Zdo,Zdp,Zdt,Zdu,Zdv,Zdw,Zdx,Zdy,Zdz,Zd0,Zd1,Zd2,Zd3,Zec,Zek,Zen,Zer,Zes,Zev,Zew,Zez,Ze0,Ze1,Ze2,Ze3,Ze5,Ze8,Zfc,Zfd,Zfe,Zfh,Zfn,Zf0,Zgr,Zgs,Zgt,Zgv,Zgw,Zgx,Zhb,Zhc,Zin,Ziu,Ziv,Ziw,Zi6,Zi7,Zjh,Zji,Zjn,Zjs,Zj7,Zka,Zkx,Zky,Zk0,Zk1,Zla,Zlb,Zle,Zlf,Zlh,Zlm,Zlz,Zl2,Zm5,Zm6,Zm7,Zm9,Zna,Znb,Zne,Znf,Zng,Znn,Zno,Znp,Zo3,Zo7,Zo8,eq_self,true_and,and_true,fc_18,fc_len,rd_0,ss_0,ss_52,ss_53,ss_54,ss_55,ss_56,ss_57,ss_58,ss_59,sc_len,fz_sc,scF1,callable_121]
          tactic =>
          refine cl none (hon) trivial ?_
          sym =>
          simp [Zak,Zam,Zaz,Za0,Za1,Za2,Za3,Za4,Za5,Za9,Zba,Zbb,Zb7,Zc3,Zdi,Zev,Zez,Ze0,Ze1,Ze2,Ze3,Ze5,Zfc,Zfd,Zfe,Zfh,Zhb,Zhc,Ziu,Ziv,Ziw,Zi6,Zjh,Zji,Zj7,Zky,Zk0,Zk1,Zlz,Zl2,Zmt,Zmv,Zmw,Zmx,Zmy,Zmz,Zm0,Zm1,Zm3,Zm5,Zm9,Zna,Znb,Zo7,eq_self,true_and,and_true,rd_0,sp_0,sc_len,sc_ok,flL_sc]
          tactic =>
          refine endA ?_
          sym =>
          simp [Zpg,Zph,Zp7,Zp9,Zqd,Zqe,eq_self,and_true,sc_rs]
  · rw [if_pos c1] at hR
    subst hR
    obtain ⟨st, cd, src, su, tk, es, er, os, t, s, o, ⟨a, b, c⟩, ⟨a2, b2, c2⟩⟩ := x
    obtain ⟨fk, ft, fes, fer, fo, fn, fsu, fd, frs, fcc⟩ := f
    simp only [sn, fr] at c1 ⊢
    have c2 : ¬ er < fer := fun h => c1 (.inl h)
    refine con_j b88 rfl ?_
    by_cases c4 : st = 1
    · have c5 : ¬ fer = er := fun h => c1 (.inr ⟨c4, h⟩)
      subst c4
      sym =>
      simp [Zab,Zad,Zae,Zaf,Zak,Zal,Zam,Zao,Zaz,Za0,Za1,Za2,Za3,Za4,Za5,Za6,Za7,Za8,Za9,Zba,Zbb,Zbd,Zbf,Zbj,Zbt,Zbv,Zcv,Zcx,Zc3,Zev,Zew,Zex,Zez,Ze0,Ze1,Ze2,Ze3,Ze5,Ze8,Zfc,Zfd,Zfe,Zfh,Zfi,Zfj,Zfl,Zfn,Zfz,Zf3,Zgd,Zgg,Zgr,Zgs,Zgt,Zgv,Zgw,Zgx,Zin,Zio,Zip,Ziu,Ziv,Ziw,Zi6,Zjh,Zji,Zj7,Zmt,Zmv,Zmw,Zmx,Zmy,Zmz,Zm0,Zm1,Zm3,Zm5,Zm6,Zna,Znb,Zos,Zot,Zo4,Zo6,Zo7,Zo8,Zo9,eq_self,true_and,and_true,fc_18,fc_len,zS_sc,sc_0,sc_52,rd_0,sp_0,sc_len,sc_ok,c2,c5]
      tactic =>
      refine endA ?_
      sym =>
      simp [Zpg,Zpw,Zp7,Zp9,Zqd,Zqe,eq_self,true_and,and_true,sc_rs]
      tactic =>
      all_goals rfl
    · sym =>
      simp [Zab,Zad,Zae,Zaf,Zak,Zal,Zam,Zao,Zaz,Za0,Za1,Za2,Za3,Za4,Za5,Za6,Za7,Za8,Za9,Zba,Zbb,Zbd,Zbf,Zbj,Zbt,Zbv,Zcv,Zcx,Zc3,Zev,Zew,Zex,Zez,Ze0,Ze1,Ze2,Ze3,Ze5,Ze8,Zfc,Zfd,Zfe,Zfh,Zfi,Zfj,Zfk,Zfl,Zfn,Zfz,Zf3,Zgd,Zgg,Zgr,Zgs,Zgt,Zgv,Zgw,Zgx,Zin,Zio,Zip,Ziu,Ziv,Ziw,Zi6,Zjh,Zji,Zj7,Zmt,Zmv,Zmw,Zmx,Zmy,Zmz,Zm0,Zm1,Zm3,Zm5,Zm6,Zna,Znb,Zos,Zot,Zo4,Zo6,Zo7,Zo9,eq_self,true_and,and_true,fc_18,fc_len,zS_sc,sc_0,sc_52,rd_0,sp_0,sc_len,sc_ok,c2,c4]
      tactic =>
      refine endA ?_
      sym =>
      simp [Zpg,Zpw,Zp7,Zp9,Zqd,Zqe,eq_self,true_and,and_true,sc_rs]
      tactic =>
      all_goals rfl
end Go.Proofs.Ytbmdahhhgpbchaa.SnF
