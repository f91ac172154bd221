import Derived.Test.YtbmdahhhgpbchaaLyB
namespace Go.Proofs.Ytbmdahhhgpbchaa.LyC
open Go Go.Sim Go.Sim.E Go.RowKit Go.Proofs Go.Proofs.Ytbmdahhhgpbchaa.Cod Go.Proofs.Ytbmdahhhgpbchaa.Tab Go.Proofs.Ytbmdahhhgpbchaa.Bse Go.Proofs.Ytbmdahhhgpbchaa.SpnP Go.Proofs.Ytbmdahhhgpbchaa.SwA Go.Proofs.Ytbmdahhhgpbchaa.SwB Go.Proofs.Ytbmdahhhgpbchaa.SwC Go.Proofs.Ytbmdahhhgpbchaa.SwS Go.Proofs.Ytbmdahhhgpbchaa.SwD Go.Proofs.Ytbmdahhhgpbchaa.SwF Go.Proofs.Ytbmdahhhgpbchaa.SwG Go.Proofs.Ytbmdahhhgpbchaa.SwL Go.Proofs.Ytbmdahhhgpbchaa.ObA Go.Proofs.Ytbmdahhhgpbchaa.ObB Go.Proofs.Ytbmdahhhgpbchaa.ObC Go.Proofs.Ytbmdahhhgpbchaa.SnA Go.Proofs.Ytbmdahhhgpbchaa.SnB Go.Proofs.Ytbmdahhhgpbchaa.LyA Go.Proofs.Ytbmdahhhgpbchaa.LyB
set_option linter.unusedVariables false
set_option linter.unusedSimpArgs false
set_option maxRecDepth 100000
set_option maxHeartbeats 4000000
def bare (f : Fm) : Fm :=
  if f.k = 1 ∨ f.k = 5 then ⟨f.k, f.t, f.es, f.er, 0, f.n, f.su, [], [], 0⟩
  else if f.k = 2 then ⟨f.k, f.t, f.es, f.er, f.o, 0, z32, [], [], 0⟩
  else if f.k = 3 then ⟨f.k, f.t, f.es, f.er, f.o, 0, z32, f.d, [], 0⟩
  else if f.k = 4 then ⟨f.k, f.t, f.es, f.er, f.o, 0, z32, [], f.r, 0⟩
  else if f.k = 6 then ⟨f.k, f.t, f.es, f.er, 0, f.n, z32, [], [], 0⟩
  else if f.k = 7 then ⟨f.k, f.t, f.es, f.er, 0, 0, z32, [], [], f.c⟩
  else ⟨f.k, f.t, f.es, f.er, 0, 0, z32, [], [], 0⟩
theorem bare_con (f : Fm) (hd : f.d.length ≤ 1000000) (hr : f.r.length ≤ 1000000) : Con Try.prog 95 [] [.ag (fr f)] [] (.ag (fr (bare f))) := by
  obtain ⟨k, t, es, er, o, n, su, d, r, c⟩ := f
  simp only at hd hr
  by_cases h1 : k = 1
  · subst h1
    have hb : bare ⟨1, t, es, er, o, n, su, d, r, c⟩ = ⟨1, t, es, er, 0, n, su, [], [], 0⟩ := rfl
    rw [hb]
    simp only [fr]
    refine con_j b95 rfl ?_
    sym =>
    simp [Zaa,Zab,Zac,Zad,Zae,Zaf,Zag,Zak,Zal,Zam,Zap,Zaz,Za0,Za1,Za2,Za3,Za4,Za5,Za9,Zba,Zbb,Zbf,Zbt,Zbu,Zbv,Zbw,Zb9,Zcv,Zcx,Zc3,Zc4,Zc7,Zc8,Zc9,Zdf,Zdg,Zdh,Zdj,Zdk,Zdm,Zdo,Zdp,Zdt,Zdu,Zdv,Zdw,Zdx,Zdy,Zdz,Zd0,Zd1,Zd2,Zeb,Zek,Zen,Zeq,Zet,Zev,Zew,Zez,Ze0,Ze1,Ze2,Ze3,Ze5,Ze8,Zfc,Zfd,Zfe,Zfh,Zfn,Zfz,Zgr,Zgs,Zgt,Zgv,Zgw,Zgx,Zhd,Zhe,Zhf,Zhg,Zhh,Zin,Zio,Zip,Ziu,Ziv,Ziw,Zi6,Zi7,Zjb,Zjh,Zji,Zjn,Zj2,Zj7,Zkb,Zla,Zlb,Zle,Zll,Zlz,Zl2,Zmt,Zmv,Zmw,Zmy,Zm0,Zm1,Zm2,Zm5,Zm6,Zm7,Zna,Znb,Znc,Znd,Zne,Znf,Zng,Znn,Zno,Zos,Zot,Zo7,Zo8,Zo9,Zpg,Zpv,Zp8,eq_self,true_and,and_true,zL_fc,fc_0,fc_17,fc_18,fc_19,fc_20,fc_53,fc_54,fc_55,fs_0,fs_17,fs_18,fs_19,fs_20,fs_53,fs_54,fs_55,fp_1,fp_21,fp_f,rb_1,rb_21,rb_0,fc_len,fc_ok,fc_rs,v16,v32,cB_cells]
    tactic =>
    refine endA ?_
    sym =>
    simp [Zaa,Zab,Zac,Zad,Zae,Zaf,Zag,Zak,Zal,Zam,Zap,Zaz,Za0,Za1,Za2,Za3,Za4,Za5,Za9,Zba,Zbb,Zbf,Zbt,Zbu,Zbv,Zbw,Zb9,Zcv,Zcx,Zc3,Zc4,Zc7,Zc8,Zc9,Zdf,Zdg,Zdh,Zdj,Zdk,Zdm,Zdo,Zdp,Zdt,Zdu,Zdv,Zdw,Zdx,Zdy,Zdz,Zd0,Zd1,Zd2,Zeb,Zek,Zen,Zeq,Zet,Zev,Zew,Zez,Ze0,Ze1,Ze2,Ze3,Ze5,Ze8,Zfc,Zfd,Zfe,Zfh,Zfn,Zfz,Zgr,Zgs,Zgt,Zgv,Zgw,Zgx,Zhd,Zhe,Zhf,Zhg,Zhh,Zin,Zio,Zip,Ziu,Ziv,Ziw,Zi6,Zi7,Zjb,Zjh,Zji,Zjn,Zj2,Zj7,Zkb,Zla,Zlb,Zle,Zll,Zlz,Zl2,Zmt,Zmv,Zmw,Zmy,Zm0,Zm1,Zm2,Zm5,Zm6,Zm7,Zna,Znb,Znc,Znd,Zne,Znf,Zng,Znn,Zno,Zos,Zot,Zo7,Zo8,Zo9,Zpg,Zpv,Zp8,eq_self,true_and,and_true,zL_fc,fc_0,fc_17,fc_18,fc_19,fc_20,fc_53,fc_54,fc_55,fs_0,fs_17,fs_18,fs_19,fs_20,fs_53,fs_54,fs_55,fp_1,fp_21,fp_f,rb_1,rb_21,rb_0,fc_len,fc_ok,fc_rs,v16,v32,cB_cells]
    tactic =>
    all_goals (first | rfl | exact ⟨rfl, rfl⟩)
  by_cases h5 : k = 5
  · subst h5
    have hb : bare ⟨5, t, es, er, o, n, su, d, r, c⟩ = ⟨5, t, es, er, 0, n, su, [], [], 0⟩ := rfl
    rw [hb]
    simp only [fr]
    refine con_j b95 rfl ?_
    sym =>
    simp [Zaa,Zab,Zac,Zad,Zae,Zaf,Zag,Zak,Zal,Zam,Zap,Zaz,Za0,Za1,Za2,Za3,Za4,Za5,Za9,Zba,Zbb,Zbf,Zbt,Zbu,Zbv,Zbw,Zb9,Zcv,Zcx,Zc3,Zc4,Zc7,Zc8,Zc9,Zdf,Zdg,Zdh,Zdj,Zdk,Zdm,Zdo,Zdp,Zdt,Zdu,Zdv,Zdw,Zdx,Zdy,Zdz,Zd0,Zd1,Zd2,Zeb,Zek,Zen,Zeq,Zet,Zev,Zew,Zez,Ze0,Ze1,Ze2,Ze3,Ze5,Ze8,Zfc,Zfd,Zfe,Zfh,Zfn,Zfz,Zgr,Zgs,Zgt,Zgv,Zgw,Zgx,Zhd,Zhe,Zhf,Zhg,Zhh,Zin,Zio,Zip,Ziu,Ziv,Ziw,Zi6,Zi7,Zjb,Zjh,Zji,Zjn,Zj2,Zj7,Zkb,Zla,Zlb,Zle,Zll,Zlz,Zl2,Zmt,Zmv,Zmw,Zmy,Zm0,Zm1,Zm2,Zm5,Zm6,Zm7,Zna,Znb,Znc,Znd,Zne,Znf,Zng,Znn,Zno,Zos,Zot,Zo7,Zo8,Zo9,Zpg,Zpv,Zp8,eq_self,true_and,and_true,zL_fc,fc_0,fc_17,fc_18,fc_19,fc_20,fc_53,fc_54,fc_55,fs_0,fs_17,fs_18,fs_19,fs_20,fs_53,fs_54,fs_55,fp_1,fp_21,fp_f,rb_1,rb_21,rb_0,fc_len,fc_ok,fc_rs,v16,v32,cB_cells]
    tactic =>
    refine endA ?_
    sym =>
    simp [Zaa,Zab,Zac,Zad,Zae,Zaf,Zag,Zak,Zal,Zam,Zap,Zaz,Za0,Za1,Za2,Za3,Za4,Za5,Za9,Zba,Zbb,Zbf,Zbt,Zbu,Zbv,Zbw,Zb9,Zcv,Zcx,Zc3,Zc4,Zc7,Zc8,Zc9,Zdf,Zdg,Zdh,Zdj,Zdk,Zdm,Zdo,Zdp,Zdt,Zdu,Zdv,Zdw,Zdx,Zdy,Zdz,Zd0,Zd1,Zd2,Zeb,Zek,Zen,Zeq,Zet,Zev,Zew,Zez,Ze0,Ze1,Ze2,Ze3,Ze5,Ze8,Zfc,Zfd,Zfe,Zfh,Zfn,Zfz,Zgr,Zgs,Zgt,Zgv,Zgw,Zgx,Zhd,Zhe,Zhf,Zhg,Zhh,Zin,Zio,Zip,Ziu,Ziv,Ziw,Zi6,Zi7,Zjb,Zjh,Zji,Zjn,Zj2,Zj7,Zkb,Zla,Zlb,Zle,Zll,Zlz,Zl2,Zmt,Zmv,Zmw,Zmy,Zm0,Zm1,Zm2,Zm5,Zm6,Zm7,Zna,Znb,Znc,Znd,Zne,Znf,Zng,Znn,Zno,Zos,Zot,Zo7,Zo8,Zo9,Zpg,Zpv,Zp8,eq_self,true_and,and_true,zL_fc,fc_0,fc_17,fc_18,fc_19,fc_20,fc_53,fc_54,fc_55,fs_0,fs_17,fs_18,fs_19,fs_20,fs_53,fs_54,fs_55,fp_1,fp_21,fp_f,rb_1,rb_21,rb_0,fc_len,fc_ok,fc_rs,v16,v32,cB_cells]
    tactic =>
    all_goals (first | rfl | exact ⟨rfl, rfl⟩)
  by_cases h2 : k = 2
  · subst h2
    have hb : bare ⟨2, t, es, er, o, n, su, d, r, c⟩ = ⟨2, t, es, er, o, 0, z32, [], [], 0⟩ := rfl
    rw [hb]
    simp only [fr]
    refine con_j b95 rfl ?_
    sym =>
    simp [Zaa,Zab,Zac,Zad,Zae,Zaf,Zag,Zak,Zal,Zam,Zap,Zaz,Za0,Za1,Za2,Za3,Za4,Za5,Za9,Zba,Zbb,Zbf,Zbt,Zbu,Zbv,Zbw,Zb9,Zcv,Zcx,Zc3,Zc4,Zc7,Zc8,Zc9,Zdf,Zdg,Zdh,Zdj,Zdk,Zdm,Zdo,Zdp,Zdt,Zdu,Zdv,Zdw,Zdx,Zdy,Zdz,Zd0,Zd1,Zd2,Zeb,Zek,Zen,Zeq,Zet,Zev,Zew,Zez,Ze0,Ze1,Ze2,Ze3,Ze5,Ze8,Zfc,Zfd,Zfe,Zfh,Zfn,Zfz,Zgr,Zgs,Zgt,Zgv,Zgw,Zgx,Zhd,Zhe,Zhf,Zhg,Zhh,Zin,Zio,Zip,Ziu,Ziv,Ziw,Zi6,Zi7,Zjb,Zjh,Zji,Zjn,Zj2,Zj7,Zkb,Zla,Zlb,Zle,Zll,Zlz,Zl2,Zmt,Zmv,Zmw,Zmy,Zm0,Zm1,Zm2,Zm5,Zm6,Zm7,Zna,Znb,Znc,Znd,Zne,Znf,Zng,Znn,Zno,Zos,Zot,Zo7,Zo8,Zo9,Zpg,Zpv,Zp8,eq_self,true_and,and_true,zL_fc,fc_0,fc_17,fc_18,fc_19,fc_20,fc_53,fc_54,fc_55,fs_0,fs_17,fs_18,fs_19,fs_20,fs_53,fs_54,fs_55,fp_1,fp_21,fp_f,rb_1,rb_21,rb_0,fc_len,fc_ok,fc_rs,v16,v32,cB_cells]
    tactic =>
    refine endA ?_
    sym =>
    simp [Zaa,Zab,Zac,Zad,Zae,Zaf,Zag,Zak,Zal,Zam,Zap,Zaz,Za0,Za1,Za2,Za3,Za4,Za5,Za9,Zba,Zbb,Zbf,Zbt,Zbu,Zbv,Zbw,Zb9,Zcv,Zcx,Zc3,Zc4,Zc7,Zc8,Zc9,Zdf,Zdg,Zdh,Zdj,Zdk,Zdm,Zdo,Zdp,Zdt,Zdu,Zdv,Zdw,Zdx,Zdy,Zdz,Zd0,Zd1,Zd2,Zeb,Zek,Zen,Zeq,Zet,Zev,Zew,Zez,Ze0,Ze1,Ze2,Ze3,Ze5,Ze8,Zfc,Zfd,Zfe,Zfh,Zfn,Zfz,Zgr,Zgs,Zgt,Zgv,Zgw,Zgx,Zhd,Zhe,Zhf,Zhg,Zhh,Zin,Zio,Zip,Ziu,Ziv,Ziw,Zi6,Zi7,Zjb,Zjh,Zji,Zjn,Zj2,Zj7,Zkb,Zla,Zlb,Zle,Zll,Zlz,Zl2,Zmt,Zmv,Zmw,Zmy,Zm0,Zm1,Zm2,Zm5,Zm6,Zm7,Zna,Znb,Znc,Znd,Zne,Znf,Zng,Znn,Zno,Zos,Zot,Zo7,Zo8,Zo9,Zpg,Zpv,Zp8,eq_self,true_and,and_true,zL_fc,fc_0,fc_17,fc_18,fc_19,fc_20,fc_53,fc_54,fc_55,fs_0,fs_17,fs_18,fs_19,fs_20,fs_53,fs_54,fs_55,fp_1,fp_21,fp_f,rb_1,rb_21,rb_0,fc_len,fc_ok,fc_rs,v16,v32,cB_cells]
    tactic =>
    all_goals (first | rfl | exact ⟨rfl, rfl⟩)
  by_cases h3 : k = 3
  · subst h3
    have hb : bare ⟨3, t, es, er, o, n, su, d, r, c⟩ = ⟨3, t, es, er, o, 0, z32, d, [], 0⟩ := rfl
    rw [hb]
    simp only [fr]
    refine con_j b95 rfl ?_
    sym =>
    simp [Zaa,Zab,Zac,Zad,Zae,Zaf,Zag,Zak,Zal,Zam,Zap,Zaz,Za0,Za1,Za2,Za3,Za4,Za5,Za9,Zba,Zbb,Zbf,Zbt,Zbu,Zbv,Zbw,Zb9,Zcv,Zcx,Zc3,Zc4,Zc7,Zc8,Zc9,Zdf,Zdg,Zdh,Zdj,Zdk,Zdm,Zdo,Zdp,Zdt,Zdu,Zdv,Zdw,Zdx,Zdy,Zdz,Zd0,Zd1,Zd2,Zeb,Zek,Zen,Zeq,Zet,Zev,Zew,Zez,Ze0,Ze1,Ze2,Ze3,Ze5,Ze8,Zfc,Zfd,Zfe,Zfh,Zfn,Zfz,Zgr,Zgs,Zgt,Zgv,Zgw,Zgx,Zhd,Zhe,Zhf,Zhg,Zhh,Zin,Zio,Zip,Ziu,Ziv,Ziw,Zi6,Zi7,Zjb,Zjh,Zji,Zjn,Zj2,Zj7,Zkb,Zla,Zlb,Zle,Zll,Zlz,Zl2,Zmt,Zmv,Zmw,Zmy,Zm0,Zm1,Zm2,Zm5,Zm6,Zm7,Zna,Znb,Znc,Znd,Zne,Znf,Zng,Znn,Zno,Zos,Zot,Zo7,Zo8,Zo9,Zpg,Zpv,Zp8,eq_self,true_and,and_true,zL_fc,fc_0,fc_17,fc_18,fc_19,fc_20,fc_53,fc_54,fc_55,fs_0,fs_17,fs_18,fs_19,fs_20,fs_53,fs_54,fs_55,fp_1,fp_21,fp_f,rb_1,rb_21,rb_0,fc_len,fc_ok,fc_rs,v16,v32,cB_cells,callable_68,callable_127]
    tactic =>
    refine cl none (clone_con d (by omega)) trivial ?_
    sym =>
    simp [Zaa,Zab,Zac,Zad,Zae,Zaf,Zag,Zak,Zal,Zam,Zap,Zaz,Za0,Za1,Za2,Za3,Za4,Za5,Za9,Zba,Zbb,Zbf,Zbt,Zbu,Zbv,Zbw,Zb9,Zcv,Zcx,Zc3,Zc4,Zc7,Zc8,Zc9,Zdf,Zdg,Zdh,Zdj,Zdk,Zdm,Zdo,Zdp,Zdt,Zdu,Zdv,Zdw,Zdx,Zdy,Zdz,Zd0,Zd1,Zd2,Zeb,Zek,Zen,Zeq,Zet,Zev,Zew,Zez,Ze0,Ze1,Ze2,Ze3,Ze5,Ze8,Zfc,Zfd,Zfe,Zfh,Zfn,Zfz,Zgr,Zgs,Zgt,Zgv,Zgw,Zgx,Zhd,Zhe,Zhf,Zhg,Zhh,Zin,Zio,Zip,Ziu,Ziv,Ziw,Zi6,Zi7,Zjb,Zjh,Zji,Zjn,Zj2,Zj7,Zkb,Zla,Zlb,Zle,Zll,Zlz,Zl2,Zmt,Zmv,Zmw,Zmy,Zm0,Zm1,Zm2,Zm5,Zm6,Zm7,Zna,Znb,Znc,Znd,Zne,Znf,Zng,Znn,Zno,Zos,Zot,Zo7,Zo8,Zo9,Zpg,Zpv,Zp8,eq_self,true_and,and_true,zL_fc,fc_0,fc_17,fc_18,fc_19,fc_20,fc_53,fc_54,fc_55,fs_0,fs_17,fs_18,fs_19,fs_20,fs_53,fs_54,fs_55,fp_1,fp_21,fp_f,rb_1,rb_21,rb_0,fc_len,fc_ok,fc_rs,v16,v32,cB_cells]
    tactic =>
    refine endA ?_
    sym =>
    simp [Zaa,Zab,Zac,Zad,Zae,Zaf,Zag,Zak,Zal,Zam,Zap,Zaz,Za0,Za1,Za2,Za3,Za4,Za5,Za9,Zba,Zbb,Zbf,Zbt,Zbu,Zbv,Zbw,Zb9,Zcv,Zcx,Zc3,Zc4,Zc7,Zc8,Zc9,Zdf,Zdg,Zdh,Zdj,Zdk,Zdm,Zdo,Zdp,Zdt,Zdu,Zdv,Zdw,Zdx,Zdy,Zdz,Zd0,Zd1,Zd2,Zeb,Zek,Zen,Zeq,Zet,Zev,Zew,Zez,Ze0,Ze1,Ze2,Ze3,Ze5,Ze8,Zfc,Zfd,Zfe,Zfh,Zfn,Zfz,Zgr,Zgs,Zgt,Zgv,Zgw,Zgx,Zhd,Zhe,Zhf,Zhg,Zhh,Zin,Zio,Zip,Ziu,Ziv,Ziw,Zi6,Zi7,Zjb,Zjh,Zji,Zjn,Zj2,Zj7,Zkb,Zla,Zlb,Zle,Zll,Zlz,Zl2,Zmt,Zmv,Zmw,Zmy,Zm0,Zm1,Zm2,Zm5,Zm6,Zm7,Zna,Znb,Znc,Znd,Zne,Znf,Zng,Znn,Zno,Zos,Zot,Zo7,Zo8,Zo9,Zpg,Zpv,Zp8,eq_self,true_and,and_true,zL_fc,fc_0,fc_17,fc_18,fc_19,fc_20,fc_53,fc_54,fc_55,fs_0,fs_17,fs_18,fs_19,fs_20,fs_53,fs_54,fs_55,fp_1,fp_21,fp_f,rb_1,rb_21,rb_0,fc_len,fc_ok,fc_rs,v16,v32,cB_cells]
    tactic =>
    all_goals (first | rfl | exact ⟨rfl, rfl⟩)
  by_cases h4 : k = 4
  · subst h4
    have hb : bare ⟨4, t, es, er, o, n, su, d, r, c⟩ = ⟨4, t, es, er, o, 0, z32, [], r, 0⟩ := rfl
    rw [hb]
    simp only [fr]
    refine con_j b95 rfl ?_
    sym =>
    simp [Zaa,Zab,Zac,Zad,Zae,Zaf,Zag,Zak,Zal,Zam,Zap,Zaz,Za0,Za1,Za2,Za3,Za4,Za5,Za9,Zba,Zbb,Zbf,Zbt,Zbu,Zbv,Zbw,Zb9,Zcv,Zcx,Zc3,Zc4,Zc7,Zc8,Zc9,Zdf,Zdg,Zdh,Zdj,Zdk,Zdm,Zdo,Zdp,Zdt,Zdu,Zdv,Zdw,Zdx,Zdy,Zdz,Zd0,Zd1,Zd2,Zeb,Zek,Zen,Zeq,Zet,Zev,Zew,Zez,Ze0,Ze1,Ze2,Ze3,Ze5,Ze8,Zfc,Zfd,Zfe,Zfh,Zfn,Zfz,Zgr,Zgs,Zgt,Zgv,Zgw,Zgx,Zhd,Zhe,Zhf,Zhg,Zhh,Zin,Zio,Zip,Ziu,Ziv,Ziw,Zi6,Zi7,Zjb,Zjh,Zji,Zjn,Zj2,Zj7,Zkb,Zla,Zlb,Zle,Zll,Zlz,Zl2,Zmt,Zmv,Zmw,Zmy,Zm0,Zm1,Zm2,Zm5,Zm6,Zm7,Zna,Znb,Znc,Znd,Zne,Znf,Zng,Znn,Zno,Zos,Zot,Zo7,Zo8,Zo9,Zpg,Zpv,Zp8,eq_self,true_and,and_true,zL_fc,fc_0,fc_17,fc_18,fc_19,fc_20,fc_53,fc_54,fc_55,fs_0,fs_17,fs_18,fs_19,fs_20,fs_53,fs_54,fs_55,fp_1,fp_21,fp_f,rb_1,rb_21,rb_0,fc_len,fc_ok,fc_rs,v16,v32,cB_cells,callable_68,callable_127]
    tactic =>
    refine cl none (rclone_con r (by omega)) trivial ?_
    sym =>
    simp [Zaa,Zab,Zac,Zad,Zae,Zaf,Zag,Zak,Zal,Zam,Zap,Zaz,Za0,Za1,Za2,Za3,Za4,Za5,Za9,Zba,Zbb,Zbf,Zbt,Zbu,Zbv,Zbw,Zb9,Zcv,Zcx,Zc3,Zc4,Zc7,Zc8,Zc9,Zdf,Zdg,Zdh,Zdj,Zdk,Zdm,Zdo,Zdp,Zdt,Zdu,Zdv,Zdw,Zdx,Zdy,Zdz,Zd0,Zd1,Zd2,Zeb,Zek,Zen,Zeq,Zet,Zev,Zew,Zez,Ze0,Ze1,Ze2,Ze3,Ze5,Ze8,Zfc,Zfd,Zfe,Zfh,Zfn,Zfz,Zgr,Zgs,Zgt,Zgv,Zgw,Zgx,Zhd,Zhe,Zhf,Zhg,Zhh,Zin,Zio,Zip,Ziu,Ziv,Ziw,Zi6,Zi7,Zjb,Zjh,Zji,Zjn,Zj2,Zj7,Zkb,Zla,Zlb,Zle,Zll,Zlz,Zl2,Zmt,Zmv,Zmw,Zmy,Zm0,Zm1,Zm2,Zm5,Zm6,Zm7,Zna,Znb,Znc,Znd,Zne,Znf,Zng,Znn,Zno,Zos,Zot,Zo7,Zo8,Zo9,Zpg,Zpv,Zp8,eq_self,true_and,and_true,zL_fc,fc_0,fc_17,fc_18,fc_19,fc_20,fc_53,fc_54,fc_55,fs_0,fs_17,fs_18,fs_19,fs_20,fs_53,fs_54,fs_55,fp_1,fp_21,fp_f,rb_1,rb_21,rb_0,fc_len,fc_ok,fc_rs,v16,v32,cB_cells]
    tactic =>
    refine endA ?_
    sym =>
    simp [Zaa,Zab,Zac,Zad,Zae,Zaf,Zag,Zak,Zal,Zam,Zap,Zaz,Za0,Za1,Za2,Za3,Za4,Za5,Za9,Zba,Zbb,Zbf,Zbt,Zbu,Zbv,Zbw,Zb9,Zcv,Zcx,Zc3,Zc4,Zc7,Zc8,Zc9,Zdf,Zdg,Zdh,Zdj,Zdk,Zdm,Zdo,Zdp,Zdt,Zdu,Zdv,Zdw,Zdx,Zdy,Zdz,Zd0,Zd1,Zd2,Zeb,Zek,Zen,Zeq,Zet,Zev,Zew,Zez,Ze0,Ze1,Ze2,Ze3,Ze5,Ze8,Zfc,Zfd,Zfe,Zfh,Zfn,Zfz,Zgr,Zgs,Zgt,Zgv,Zgw,Zgx,Zhd,Zhe,Zhf,Zhg,Zhh,Zin,Zio,Zip,Ziu,Ziv,Ziw,Zi6,Zi7,Zjb,Zjh,Zji,Zjn,Zj2,Zj7,Zkb,Zla,Zlb,Zle,Zll,Zlz,Zl2,Zmt,Zmv,Zmw,Zmy,Zm0,Zm1,Zm2,Zm5,Zm6,Zm7,Zna,Znb,Znc,Znd,Zne,Znf,Zng,Znn,Zno,Zos,Zot,Zo7,Zo8,Zo9,Zpg,Zpv,Zp8,eq_self,true_and,and_true,zL_fc,fc_0,fc_17,fc_18,fc_19,fc_20,fc_53,fc_54,fc_55,fs_0,fs_17,fs_18,fs_19,fs_20,fs_53,fs_54,fs_55,fp_1,fp_21,fp_f,rb_1,rb_21,rb_0,fc_len,fc_ok,fc_rs,v16,v32,cB_cells]
    tactic =>
    all_goals (first | rfl | exact ⟨rfl, rfl⟩)
  by_cases h6 : k = 6
  · subst h6
    have hb : bare ⟨6, t, es, er, o, n, su, d, r, c⟩ = ⟨6, t, es, er, 0, n, z32, [], [], 0⟩ := rfl
    rw [hb]
    simp only [fr]
    refine con_j b95 rfl ?_
    sym =>
    simp [Zaa,Zab,Zac,Zad,Zae,Zaf,Zag,Zak,Zal,Zam,Zap,Zaz,Za0,Za1,Za2,Za3,Za4,Za5,Za9,Zba,Zbb,Zbf,Zbt,Zbu,Zbv,Zbw,Zb9,Zcv,Zcx,Zc3,Zc4,Zc7,Zc8,Zc9,Zdf,Zdg,Zdh,Zdj,Zdk,Zdm,Zdo,Zdp,Zdt,Zdu,Zdv,Zdw,Zdx,Zdy,Zdz,Zd0,Zd1,Zd2,Zeb,Zek,Zen,Zeq,Zet,Zev,Zew,Zez,Ze0,Ze1,Ze2,Ze3,Ze5,Ze8,Zfc,Zfd,Zfe,Zfh,Zfn,Zfz,Zgr,Zgs,Zgt,Zgv,Zgw,Zgx,Zhd,Zhe,Zhf,Zhg,Zhh,Zin,Zio,Zip,Ziu,Ziv,Ziw,Zi6,Zi7,Zjb,Zjh,Zji,Zjn,Zj2,Zj7,Zkb,Zla,Zlb,Zle,Zll,Zlz,Zl2,Zmt,Zmv,Zmw,Zmy,Zm0,Zm1,Zm2,Zm5,Zm6,Zm7,Zna,Znb,Znc,Znd,Zne,Znf,Zng,Znn,Zno,Zos,Zot,Zo7,Zo8,Zo9,Zpg,Zpv,Zp8,eq_self,true_and,and_true,zL_fc,fc_0,fc_17,fc_18,fc_19,fc_20,fc_53,fc_54,fc_55,fs_0,fs_17,fs_18,fs_19,fs_20,fs_53,fs_54,fs_55,fp_1,fp_21,fp_f,rb_1,rb_21,rb_0,fc_len,fc_ok,fc_rs,v16,v32,cB_cells]
    tactic =>
    refine endA ?_
    sym =>
    simp [Zaa,Zab,Zac,Zad,Zae,Zaf,Zag,Zak,Zal,Zam,Zap,Zaz,Za0,Za1,Za2,Za3,Za4,Za5,Za9,Zba,Zbb,Zbf,Zbt,Zbu,Zbv,Zbw,Zb9,Zcv,Zcx,Zc3,Zc4,Zc7,Zc8,Zc9,Zdf,Zdg,Zdh,Zdj,Zdk,Zdm,Zdo,Zdp,Zdt,Zdu,Zdv,Zdw,Zdx,Zdy,Zdz,Zd0,Zd1,Zd2,Zeb,Zek,Zen,Zeq,Zet,Zev,Zew,Zez,Ze0,Ze1,Ze2,Ze3,Ze5,Ze8,Zfc,Zfd,Zfe,Zfh,Zfn,Zfz,Zgr,Zgs,Zgt,Zgv,Zgw,Zgx,Zhd,Zhe,Zhf,Zhg,Zhh,Zin,Zio,Zip,Ziu,Ziv,Ziw,Zi6,Zi7,Zjb,Zjh,Zji,Zjn,Zj2,Zj7,Zkb,Zla,Zlb,Zle,Zll,Zlz,Zl2,Zmt,Zmv,Zmw,Zmy,Zm0,Zm1,Zm2,Zm5,Zm6,Zm7,Zna,Znb,Znc,Znd,Zne,Znf,Zng,Znn,Zno,Zos,Zot,Zo7,Zo8,Zo9,Zpg,Zpv,Zp8,eq_self,true_and,and_true,zL_fc,fc_0,fc_17,fc_18,fc_19,fc_20,fc_53,fc_54,fc_55,fs_0,fs_17,fs_18,fs_19,fs_20,fs_53,fs_54,fs_55,fp_1,fp_21,fp_f,rb_1,rb_21,rb_0,fc_len,fc_ok,fc_rs,v16,v32,cB_cells]
    tactic =>
    all_goals (first | rfl | exact ⟨rfl, rfl⟩)
  by_cases h7 : k = 7
  · subst h7
    have hb : bare ⟨7, t, es, er, o, n, su, d, r, c⟩ = ⟨7, t, es, er, 0, 0, z32, [], [], c⟩ := rfl
    rw [hb]
    simp only [fr]
    refine con_j b95 rfl ?_
    sym =>
    simp [Zaa,Zab,Zac,Zad,Zae,Zaf,Zag,Zak,Zal,Zam,Zap,Zaz,Za0,Za1,Za2,Za3,Za4,Za5,Za9,Zba,Zbb,Zbf,Zbt,Zbu,Zbv,Zbw,Zb9,Zcv,Zcx,Zc3,Zc4,Zc7,Zc8,Zc9,Zdf,Zdg,Zdh,Zdj,Zdk,Zdm,Zdo,Zdp,Zdt,Zdu,Zdv,Zdw,Zdx,Zdy,Zdz,Zd0,Zd1,Zd2,Zeb,Zek,Zen,Zeq,Zet,Zev,Zew,Zez,Ze0,Ze1,Ze2,Ze3,Ze5,Ze8,Zfc,Zfd,Zfe,Zfh,Zfn,Zfz,Zgr,Zgs,Zgt,Zgv,Zgw,Zgx,Zhd,Zhe,Zhf,Zhg,Zhh,Zin,Zio,Zip,Ziu,Ziv,Ziw,Zi6,Zi7,Zjb,Zjh,Zji,Zjn,Zj2,Zj7,Zkb,Zla,Zlb,Zle,Zll,Zlz,Zl2,Zmt,Zmv,Zmw,Zmy,Zm0,Zm1,Zm2,Zm5,Zm6,Zm7,Zna,Znb,Znc,Znd,Zne,Znf,Zng,Znn,Zno,Zos,Zot,Zo7,Zo8,Zo9,Zpg,Zpv,Zp8,eq_self,true_and,and_true,zL_fc,fc_0,fc_17,fc_18,fc_19,fc_20,fc_53,fc_54,fc_55,fs_0,fs_17,fs_18,fs_19,fs_20,fs_53,fs_54,fs_55,fp_1,fp_21,fp_f,rb_1,rb_21,rb_0,fc_len,fc_ok,fc_rs,v16,v32,cB_cells]
    tactic =>
    refine endA ?_
    sym =>
    simp [Zaa,Zab,Zac,Zad,Zae,Zaf,Zag,Zak,Zal,Zam,Zap,Zaz,Za0,Za1,Za2,Za3,Za4,Za5,Za9,Zba,Zbb,Zbf,Zbt,Zbu,Zbv,Zbw,Zb9,Zcv,Zcx,Zc3,Zc4,Zc7,Zc8,Zc9,Zdf,Zdg,Zdh,Zdj,Zdk,Zdm,Zdo,Zdp,Zdt,Zdu,Zdv,Zdw,Zdx,Zdy,Zdz,Zd0,Zd1,Zd2,Zeb,Zek,Zen,Zeq,Zet,Zev,Zew,Zez,Ze0,Ze1,Ze2,Ze3,Ze5,Ze8,Zfc,Zfd,Zfe,Zfh,Zfn,Zfz,Zgr,Zgs,Zgt,Zgv,Zgw,Zgx,Zhd,Zhe,Zhf,Zhg,Zhh,Zin,Zio,Zip,Ziu,Ziv,Ziw,Zi6,Zi7,Zjb,Zjh,Zji,Zjn,Zj2,Zj7,Zkb,Zla,Zlb,Zle,Zll,Zlz,Zl2,Zmt,Zmv,Zmw,Zmy,Zm0,Zm1,Zm2,Zm5,Zm6,Zm7,Zna,Znb,Znc,Znd,Zne,Znf,Zng,Znn,Zno,Zos,Zot,Zo7,Zo8,Zo9,Zpg,Zpv,Zp8,eq_self,true_and,and_true,zL_fc,fc_0,fc_17,fc_18,fc_19,fc_20,fc_53,fc_54,fc_55,fs_0,fs_17,fs_18,fs_19,fs_20,fs_53,fs_54,fs_55,fp_1,fp_21,fp_f,rb_1,rb_21,rb_0,fc_len,fc_ok,fc_rs,v16,v32,cB_cells]
    tactic =>
    all_goals (first | rfl | exact ⟨rfl, rfl⟩)
  have hb : bare ⟨k, t, es, er, o, n, su, d, r, c⟩ = ⟨k, t, es, er, 0, 0, z32, [], [], 0⟩ := by
    simp only [bare, h1, h2, h3, h4, h5, h6, h7, or_self, if_false]
  rw [hb]
  simp only [fr]
  refine con_j b95 rfl ?_
  sym =>
  simp [Zaa,Zab,Zac,Zad,Zae,Zaf,Zag,Zak,Zal,Zam,Zap,Zaz,Za0,Za1,Za2,Za3,Za4,Za5,Za9,Zba,Zbb,Zbf,Zbt,Zbu,Zbv,Zbw,Zb9,Zcv,Zcx,Zc3,Zc4,Zc7,Zc8,Zc9,Zdf,Zdg,Zdh,Zdj,Zdk,Zdm,Zdo,Zdp,Zdt,Zdu,Zdv,Zdw,Zdx,Zdy,Zdz,Zd0,Zd1,Zd2,Zeb,Zek,Zen,Zeq,Zet,Zev,Zew,Zez,Ze0,Ze1,Ze2,Ze3,Ze5,Ze8,Zfc,Zfd,Zfe,Zfh,Zfn,Zfz,Zgr,Zgs,Zgt,Zgv,Zgw,Zgx,Zhd,Zhe,Zhf,Zhg,Zhh,Zin,Zio,Zip,Ziu,Ziv,Ziw,Zi6,Zi7,Zjb,Zjh,Zji,Zjn,Zj2,Zj7,Zkb,Zla,Zlb,Zle,Zll,Zlz,Zl2,Zmt,Zmv,Zmw,Zmy,Zm0,Zm1,Zm2,Zm5,Zm6,Zm7,Zna,Znb,Znc,Znd,Zne,Znf,Zng,Znn,Zno,Zos,Zot,Zo7,Zo8,Zo9,Zpg,Zpv,Zp8,eq_self,true_and,and_true,zL_fc,fc_0,fc_17,fc_18,fc_19,fc_20,fc_53,fc_54,fc_55,fs_0,fs_17,fs_18,fs_19,fs_20,fs_53,fs_54,fs_55,fp_1,fp_21,fp_f,rb_1,rb_21,rb_0,fc_len,fc_ok,fc_rs,v16,v32,cB_cells,h1,h2,h3,h4,h5,h6,h7]
  tactic =>
  refine endA ?_
  sym =>
  simp [Zaa,Zab,Zac,Zad,Zae,Zaf,Zag,Zak,Zal,Zam,Zap,Zaz,Za0,Za1,Za2,Za3,Za4,Za5,Za9,Zba,Zbb,Zbf,Zbt,Zbu,Zbv,Zbw,Zb9,Zcv,Zcx,Zc3,Zc4,Zc7,Zc8,Zc9,Zdf,Zdg,Zdh,Zdj,Zdk,Zdm,Zdo,Zdp,Zdt,Zdu,Zdv,Zdw,Zdx,Zdy,Zdz,Zd0,Zd1,Zd2,Zeb,Zek,Zen,Zeq,Zet,Zev,Zew,Zez,Ze0,Ze1,Ze2,Ze3,Ze5,Ze8,Zfc,Zfd,Zfe,Zfh,Zfn,Zfz,Zgr,Zgs,Zgt,Zgv,Zgw,Zgx,Zhd,Zhe,Zhf,Zhg,Zhh,Zin,Zio,Zip,Ziu,Ziv,Ziw,Zi6,Zi7,Zjb,Zjh,Zji,Zjn,Zj2,Zj7,Zkb,Zla,Zlb,Zle,Zll,Zlz,Zl2,Zmt,Zmv,Zmw,Zmy,Zm0,Zm1,Zm2,Zm5,Zm6,Zm7,Zna,Znb,Znc,Znd,Zne,Znf,Zng,Znn,Zno,Zos,Zot,Zo7,Zo8,Zo9,Zpg,Zpv,Zp8,eq_self,true_and,and_true,zL_fc,fc_0,fc_17,fc_18,fc_19,fc_20,fc_53,fc_54,fc_55,fs_0,fs_17,fs_18,fs_19,fs_20,fs_53,fs_54,fs_55,fp_1,fp_21,fp_f,rb_1,rb_21,rb_0,fc_len,fc_ok,fc_rs,v16,v32,cB_cells]
  tactic =>
  all_goals (first | rfl | exact ⟨rfl, rfl⟩)
/-- May a frame be? the error. -/
def mayF (f : Fm) : Int :=
  if f.k = 1 ∨ f.k = 2 ∨ f.k = 5 ∨ f.k = 6 then 0
  else if f.k = 3 then (if f.d.length = 0 then 4 else if 256 < f.d.length then 10 else 0)
  else if f.k = 4 then (if 4 < f.r.length then 5 else if riF f.o f.r = true then 0 else 3)
  else if f.k = 7 then (if f.c < 1 then 3 else if 99 < f.c then 3 else 0)
  else 11
theorem may_con (f : Fm) (hr : f.r.length ≤ 1000000) : Con Try.prog 90 [] [.ag (fr f)] [] (I (mayF f)) := by
  obtain ⟨k, t, es, er, o, n, su, d, r, c⟩ := f
  simp only at hr
  obtain ⟨R, hR⟩ : ∃ R, R = mayF ⟨k, t, es, er, o, n, su, d, r, c⟩ := ⟨_, rfl⟩
  rw [← hR]
  unfold mayF at hR
  simp only at hR
  simp only [fr]
  refine con_j b90 rfl ?_
  by_cases h0 : k = 1 ∨ k = 2 ∨ k = 5 ∨ k = 6
  · rw [if_pos h0] at hR
    subst hR
    rcases h0 with rfl | rfl | rfl | rfl
    · sym =>
      simp [Zaa,Zab,Zad,Zae,Zaf,Zag,Zak,Zal,Zam,Zao,Zar,Zay,Zaz,Za0,Za1,Za2,Za3,Za4,Za5,Za9,Zba,Zbb,Zbf,Zbt,Zbv,Zcx,Zev,Zew,Zez,Ze0,Ze2,Ze3,Ze5,Ze8,Zfc,Zfd,Zfe,Zfh,Zfn,Zfz,Zgr,Zgs,Zgt,Zgv,Zgw,Zgx,Zio,Zip,Zi6,Zmt,Zmv,Zmw,Zmx,Zmz,Zm2,Zm6,Zna,Znb,Zos,Zot,Zo7,Zo8,eq_self,true_and,fc_0,fc_len]
      tactic =>
      refine endA ?_
      sym =>
      simp [Zpc,eq_self]
    · sym =>
      simp [Zaa,Zab,Zad,Zae,Zaf,Zag,Zak,Zal,Zam,Zao,Zar,Zay,Zaz,Za0,Za1,Za2,Za3,Za4,Za5,Za9,Zba,Zbb,Zbf,Zbt,Zbv,Zcx,Zev,Zew,Zez,Ze0,Ze2,Ze3,Ze5,Ze8,Zfc,Zfd,Zfe,Zfh,Zfn,Zfz,Zgr,Zgs,Zgt,Zgv,Zgw,Zgx,Zio,Zip,Zi6,Zmt,Zmv,Zmw,Zmx,Zmz,Zm2,Zm6,Zna,Znb,Zos,Zot,Zo7,Zo8,Zo9,eq_self,true_and,fc_0,fc_len]
      tactic =>
      refine endA ?_
      sym =>
      simp [Zpc,eq_self]
    · sym =>
      simp [Zaa,Zab,Zad,Zae,Zaf,Zag,Zak,Zal,Zam,Zao,Zar,Zay,Zaz,Za0,Za1,Za2,Za3,Za4,Za5,Za9,Zba,Zbb,Zbf,Zbt,Zbv,Zcx,Zev,Zew,Zez,Ze0,Ze2,Ze3,Ze5,Ze8,Zfc,Zfd,Zfe,Zfh,Zfn,Zfz,Zgr,Zgs,Zgt,Zgv,Zgw,Zgx,Zio,Zip,Zi6,Zmt,Zmv,Zmw,Zmx,Zmz,Zm2,Zm6,Zna,Znb,Zos,Zot,Zo7,Zo8,Zo9,eq_self,true_and,fc_0,fc_len]
      tactic =>
      refine endA ?_
      sym =>
      simp [Zpc,eq_self]
    · sym =>
      simp [Zab,Zad,Zae,Zaf,Zag,Zak,Zal,Zam,Zao,Zar,Zay,Zaz,Za0,Za1,Za2,Za3,Za4,Za5,Za9,Zba,Zbb,Zbf,Zbt,Zbv,Zcx,Zev,Zew,Zez,Ze0,Ze2,Ze3,Ze5,Ze8,Zfc,Zfd,Zfe,Zfh,Zfn,Zfz,Zgr,Zgs,Zgt,Zgv,Zgw,Zgx,Zio,Zip,Zi6,Zmt,Zmv,Zmw,Zmx,Zmz,Zm2,Zm6,Zna,Znb,Zos,Zot,Zo7,Zo8,Zo9,eq_self,true_and,fc_0,fc_len]
      tactic =>
      refine endA ?_
      sym =>
      simp [Zpc,eq_self]
  rw [if_neg h0] at hR
  have k1 : ¬ k = 1 := fun e => h0 (.inl e)
  have k2 : ¬ k = 2 := fun e => h0 (.inr (.inl e))
  have k5 : ¬ k = 5 := fun e => h0 (.inr (.inr (.inl e)))
  have k6 : ¬ k = 6 := fun e => h0 (.inr (.inr (.inr e)))
  by_cases h3 : k = 3
  · rw [if_pos h3] at hR
    subst h3
    by_cases hd : d.length = 0
    · rw [if_pos hd] at hR
      subst hR
      sym =>
      simp [Zab,Zad,Zae,Zaf,Zag,Zak,Zal,Zam,Zao,Zar,Zay,Zaz,Za0,Za1,Za2,Za3,Za4,Za5,Za9,Zba,Zbb,Zbf,Zbt,Zbv,Zcn,Zcx,Zev,Zew,Zez,Ze0,Ze2,Ze3,Ze5,Ze8,Zfc,Zfd,Zfe,Zfh,Zfn,Zfz,Zgr,Zgs,Zgt,Zgv,Zgw,Zgx,Zh6,Zh7,Zio,Zip,Zi6,Zmt,Zmv,Zmw,Zmx,Zmz,Zm2,Zm6,Zna,Znb,Zn5,Zos,Zot,Zo7,Zo8,Zo9,eq_self,true_and,fc_0,fc_53,fc_len,hd]
      tactic =>
      refine endA ?_
      sym =>
      simp [Zpc,eq_self]
    rw [if_neg hd] at hR
    by_cases hd2 : 256 < d.length
    · rw [if_pos hd2] at hR
      subst hR
      have hd' : IN d.length > (256 : Int) := by simp only [IN]; omega
      sym =>
      simp [Zab,Zad,Zae,Zaf,Zag,Zak,Zal,Zam,Zao,Zar,Zay,Zaz,Za0,Za1,Za2,Za3,Za4,Za5,Za9,Zba,Zbb,Zbf,Zbt,Zbv,Zcn,Zcx,Zev,Zew,Zez,Ze0,Ze2,Ze3,Ze5,Ze8,Zfc,Zfd,Zfe,Zfh,Zfn,Zfz,Zf3,Zgr,Zgs,Zgt,Zgv,Zgw,Zgx,Zh6,Zh7,Zio,Zip,Zi6,Zmt,Zmv,Zmw,Zmx,Zmz,Zm2,Zm6,Zna,Znb,Zny,Zos,Zot,Zo7,Zo8,Zo9,eq_self,true_and,fc_0,fc_53,fc_len,hd,hd']
      tactic =>
      refine endA ?_
      sym =>
      simp [Zpc,eq_self]
    · rw [if_neg hd2] at hR
      subst hR
      have hd' : ¬ IN d.length > (256 : Int) := by simp only [IN]; omega
      sym =>
      simp [Zaa,Zab,Zad,Zae,Zaf,Zag,Zak,Zal,Zam,Zao,Zap,Zar,Zay,Zaz,Za0,Za1,Za2,Za3,Za4,Za5,Za9,Zba,Zbb,Zbf,Zbt,Zbv,Zcn,Zcx,Zev,Zew,Zez,Ze0,Ze2,Ze3,Ze5,Ze8,Zfc,Zfd,Zfe,Zfh,Zfn,Zfz,Zf3,Zgr,Zgs,Zgt,Zgv,Zgw,Zgx,Zh6,Zh7,Zio,Zip,Zi6,Zmt,Zmv,Zmw,Zmx,Zmz,Zm2,Zm6,Zna,Znb,Zny,Zos,Zot,Zo7,Zo8,Zo9,eq_self,true_and,fc_0,fc_53,fc_len,hd,hd']
      tactic =>
      refine endA ?_
      sym =>
      simp [Zpc,eq_self]
  rw [if_neg h3] at hR
  by_cases h4 : k = 4
  · rw [if_pos h4] at hR
    subst h4
    by_cases hd2 : 4 < r.length
    · rw [if_pos hd2] at hR
      subst hR
      have hd' : IN r.length > (4 : Int) := by simp only [IN]; omega
      sym =>
      simp [Zab,Zad,Zae,Zaf,Zag,Zak,Zal,Zam,Zao,Zar,Zay,Zaz,Za0,Za1,Za2,Za3,Za4,Za5,Za9,Zba,Zbb,Zbf,Zbt,Zbv,Zcn,Zcx,Zev,Zew,Zez,Ze0,Ze2,Ze3,Ze5,Ze8,Zfc,Zfd,Zfe,Zfh,Zfn,Zfz,Zf3,Zgr,Zgs,Zgt,Zgv,Zgw,Zgx,Zh6,Zh7,Zio,Zip,Zi6,Zmt,Zmv,Zmw,Zmx,Zmz,Zm2,Zm6,Zna,Znb,Zos,Zot,Zo7,Zo8,Zo9,eq_self,true_and,fc_0,fc_54,fc_len,hd']
      tactic =>
      refine endA ?_
      sym =>
      simp [Zpc,eq_self]
    rw [if_neg hd2] at hR
    have hd' : ¬ IN r.length > (4 : Int) := by simp only [IN]; omega
    sym =>
    simp [Zab,Zad,Zae,Zaf,Zag,Zal,Zam,Zaz,Za0,Za1,Za2,Za3,Za4,Za5,Za9,Zba,Zbb,Zbf,Zbt,Zbv,Zcn,Zcx,Zdc,Zdd,Zde,Zev,Zew,Zez,Ze0,Ze2,Ze3,Ze5,Ze8,Zfc,Zfd,Zfe,Zfh,Zfn,Zfz,Zf3,Zgr,Zgs,Zgt,Zgv,Zgw,Zgx,Zh6,Zh7,Zio,Zip,Zi6,Zla,Zlb,Zle,Zlj,Zll,Zm6,Zna,Znb,Zne,Znf,Zng,Zos,Zot,Zo7,Zo8,Zo9,eq_self,true_and,and_true,fc_0,fc_19,fc_54,fc_len,hd',callable_122]
    tactic =>
    refine cl none (rise_con o r hr) trivial ?_
    by_cases hri : riF o r = true
    · rw [if_pos hri] at hR
      subst hR
      sym =>
      simp [Zaa,Zab,Zad,Zae,Zaf,Zak,Zal,Zam,Zao,Zap,Zar,Zay,Zaz,Za0,Za1,Za2,Za3,Za4,Za5,Za9,Zba,Zbb,Zbj,Zdi,Zev,Zew,Zez,Ze0,Ze2,Zfd,Zfe,Zfh,Zgd,Zgg,Zjw,Zlz,Zmt,Zmv,Zmw,Zmx,Zmz,Zm2,Zna,Znb,Zo3,Zo7,eq_self,true_and,hri]
      tactic =>
      refine endA ?_
      sym =>
      simp [Zpc,eq_self]
    · rw [if_neg hri] at hR
      have hri' : riF o r = false := by simpa using hri
      subst hR
      sym =>
      simp [Zab,Zad,Zae,Zaf,Zak,Zal,Zam,Zao,Zar,Zay,Zaz,Za0,Za1,Za2,Za3,Za4,Za5,Za9,Zba,Zbb,Zbj,Zdi,Zev,Zew,Zez,Ze0,Ze2,Zfd,Zfe,Zfh,Zgd,Zgg,Zjw,Zlz,Zmt,Zmv,Zmw,Zmx,Zmz,Zm2,Zna,Znb,Zo4,Zo7,eq_self,true_and,hri']
      tactic =>
      refine endA ?_
      sym =>
      simp [Zpc,eq_self]
  rw [if_neg h4] at hR
  by_cases h7 : k = 7
  · rw [if_pos h7] at hR
    subst h7
    by_cases hc1 : c < 1
    · rw [if_pos hc1] at hR
      subst hR
      sym =>
      simp [Zab,Zad,Zae,Zaf,Zag,Zak,Zal,Zam,Zao,Zar,Zay,Zaz,Za0,Za1,Za2,Za3,Za4,Za5,Za6,Za7,Za8,Za9,Zba,Zbb,Zbd,Zbf,Zbt,Zbv,Zcx,Zev,Zew,Zex,Zez,Ze0,Ze2,Ze3,Ze5,Ze8,Zfc,Zfd,Zfe,Zfh,Zfi,Zfj,Zfn,Zfz,Zf1,Zgr,Zgs,Zgt,Zgv,Zgw,Zgx,Zio,Zip,Zi6,Zmt,Zmv,Zmw,Zmx,Zmz,Zm2,Zm6,Zna,Znb,Zos,Zot,Zo6,Zo7,Zo8,Zo9,eq_self,true_and,fc_0,fc_55,fc_len,hc1]
      tactic =>
      refine endA ?_
      sym =>
      simp [Zpc,eq_self]
    rw [if_neg hc1] at hR
    by_cases hc2 : 99 < c
    · rw [if_pos hc2] at hR
      subst hR
      have hc' : c > 99 := hc2
      sym =>
      simp [Zab,Zad,Zae,Zaf,Zag,Zak,Zal,Zam,Zao,Zar,Zay,Zaz,Za0,Za1,Za2,Za3,Za4,Za5,Za6,Za7,Za9,Zba,Zbb,Zbd,Zbf,Zbt,Zbv,Zcx,Zev,Zew,Zex,Zez,Ze0,Ze2,Ze3,Ze5,Ze8,Zfc,Zfd,Zfe,Zfh,Zfi,Zfl,Zfn,Zfz,Zf1,Zf3,Zgr,Zgs,Zgt,Zgv,Zgw,Zgx,Zio,Zip,Zi6,Zmt,Zmv,Zmw,Zmx,Zmz,Zm2,Zm6,Zna,Znb,Zos,Zot,Zo7,Zo8,Zo9,eq_self,true_and,fc_0,fc_55,fc_len,hc1,hc']
      tactic =>
      refine endA ?_
      sym =>
      simp [Zpc,eq_self]
    · rw [if_neg hc2] at hR
      subst hR
      have hc' : ¬ c > 99 := hc2
      sym =>
      simp [Zaa,Zab,Zad,Zae,Zaf,Zag,Zak,Zal,Zam,Zao,Zar,Zay,Zaz,Za0,Za1,Za2,Za3,Za4,Za5,Za6,Za7,Za9,Zba,Zbb,Zbd,Zbf,Zbt,Zbv,Zcx,Zev,Zew,Zex,Zez,Ze0,Ze2,Ze3,Ze5,Ze8,Zfc,Zfd,Zfe,Zfh,Zfi,Zfl,Zfn,Zfz,Zf1,Zf3,Zgr,Zgs,Zgt,Zgv,Zgw,Zgx,Zio,Zip,Zi6,Zmt,Zmv,Zmw,Zmx,Zmz,Zm2,Zm6,Zna,Znb,Zos,Zot,Zo7,Zo8,Zo9,eq_self,true_and,fc_0,fc_55,fc_len,hc1,hc']
      tactic =>
      refine endA ?_
      sym =>
      simp [Zpc,eq_self]
  rw [if_neg h7] at hR
  subst hR
  sym =>
  simp [Zaa,Zab,Zad,Zae,Zaf,Zag,Zak,Zal,Zam,Zap,Zay,Zaz,Za0,Za1,Za2,Za3,Za4,Za5,Za9,Zba,Zbb,Zbf,Zbt,Zbv,Zcx,Zev,Zew,Zez,Ze0,Ze2,Ze3,Ze5,Ze8,Zfc,Zfd,Zfe,Zfh,Zfn,Zfz,Zgr,Zgs,Zgt,Zgv,Zgw,Zgx,Zio,Zip,Zi6,Zmt,Zmv,Zmw,Zmx,Zmz,Zm2,Zm6,Zna,Znb,Zos,Zot,Zo7,Zo9,eq_self,true_and,fc_0,fc_len,k1,k2,k5,k6,h3,h4,h7]
  tactic =>
  refine endA ?_
  sym =>
  simp [Zpc,eq_self]
def rgB (l : List Rg) : List Int := l.flatMap fun r => beN 8 r.1 ++ beN 8 r.2
theorem rgB_snoc (l : List Rg) (r : Rg) : rgB (l ++ [r]) = rgB l ++ beN 8 r.1 ++ beN 8 r.2 := by simp [rgB]
theorem rgB_length (l : List Rg) : (rgB l).length = 16 * l.length := by
  induction l with
  | nil => rfl
  | cons r l ih =>
    show (beN 8 r.1 ++ beN 8 r.2 ++ rgB l).length = _
    simp [beN_length, ih]; omega
/-- A frame's fields. -/
def bodyF (f : Fm) : List Int :=
  if f.k = 1 ∨ f.k = 5 then beN 8 f.n ++ f.su.1
  else if f.k = 6 then beN 8 f.n
  else if f.k = 7 then [f.c % 256]
  else beN 8 f.o ++ f.d ++ rgB f.r
theorem number_con' (b b' : List Int) (n : Int) (w m : Nat) (hw : w ≤ 8) (hm : b.length = m) (hb : m ≤ 100000000000000) (e : b' = b ++ beN w n) (m' : Nat) (hm' : m' = m + w) (wi : Int) (hwi : wi = IN w) : Con Try.prog 92 [(0, ⟨cB b, 1, 0⟩)] [.lv 0 0 m, L n, I wi] [(1, ⟨cB b', 1, 0⟩)] (.lv 1 0 m') := by
  subst hm e hm' hwi
  exact number_con b n w hw hb
def i26 (b : List Int) (r : List Rg) (k : Nat) (s : St) : Prop := ∃ i : Nat, i + k = r.length ∧ s = ⟨[(0, .lv 1 0 (b.length + 16 * i)), (41, fQ r), (42, I (IN r.length)), (43, I (IN i))], [(1, ⟨cB (b ++ rgB (r.take i)), 1, 0⟩)], 2⟩
theorem body_con (b : List Int) (f : Fm) (hb : b.length ≤ 1000000) (hd : f.d.length ≤ 1000000) (hr : f.r.length ≤ 1000000) (m : Nat) (hm : m = b.length + (bodyF f).length) : Con Try.prog 94 [(0, ⟨cB b, 1, 0⟩)] [.lv 0 0 b.length, .ag (fr f)] [(1, ⟨cB (b ++ bodyF f), 1, 0⟩)] (.lv 1 0 m) := by
  obtain ⟨k, t, es, er, o, n, su, d, r, c⟩ := f
  simp only at hd hr
  have h32 := su.2
  have hoI := cB_okI b
  have hbl := cB_length b
  have hsF := cB_okF su.1
  have hdF := cB_okF d
  by_cases h1 : k = 1 ∨ k = 5
  · have hbo : bodyF ⟨k, t, es, er, o, n, su, d, r, c⟩ = beN 8 n ++ su.1 := if_pos h1
    rw [hbo] at hm ⊢
    rw [List.length_append, beN_length, h32] at hm
    simp only [fr]
    refine con_n b94 rfl ?_
    obtain ⟨b1, hb1⟩ : ∃ b1, b1 = b ++ beN 8 n := ⟨_, rfl⟩
    have hn := number_con' b b1 n 8 b.length (by omega) rfl (by omega) hb1 (b.length + 8) rfl 8 rfl
    have hl1 : b1.length = b.length + 8 := by rw [hb1, List.length_append, beN_length]
    have hc : cB b1 ++ cB su.1 = cB (b ++ (beN 8 n ++ su.1)) := by rw [hb1, ← cB_append, List.append_assoc]
    have hq := cB_length b1
    rw [hl1] at hq
    rcases h1 with rfl | rfl
    · sym =>
      simp [Zaa,Zab,Zac,Zad,Zae,Zaf,Zag,Zah,Zai,Zak,Zal,Zam,Zan,Zao,Zap,Zaq,Zar,Zav,Zaw,Zay,Zaz,Za0,Za1,Za2,Za3,Za4,Za5,Za9,Zba,Zbb,Zbc,Zbf,Zbl,Zbt,Zbu,Zbv,Zbw,Zb1,Zck,Zcn,Zcv,Zcx,Zcz,Zc3,Zc5,Zc6,Zc7,Zc8,Zc9,Zdm,Zrj,Zrk,Zrl,Zrm,Zrn,Zro,Zrp,Zrq,Zrr,Zrs,Zru,Zrv,Zrw,Zrx,Zry,Zrz,Zr0,Zr2,Zr9,Zsd,Zse,Zsf,Zsg,Zsh,Zsj,Zsm,Zsn,Zso,Zsq,Zss,Zsy,Zth,Zti,Zdo,Zdp,Zdt,Zdu,Zdv,Zdw,Zdx,Zdy,Zdz,Zd0,Zd1,Zd2,Zeb,Zeh,Zek,Zeq,Zet,Zev,Zew,Zez,Ze0,Ze1,Ze2,Ze3,Ze4,Ze5,Ze8,Ze9,Zfc,Zfd,Zfe,Zff,Zfg,Zfh,Zfn,Zfq,Zfz,Zf1,Zgh,Zgi,Zgr,Zgs,Zgt,Zgu,Zgv,Zgw,Zgx,Zg4,Zg6,Zhf,Zhg,Zhh,Zhm,Zho,Zh1,Zh2,Zh3,Zh6,Zh7,Zin,Zio,Zip,Ziq,Zir,Ziu,Ziv,Ziw,Zix,Ziz,Zi0,Zi1,Zi2,Zi3,Zi6,Zi7,Zjh,Zji,Zjj,Zjk,Zjn,Zjo,Zlj,Zlt,Zlx,Zl2,Zmt,Zmv,Zmw,Zmx,Zmz,Zm2,Zm5,Zm6,Zm7,Zm9,Zna,Znb,Znc,Znd,Zne,Znf,Zng,Znh,Znl,Znm,Znn,Zno,Znp,Znr,Zns,Znt,Znw,Zn5,Zoc,Zrd,Zos,Zot,Zo7,Zo8,Zo9,Zpc,Zpi,Zpo,Zq5,Zq6,Zqf,Zqg,Zqh,Zqi,Zqk,Zql,Zqm,Zqn,List.append_assoc,List.length_append,eq_self,true_and,and_true,Nat.zero_add,Nat.add_zero,Nat.mul_one,fc_0,fc_19,fc_20,fc_53,fc_54,fc_55,fc_len,callable_92]
      tactic =>
      and_intros <;> try (first | omega | rfl | assumption | simp only [IN]; omega)
      refine clG [none] (some ⟨cB b1, 1, 0⟩) hn rfl ⟨trivial, cB_okI _, rfl⟩ ?_
      sym =>
      simp [Zaa,Zab,Zac,Zad,Zae,Zaf,Zag,Zah,Zai,Zak,Zal,Zam,Zan,Zao,Zap,Zaq,Zar,Zav,Zaw,Zay,Zaz,Za0,Za1,Za2,Za3,Za4,Za5,Za9,Zba,Zbb,Zbc,Zbf,Zbl,Zbt,Zbu,Zbv,Zbw,Zb1,Zck,Zcn,Zcv,Zcx,Zcz,Zc3,Zc5,Zc6,Zc7,Zc8,Zc9,Zdm,Zrj,Zrk,Zrl,Zrm,Zrn,Zro,Zrp,Zrq,Zrr,Zrs,Zru,Zrv,Zrw,Zrx,Zry,Zrz,Zr0,Zr2,Zr9,Zsd,Zse,Zsf,Zsg,Zsh,Zsj,Zsm,Zsn,Zso,Zsq,Zss,Zsy,Zth,Zti,Zdo,Zdp,Zdt,Zdu,Zdv,Zdw,Zdx,Zdy,Zdz,Zd0,Zd1,Zd2,Zeb,Zeh,Zek,Zeq,Zet,Zev,Zew,Zez,Ze0,Ze1,Ze2,Ze3,Ze4,Ze5,Ze8,Ze9,Zfc,Zfd,Zfe,Zff,Zfg,Zfh,Zfn,Zfq,Zfz,Zf1,Zgh,Zgi,Zgr,Zgs,Zgt,Zgu,Zgv,Zgw,Zgx,Zg4,Zg6,Zhf,Zhg,Zhh,Zhm,Zho,Zh1,Zh2,Zh3,Zh6,Zh7,Zin,Zio,Zip,Ziq,Zir,Ziu,Ziv,Ziw,Zix,Ziz,Zi0,Zi1,Zi2,Zi3,Zi6,Zi7,Zjh,Zji,Zjj,Zjk,Zjn,Zjo,Zlj,Zlt,Zlx,Zl2,Zmt,Zmv,Zmw,Zmx,Zmz,Zm2,Zm5,Zm6,Zm7,Zm9,Zna,Znb,Znc,Znd,Zne,Znf,Zng,Znh,Znl,Znm,Znn,Zno,Znp,Znr,Zns,Znt,Znw,Zn5,Zoc,Zrd,Zos,Zot,Zo7,Zo8,Zo9,Zpc,Zpi,Zpo,Zq5,Zq6,Zqf,Zqg,Zqh,Zqi,Zqk,Zql,Zqm,Zqn,List.append_assoc,List.length_append,eq_self,true_and,and_true,Nat.zero_add,Nat.add_zero,Nat.mul_one,fc_0,fc_19,fc_20,fc_53,fc_54,fc_55,fc_len,hq,fc_sum]
      tactic =>
      and_intros <;> try (first | omega | rfl | assumption | simp only [IN]; omega)
      rw [hc]
      refine endM [(1, 13)] 2 ?_
      sym =>
      simp [Zaa,Zab,Zac,Zad,Zae,Zaf,Zag,Zah,Zai,Zak,Zal,Zam,Zan,Zao,Zap,Zaq,Zar,Zav,Zaw,Zay,Zaz,Za0,Za1,Za2,Za3,Za4,Za5,Za9,Zba,Zbb,Zbc,Zbf,Zbl,Zbt,Zbu,Zbv,Zbw,Zb1,Zck,Zcn,Zcv,Zcx,Zcz,Zc3,Zc5,Zc6,Zc7,Zc8,Zc9,Zdm,Zrj,Zrk,Zrl,Zrm,Zrn,Zro,Zrp,Zrq,Zrr,Zrs,Zru,Zrv,Zrw,Zrx,Zry,Zrz,Zr0,Zr2,Zr9,Zsd,Zse,Zsf,Zsg,Zsh,Zsj,Zsm,Zsn,Zso,Zsq,Zss,Zsy,Zth,Zti,Zdo,Zdp,Zdt,Zdu,Zdv,Zdw,Zdx,Zdy,Zdz,Zd0,Zd1,Zd2,Zeb,Zeh,Zek,Zeq,Zet,Zev,Zew,Zez,Ze0,Ze1,Ze2,Ze3,Ze4,Ze5,Ze8,Ze9,Zfc,Zfd,Zfe,Zff,Zfg,Zfh,Zfn,Zfq,Zfz,Zf1,Zgh,Zgi,Zgr,Zgs,Zgt,Zgu,Zgv,Zgw,Zgx,Zg4,Zg6,Zhf,Zhg,Zhh,Zhm,Zho,Zh1,Zh2,Zh3,Zh6,Zh7,Zin,Zio,Zip,Ziq,Zir,Ziu,Ziv,Ziw,Zix,Ziz,Zi0,Zi1,Zi2,Zi3,Zi6,Zi7,Zjh,Zji,Zjj,Zjk,Zjn,Zjo,Zlj,Zlt,Zlx,Zl2,Zmt,Zmv,Zmw,Zmx,Zmz,Zm2,Zm5,Zm6,Zm7,Zm9,Zna,Znb,Znc,Znd,Zne,Znf,Zng,Znh,Znl,Znm,Znn,Zno,Znp,Znr,Zns,Znt,Znw,Zn5,Zoc,Zrd,Zos,Zot,Zo7,Zo8,Zo9,Zpc,Zpi,Zpo,Zq5,Zq6,Zqf,Zqg,Zqh,Zqi,Zqk,Zql,Zqm,Zqn,List.append_assoc,List.length_append,eq_self,true_and,and_true,Nat.zero_add,Nat.add_zero,Nat.mul_one]
      tactic =>
      exact ⟨by omega, cB_rs _ _ _ _ _ rfl⟩
    · sym =>
      simp [Zaa,Zab,Zac,Zad,Zae,Zaf,Zag,Zah,Zai,Zak,Zal,Zam,Zan,Zao,Zap,Zaq,Zar,Zav,Zaw,Zay,Zaz,Za0,Za1,Za2,Za3,Za4,Za5,Za9,Zba,Zbb,Zbc,Zbf,Zbl,Zbt,Zbu,Zbv,Zbw,Zb1,Zck,Zcn,Zcv,Zcx,Zcz,Zc3,Zc5,Zc6,Zc7,Zc8,Zc9,Zdm,Zrj,Zrk,Zrl,Zrm,Zrn,Zro,Zrp,Zrq,Zrr,Zrs,Zru,Zrv,Zrw,Zrx,Zry,Zrz,Zr0,Zr2,Zr9,Zsd,Zse,Zsf,Zsg,Zsh,Zsj,Zsm,Zsn,Zso,Zsq,Zss,Zsy,Zth,Zti,Zdo,Zdp,Zdt,Zdu,Zdv,Zdw,Zdx,Zdy,Zdz,Zd0,Zd1,Zd2,Zeb,Zeh,Zek,Zeq,Zet,Zev,Zew,Zez,Ze0,Ze1,Ze2,Ze3,Ze4,Ze5,Ze8,Ze9,Zfc,Zfd,Zfe,Zff,Zfg,Zfh,Zfn,Zfq,Zfz,Zf1,Zgh,Zgi,Zgr,Zgs,Zgt,Zgu,Zgv,Zgw,Zgx,Zg4,Zg6,Zhf,Zhg,Zhh,Zhm,Zho,Zh1,Zh2,Zh3,Zh6,Zh7,Zin,Zio,Zip,Ziq,Zir,Ziu,Ziv,Ziw,Zix,Ziz,Zi0,Zi1,Zi2,Zi3,Zi6,Zi7,Zjh,Zji,Zjj,Zjk,Zjn,Zjo,Zlj,Zlt,Zlx,Zl2,Zmt,Zmv,Zmw,Zmx,Zmz,Zm2,Zm5,Zm6,Zm7,Zm9,Zna,Znb,Znc,Znd,Zne,Znf,Zng,Znh,Znl,Znm,Znn,Zno,Znp,Znr,Zns,Znt,Znw,Zn5,Zoc,Zrd,Zos,Zot,Zo7,Zo8,Zo9,Zpc,Zpi,Zpo,Zq5,Zq6,Zqf,Zqg,Zqh,Zqi,Zqk,Zql,Zqm,Zqn,List.append_assoc,List.length_append,eq_self,true_and,and_true,Nat.zero_add,Nat.add_zero,Nat.mul_one,fc_0,fc_19,fc_20,fc_53,fc_54,fc_55,fc_len,callable_92]
      tactic =>
      and_intros <;> try (first | omega | rfl | assumption | simp only [IN]; omega)
      refine clG [none] (some ⟨cB b1, 1, 0⟩) hn rfl ⟨trivial, cB_okI _, rfl⟩ ?_
      sym =>
      simp [Zaa,Zab,Zac,Zad,Zae,Zaf,Zag,Zah,Zai,Zak,Zal,Zam,Zan,Zao,Zap,Zaq,Zar,Zav,Zaw,Zay,Zaz,Za0,Za1,Za2,Za3,Za4,Za5,Za9,Zba,Zbb,Zbc,Zbf,Zbl,Zbt,Zbu,Zbv,Zbw,Zb1,Zck,Zcn,Zcv,Zcx,Zcz,Zc3,Zc5,Zc6,Zc7,Zc8,Zc9,Zdm,Zrj,Zrk,Zrl,Zrm,Zrn,Zro,Zrp,Zrq,Zrr,Zrs,Zru,Zrv,Zrw,Zrx,Zry,Zrz,Zr0,Zr2,Zr9,Zsd,Zse,Zsf,Zsg,Zsh,Zsj,Zsm,Zsn,Zso,Zsq,Zss,Zsy,Zth,Zti,Zdo,Zdp,Zdt,Zdu,Zdv,Zdw,Zdx,Zdy,Zdz,Zd0,Zd1,Zd2,Zeb,Zeh,Zek,Zeq,Zet,Zev,Zew,Zez,Ze0,Ze1,Ze2,Ze3,Ze4,Ze5,Ze8,Ze9,Zfc,Zfd,Zfe,Zff,Zfg,Zfh,Zfn,Zfq,Zfz,Zf1,Zgh,Zgi,Zgr,Zgs,Zgt,Zgu,Zgv,Zgw,Zgx,Zg4,Zg6,Zhf,Zhg,Zhh,Zhm,Zho,Zh1,Zh2,Zh3,Zh6,Zh7,Zin,Zio,Zip,Ziq,Zir,Ziu,Ziv,Ziw,Zix,Ziz,Zi0,Zi1,Zi2,Zi3,Zi6,Zi7,Zjh,Zji,Zjj,Zjk,Zjn,Zjo,Zlj,Zlt,Zlx,Zl2,Zmt,Zmv,Zmw,Zmx,Zmz,Zm2,Zm5,Zm6,Zm7,Zm9,Zna,Znb,Znc,Znd,Zne,Znf,Zng,Znh,Znl,Znm,Znn,Zno,Znp,Znr,Zns,Znt,Znw,Zn5,Zoc,Zrd,Zos,Zot,Zo7,Zo8,Zo9,Zpc,Zpi,Zpo,Zq5,Zq6,Zqf,Zqg,Zqh,Zqi,Zqk,Zql,Zqm,Zqn,List.append_assoc,List.length_append,eq_self,true_and,and_true,Nat.zero_add,Nat.add_zero,Nat.mul_one,fc_0,fc_19,fc_20,fc_53,fc_54,fc_55,fc_len,hq,fc_sum]
      tactic =>
      and_intros <;> try (first | omega | rfl | assumption | simp only [IN]; omega)
      rw [hc]
      refine endM [(1, 15)] 2 ?_
      sym =>
      simp [Zaa,Zab,Zac,Zad,Zae,Zaf,Zag,Zah,Zai,Zak,Zal,Zam,Zan,Zao,Zap,Zaq,Zar,Zav,Zaw,Zay,Zaz,Za0,Za1,Za2,Za3,Za4,Za5,Za9,Zba,Zbb,Zbc,Zbf,Zbl,Zbt,Zbu,Zbv,Zbw,Zb1,Zck,Zcn,Zcv,Zcx,Zcz,Zc3,Zc5,Zc6,Zc7,Zc8,Zc9,Zdm,Zrj,Zrk,Zrl,Zrm,Zrn,Zro,Zrp,Zrq,Zrr,Zrs,Zru,Zrv,Zrw,Zrx,Zry,Zrz,Zr0,Zr2,Zr9,Zsd,Zse,Zsf,Zsg,Zsh,Zsj,Zsm,Zsn,Zso,Zsq,Zss,Zsy,Zth,Zti,Zdo,Zdp,Zdt,Zdu,Zdv,Zdw,Zdx,Zdy,Zdz,Zd0,Zd1,Zd2,Zeb,Zeh,Zek,Zeq,Zet,Zev,Zew,Zez,Ze0,Ze1,Ze2,Ze3,Ze4,Ze5,Ze8,Ze9,Zfc,Zfd,Zfe,Zff,Zfg,Zfh,Zfn,Zfq,Zfz,Zf1,Zgh,Zgi,Zgr,Zgs,Zgt,Zgu,Zgv,Zgw,Zgx,Zg4,Zg6,Zhf,Zhg,Zhh,Zhm,Zho,Zh1,Zh2,Zh3,Zh6,Zh7,Zin,Zio,Zip,Ziq,Zir,Ziu,Ziv,Ziw,Zix,Ziz,Zi0,Zi1,Zi2,Zi3,Zi6,Zi7,Zjh,Zji,Zjj,Zjk,Zjn,Zjo,Zlj,Zlt,Zlx,Zl2,Zmt,Zmv,Zmw,Zmx,Zmz,Zm2,Zm5,Zm6,Zm7,Zm9,Zna,Znb,Znc,Znd,Zne,Znf,Zng,Znh,Znl,Znm,Znn,Zno,Znp,Znr,Zns,Znt,Znw,Zn5,Zoc,Zrd,Zos,Zot,Zo7,Zo8,Zo9,Zpc,Zpi,Zpo,Zq5,Zq6,Zqf,Zqg,Zqh,Zqi,Zqk,Zql,Zqm,Zqn,List.append_assoc,List.length_append,eq_self,true_and,and_true,Nat.zero_add,Nat.add_zero,Nat.mul_one]
      tactic =>
      exact ⟨by omega, cB_rs _ _ _ _ _ rfl⟩
  have k1 : ¬ k = 1 := fun e => h1 (.inl e)
  have k5 : ¬ k = 5 := fun e => h1 (.inr e)
  by_cases h6 : k = 6
  · have hbo : bodyF ⟨k, t, es, er, o, n, su, d, r, c⟩ = beN 8 n := (if_neg h1).trans (if_pos h6)
    rw [hbo] at hm ⊢
    rw [beN_length] at hm
    subst h6
    simp only [fr]
    refine con_n b94 rfl ?_
    have hn := number_con' b (b ++ beN 8 n) n 8 b.length (by omega) rfl (by omega) rfl (b.length + 8) rfl 8 rfl
    obtain ⟨b1, hb1⟩ : ∃ b1, b1 = b ++ beN 8 n := ⟨_, rfl⟩
    rw [← hb1] at hn ⊢
    sym =>
    simp [Zaa,Zab,Zac,Zad,Zae,Zaf,Zag,Zah,Zai,Zak,Zal,Zam,Zan,Zao,Zap,Zaq,Zar,Zav,Zaw,Zay,Zaz,Za0,Za1,Za2,Za3,Za4,Za5,Za9,Zba,Zbb,Zbc,Zbf,Zbl,Zbt,Zbu,Zbv,Zbw,Zb1,Zck,Zcn,Zcv,Zcx,Zcz,Zc3,Zc5,Zc6,Zc7,Zc8,Zc9,Zdm,Zrj,Zrk,Zrl,Zrm,Zrn,Zro,Zrp,Zrq,Zrr,Zrs,Zru,Zrv,Zrw,Zrx,Zry,Zrz,Zr0,Zr2,Zr9,Zsd,Zse,Zsf,Zsg,Zsh,Zsj,Zsm,Zsn,Zso,Zsq,Zss,Zsy,Zth,Zti,Zdo,Zdp,Zdt,Zdu,Zdv,Zdw,Zdx,Zdy,Zdz,Zd0,Zd1,Zd2,Zeb,Zeh,Zek,Zeq,Zet,Zev,Zew,Zez,Ze0,Ze1,Ze2,Ze3,Ze4,Ze5,Ze8,Ze9,Zfc,Zfd,Zfe,Zff,Zfg,Zfh,Zfn,Zfq,Zfz,Zf1,Zgh,Zgi,Zgr,Zgs,Zgt,Zgu,Zgv,Zgw,Zgx,Zg4,Zg6,Zhf,Zhg,Zhh,Zhm,Zho,Zh1,Zh2,Zh3,Zh6,Zh7,Zin,Zio,Zip,Ziq,Zir,Ziu,Ziv,Ziw,Zix,Ziz,Zi0,Zi1,Zi2,Zi3,Zi6,Zi7,Zjh,Zji,Zjj,Zjk,Zjn,Zjo,Zlj,Zlt,Zlx,Zl2,Zmt,Zmv,Zmw,Zmx,Zmz,Zm2,Zm5,Zm6,Zm7,Zm9,Zna,Znb,Znc,Znd,Zne,Znf,Zng,Znh,Znl,Znm,Znn,Zno,Znp,Znr,Zns,Znt,Znw,Zn5,Zoc,Zrd,Zos,Zot,Zo7,Zo8,Zo9,Zpc,Zpi,Zpo,Zq5,Zq6,Zqf,Zqg,Zqh,Zqi,Zqk,Zql,Zqm,Zqn,List.append_assoc,List.length_append,eq_self,true_and,and_true,Nat.zero_add,Nat.add_zero,Nat.mul_one,fc_0,fc_19,fc_20,fc_53,fc_54,fc_55,fc_len,callable_92]
    tactic =>
    and_intros <;> try (first | omega | rfl | assumption | simp only [IN]; omega)
    refine clG [none] (some ⟨cB b1, 1, 0⟩) hn rfl ⟨trivial, cB_okI _, rfl⟩ ?_
    sym =>
    simp [Zaa,Zab,Zac,Zad,Zae,Zaf,Zag,Zah,Zai,Zak,Zal,Zam,Zan,Zao,Zap,Zaq,Zar,Zav,Zaw,Zay,Zaz,Za0,Za1,Za2,Za3,Za4,Za5,Za9,Zba,Zbb,Zbc,Zbf,Zbl,Zbt,Zbu,Zbv,Zbw,Zb1,Zck,Zcn,Zcv,Zcx,Zcz,Zc3,Zc5,Zc6,Zc7,Zc8,Zc9,Zdm,Zrj,Zrk,Zrl,Zrm,Zrn,Zro,Zrp,Zrq,Zrr,Zrs,Zru,Zrv,Zrw,Zrx,Zry,Zrz,Zr0,Zr2,Zr9,Zsd,Zse,Zsf,Zsg,Zsh,Zsj,Zsm,Zsn,Zso,Zsq,Zss,Zsy,Zth,Zti,Zdo,Zdp,Zdt,Zdu,Zdv,Zdw,Zdx,Zdy,Zdz,Zd0,Zd1,Zd2,Zeb,Zeh,Zek,Zeq,Zet,Zev,Zew,Zez,Ze0,Ze1,Ze2,Ze3,Ze4,Ze5,Ze8,Ze9,Zfc,Zfd,Zfe,Zff,Zfg,Zfh,Zfn,Zfq,Zfz,Zf1,Zgh,Zgi,Zgr,Zgs,Zgt,Zgu,Zgv,Zgw,Zgx,Zg4,Zg6,Zhf,Zhg,Zhh,Zhm,Zho,Zh1,Zh2,Zh3,Zh6,Zh7,Zin,Zio,Zip,Ziq,Zir,Ziu,Ziv,Ziw,Zix,Ziz,Zi0,Zi1,Zi2,Zi3,Zi6,Zi7,Zjh,Zji,Zjj,Zjk,Zjn,Zjo,Zlj,Zlt,Zlx,Zl2,Zmt,Zmv,Zmw,Zmx,Zmz,Zm2,Zm5,Zm6,Zm7,Zm9,Zna,Znb,Znc,Znd,Zne,Znf,Zng,Znh,Znl,Znm,Znn,Zno,Znp,Znr,Zns,Znt,Znw,Zn5,Zoc,Zrd,Zos,Zot,Zo7,Zo8,Zo9,Zpc,Zpi,Zpo,Zq5,Zq6,Zqf,Zqg,Zqh,Zqi,Zqk,Zql,Zqm,Zqn,List.append_assoc,List.length_append,eq_self,true_and,and_true,Nat.zero_add,Nat.add_zero,Nat.mul_one,fc_0,fc_19,fc_20,fc_53,fc_54,fc_55,fc_len]
    tactic =>
    refine endM [(1, 14)] 2 ?_
    sym =>
    simp [Zaa,Zab,Zac,Zad,Zae,Zaf,Zag,Zah,Zai,Zak,Zal,Zam,Zan,Zao,Zap,Zaq,Zar,Zav,Zaw,Zay,Zaz,Za0,Za1,Za2,Za3,Za4,Za5,Za9,Zba,Zbb,Zbc,Zbf,Zbl,Zbt,Zbu,Zbv,Zbw,Zb1,Zck,Zcn,Zcv,Zcx,Zcz,Zc3,Zc5,Zc6,Zc7,Zc8,Zc9,Zdm,Zrj,Zrk,Zrl,Zrm,Zrn,Zro,Zrp,Zrq,Zrr,Zrs,Zru,Zrv,Zrw,Zrx,Zry,Zrz,Zr0,Zr2,Zr9,Zsd,Zse,Zsf,Zsg,Zsh,Zsj,Zsm,Zsn,Zso,Zsq,Zss,Zsy,Zth,Zti,Zdo,Zdp,Zdt,Zdu,Zdv,Zdw,Zdx,Zdy,Zdz,Zd0,Zd1,Zd2,Zeb,Zeh,Zek,Zeq,Zet,Zev,Zew,Zez,Ze0,Ze1,Ze2,Ze3,Ze4,Ze5,Ze8,Ze9,Zfc,Zfd,Zfe,Zff,Zfg,Zfh,Zfn,Zfq,Zfz,Zf1,Zgh,Zgi,Zgr,Zgs,Zgt,Zgu,Zgv,Zgw,Zgx,Zg4,Zg6,Zhf,Zhg,Zhh,Zhm,Zho,Zh1,Zh2,Zh3,Zh6,Zh7,Zin,Zio,Zip,Ziq,Zir,Ziu,Ziv,Ziw,Zix,Ziz,Zi0,Zi1,Zi2,Zi3,Zi6,Zi7,Zjh,Zji,Zjj,Zjk,Zjn,Zjo,Zlj,Zlt,Zlx,Zl2,Zmt,Zmv,Zmw,Zmx,Zmz,Zm2,Zm5,Zm6,Zm7,Zm9,Zna,Znb,Znc,Znd,Zne,Znf,Zng,Znh,Znl,Znm,Znn,Zno,Znp,Znr,Zns,Znt,Znw,Zn5,Zoc,Zrd,Zos,Zot,Zo7,Zo8,Zo9,Zpc,Zpi,Zpo,Zq5,Zq6,Zqf,Zqg,Zqh,Zqi,Zqk,Zql,Zqm,Zqn,List.append_assoc,List.length_append,eq_self,true_and,and_true,Nat.zero_add,Nat.add_zero,Nat.mul_one]
    tactic =>
    exact ⟨by omega, cB_rs _ _ _ _ _ rfl⟩
  by_cases h7 : k = 7
  · have hbo : bodyF ⟨k, t, es, er, o, n, su, d, r, c⟩ = [c % 256] := (if_neg h1).trans ((if_neg h6).trans (if_pos h7))
    rw [hbo] at hm ⊢
    subst h7
    simp only [fr]
    simp only [List.length_cons, List.length_nil] at hm
    refine con_n b94 rfl ?_
    have hw := w8u c
    have hc : cB b ++ [Y (c % 256)] = cB (b ++ [c % 256]) := by rw [cB_append]; rfl
    sym =>
    simp [Zaa,Zab,Zac,Zad,Zae,Zaf,Zag,Zah,Zai,Zak,Zal,Zam,Zan,Zao,Zap,Zaq,Zar,Zav,Zaw,Zay,Zaz,Za0,Za1,Za2,Za3,Za4,Za5,Za9,Zba,Zbb,Zbc,Zbf,Zbl,Zbt,Zbu,Zbv,Zbw,Zb1,Zck,Zcn,Zcv,Zcx,Zcz,Zc3,Zc5,Zc6,Zc7,Zc8,Zc9,Zdm,Zrj,Zrk,Zrl,Zrm,Zrn,Zro,Zrp,Zrq,Zrr,Zrs,Zru,Zrv,Zrw,Zrx,Zry,Zrz,Zr0,Zr2,Zr9,Zsd,Zse,Zsf,Zsg,Zsh,Zsj,Zsm,Zsn,Zso,Zsq,Zss,Zsy,Zth,Zti,Zdo,Zdp,Zdt,Zdu,Zdv,Zdw,Zdx,Zdy,Zdz,Zd0,Zd1,Zd2,Zeb,Zeh,Zek,Zeq,Zet,Zev,Zew,Zez,Ze0,Ze1,Ze2,Ze3,Ze4,Ze5,Ze8,Ze9,Zfc,Zfd,Zfe,Zff,Zfg,Zfh,Zfn,Zfq,Zfz,Zf1,Zgh,Zgi,Zgr,Zgs,Zgt,Zgu,Zgv,Zgw,Zgx,Zg4,Zg6,Zhf,Zhg,Zhh,Zhm,Zho,Zh1,Zh2,Zh3,Zh6,Zh7,Zin,Zio,Zip,Ziq,Zir,Ziu,Ziv,Ziw,Zix,Ziz,Zi0,Zi1,Zi2,Zi3,Zi6,Zi7,Zjh,Zji,Zjj,Zjk,Zjn,Zjo,Zlj,Zlt,Zlx,Zl2,Zmt,Zmv,Zmw,Zmx,Zmz,Zm2,Zm5,Zm6,Zm7,Zm9,Zna,Znb,Znc,Znd,Zne,Znf,Zng,Znh,Znl,Znm,Znn,Zno,Znp,Znr,Zns,Znt,Znw,Zn5,Zoc,Zrd,Zos,Zot,Zo7,Zo8,Zo9,Zpc,Zpi,Zpo,Zq5,Zq6,Zqf,Zqg,Zqh,Zqi,Zqk,Zql,Zqm,Zqn,List.append_assoc,List.length_append,eq_self,true_and,and_true,Nat.zero_add,Nat.add_zero,Nat.mul_one,fc_0,fc_19,fc_20,fc_53,fc_54,fc_55,fc_len,hw]
    tactic =>
    and_intros <;> try (first | omega | rfl | assumption | simp only [IN]; omega)
    rw [hc]
    refine endM [(1, 18)] 2 ?_
    sym =>
    simp [Zaa,Zab,Zac,Zad,Zae,Zaf,Zag,Zah,Zai,Zak,Zal,Zam,Zan,Zao,Zap,Zaq,Zar,Zav,Zaw,Zay,Zaz,Za0,Za1,Za2,Za3,Za4,Za5,Za9,Zba,Zbb,Zbc,Zbf,Zbl,Zbt,Zbu,Zbv,Zbw,Zb1,Zck,Zcn,Zcv,Zcx,Zcz,Zc3,Zc5,Zc6,Zc7,Zc8,Zc9,Zdm,Zrj,Zrk,Zrl,Zrm,Zrn,Zro,Zrp,Zrq,Zrr,Zrs,Zru,Zrv,Zrw,Zrx,Zry,Zrz,Zr0,Zr2,Zr9,Zsd,Zse,Zsf,Zsg,Zsh,Zsj,Zsm,Zsn,Zso,Zsq,Zss,Zsy,Zth,Zti,Zdo,Zdp,Zdt,Zdu,Zdv,Zdw,Zdx,Zdy,Zdz,Zd0,Zd1,Zd2,Zeb,Zeh,Zek,Zeq,Zet,Zev,Zew,Zez,Ze0,Ze1,Ze2,Ze3,Ze4,Ze5,Ze8,Ze9,Zfc,Zfd,Zfe,Zff,Zfg,Zfh,Zfn,Zfq,Zfz,Zf1,Zgh,Zgi,Zgr,Zgs,Zgt,Zgu,Zgv,Zgw,Zgx,Zg4,Zg6,Zhf,Zhg,Zhh,Zhm,Zho,Zh1,Zh2,Zh3,Zh6,Zh7,Zin,Zio,Zip,Ziq,Zir,Ziu,Ziv,Ziw,Zix,Ziz,Zi0,Zi1,Zi2,Zi3,Zi6,Zi7,Zjh,Zji,Zjj,Zjk,Zjn,Zjo,Zlj,Zlt,Zlx,Zl2,Zmt,Zmv,Zmw,Zmx,Zmz,Zm2,Zm5,Zm6,Zm7,Zm9,Zna,Znb,Znc,Znd,Zne,Znf,Zng,Znh,Znl,Znm,Znn,Zno,Znp,Znr,Zns,Znt,Znw,Zn5,Zoc,Zrd,Zos,Zot,Zo7,Zo8,Zo9,Zpc,Zpi,Zpo,Zq5,Zq6,Zqf,Zqg,Zqh,Zqi,Zqk,Zql,Zqm,Zqn,List.append_assoc,List.length_append,eq_self,true_and,and_true,Nat.zero_add,Nat.add_zero,Nat.mul_one]
    tactic =>
    exact ⟨by omega, cB_rs _ _ _ _ _ rfl⟩
  have hbo : bodyF ⟨k, t, es, er, o, n, su, d, r, c⟩ = beN 8 o ++ d ++ rgB r := (if_neg h1).trans ((if_neg h6).trans (if_neg h7))
  rw [hbo] at hm ⊢
  rw [List.length_append, List.length_append, beN_length, rgB_length] at hm
  simp only [fr]
  refine con_n b94 rfl ?_
  obtain ⟨b1, hb1⟩ : ∃ b1, b1 = b ++ beN 8 o := ⟨_, rfl⟩
  have hn := number_con' b b1 o 8 b.length (by omega) rfl (by omega) hb1 (b.length + 8) rfl 8 rfl
  have hl1 : b1.length = b.length + 8 := by rw [hb1, List.length_append, beN_length]
  obtain ⟨b2, hb2⟩ : ∃ b2, b2 = b1 ++ d := ⟨_, rfl⟩
  have hl2 : b2.length = b.length + 8 + d.length := by rw [hb2, List.length_append, hl1]
  have hc : cB b1 ++ cB d = cB b2 := by rw [hb2, ← cB_append]
  have hq := cB_length b1
  rw [hl1] at hq
  have hdl := cB_length d
  sym =>
  simp [Zaa,Zab,Zac,Zad,Zae,Zaf,Zag,Zah,Zai,Zak,Zal,Zam,Zan,Zao,Zap,Zaq,Zar,Zav,Zaw,Zay,Zaz,Za0,Za1,Za2,Za3,Za4,Za5,Za9,Zba,Zbb,Zbc,Zbf,Zbl,Zbt,Zbu,Zbv,Zbw,Zb1,Zck,Zcn,Zcv,Zcx,Zcz,Zc3,Zc5,Zc6,Zc7,Zc8,Zc9,Zdm,Zrj,Zrk,Zrl,Zrm,Zrn,Zro,Zrp,Zrq,Zrr,Zrs,Zru,Zrv,Zrw,Zrx,Zry,Zrz,Zr0,Zr2,Zr9,Zsd,Zse,Zsf,Zsg,Zsh,Zsj,Zsm,Zsn,Zso,Zsq,Zss,Zsy,Zth,Zti,Zdo,Zdp,Zdt,Zdu,Zdv,Zdw,Zdx,Zdy,Zdz,Zd0,Zd1,Zd2,Zeb,Zeh,Zek,Zeq,Zet,Zev,Zew,Zez,Ze0,Ze1,Ze2,Ze3,Ze4,Ze5,Ze8,Ze9,Zfc,Zfd,Zfe,Zff,Zfg,Zfh,Zfn,Zfq,Zfz,Zf1,Zgh,Zgi,Zgr,Zgs,Zgt,Zgu,Zgv,Zgw,Zgx,Zg4,Zg6,Zhf,Zhg,Zhh,Zhm,Zho,Zh1,Zh2,Zh3,Zh6,Zh7,Zin,Zio,Zip,Ziq,Zir,Ziu,Ziv,Ziw,Zix,Ziz,Zi0,Zi1,Zi2,Zi3,Zi6,Zi7,Zjh,Zji,Zjj,Zjk,Zjn,Zjo,Zlj,Zlt,Zlx,Zl2,Zmt,Zmv,Zmw,Zmx,Zmz,Zm2,Zm5,Zm6,Zm7,Zm9,Zna,Znb,Znc,Znd,Zne,Znf,Zng,Znh,Znl,Znm,Znn,Zno,Znp,Znr,Zns,Znt,Znw,Zn5,Zoc,Zrd,Zos,Zot,Zo7,Zo8,Zo9,Zpc,Zpi,Zpo,Zq5,Zq6,Zqf,Zqg,Zqh,Zqi,Zqk,Zql,Zqm,Zqn,List.append_assoc,List.length_append,eq_self,true_and,and_true,Nat.zero_add,Nat.add_zero,Nat.mul_one,fc_0,fc_19,fc_20,fc_53,fc_54,fc_55,fc_len,k1,k5,h6,h7,callable_92]
  tactic =>
  and_intros <;> try (first | omega | rfl | assumption | simp only [IN]; omega)
  refine clG [none] (some ⟨cB b1, 1, 0⟩) hn rfl ⟨trivial, cB_okI _, rfl⟩ ?_
  sym =>
  simp [Zaa,Zab,Zac,Zad,Zae,Zaf,Zag,Zah,Zai,Zak,Zal,Zam,Zan,Zao,Zap,Zaq,Zar,Zav,Zaw,Zay,Zaz,Za0,Za1,Za2,Za3,Za4,Za5,Za9,Zba,Zbb,Zbc,Zbf,Zbl,Zbt,Zbu,Zbv,Zbw,Zb1,Zck,Zcn,Zcv,Zcx,Zcz,Zc3,Zc5,Zc6,Zc7,Zc8,Zc9,Zdm,Zrj,Zrk,Zrl,Zrm,Zrn,Zro,Zrp,Zrq,Zrr,Zrs,Zru,Zrv,Zrw,Zrx,Zry,Zrz,Zr0,Zr2,Zr9,Zsd,Zse,Zsf,Zsg,Zsh,Zsj,Zsm,Zsn,Zso,Zsq,Zss,Zsy,Zth,Zti,Zdo,Zdp,Zdt,Zdu,Zdv,Zdw,Zdx,Zdy,Zdz,Zd0,Zd1,Zd2,Zeb,Zeh,Zek,Zeq,Zet,Zev,Zew,Zez,Ze0,Ze1,Ze2,Ze3,Ze4,Ze5,Ze8,Ze9,Zfc,Zfd,Zfe,Zff,Zfg,Zfh,Zfn,Zfq,Zfz,Zf1,Zgh,Zgi,Zgr,Zgs,Zgt,Zgu,Zgv,Zgw,Zgx,Zg4,Zg6,Zhf,Zhg,Zhh,Zhm,Zho,Zh1,Zh2,Zh3,Zh6,Zh7,Zin,Zio,Zip,Ziq,Zir,Ziu,Ziv,Ziw,Zix,Ziz,Zi0,Zi1,Zi2,Zi3,Zi6,Zi7,Zjh,Zji,Zjj,Zjk,Zjn,Zjo,Zlj,Zlt,Zlx,Zl2,Zmt,Zmv,Zmw,Zmx,Zmz,Zm2,Zm5,Zm6,Zm7,Zm9,Zna,Znb,Znc,Znd,Zne,Znf,Zng,Znh,Znl,Znm,Znn,Zno,Znp,Znr,Zns,Znt,Znw,Zn5,Zoc,Zrd,Zos,Zot,Zo7,Zo8,Zo9,Zpc,Zpi,Zpo,Zq5,Zq6,Zqf,Zqg,Zqh,Zqi,Zqk,Zql,Zqm,Zqn,List.append_assoc,List.length_append,eq_self,true_and,and_true,Nat.zero_add,Nat.add_zero,Nat.mul_one,fc_0,fc_19,fc_20,fc_53,fc_54,fc_55,fc_len,hq,hdl]
  tactic =>
  and_intros <;> try (first | omega | rfl | assumption | simp only [IN]; omega)
  rw [hc]
  refine lpA (i26 b2 r) r.length [(1, 19)] _ ⟨0, by omega, rfl⟩ (wkM ?_) ?_
  · sym =>
    simp [Zaa,Zab,Zac,Zad,Zae,Zaf,Zag,Zah,Zai,Zak,Zal,Zam,Zan,Zao,Zap,Zaq,Zar,Zav,Zaw,Zay,Zaz,Za0,Za1,Za2,Za3,Za4,Za5,Za9,Zba,Zbb,Zbc,Zbf,Zbl,Zbt,Zbu,Zbv,Zbw,Zb1,Zck,Zcn,Zcv,Zcx,Zcz,Zc3,Zc5,Zc6,Zc7,Zc8,Zc9,Zdm,Zrj,Zrk,Zrl,Zrm,Zrn,Zro,Zrp,Zrq,Zrr,Zrs,Zru,Zrv,Zrw,Zrx,Zry,Zrz,Zr0,Zr2,Zr9,Zsd,Zse,Zsf,Zsg,Zsh,Zsj,Zsm,Zsn,Zso,Zsq,Zss,Zsy,Zth,Zti,Zdo,Zdp,Zdt,Zdu,Zdv,Zdw,Zdx,Zdy,Zdz,Zd0,Zd1,Zd2,Zeb,Zeh,Zek,Zeq,Zet,Zev,Zew,Zez,Ze0,Ze1,Ze2,Ze3,Ze4,Ze5,Ze8,Ze9,Zfc,Zfd,Zfe,Zff,Zfg,Zfh,Zfn,Zfq,Zfz,Zf1,Zgh,Zgi,Zgr,Zgs,Zgt,Zgu,Zgv,Zgw,Zgx,Zg4,Zg6,Zhf,Zhg,Zhh,Zhm,Zho,Zh1,Zh2,Zh3,Zh6,Zh7,Zin,Zio,Zip,Ziq,Zir,Ziu,Ziv,Ziw,Zix,Ziz,Zi0,Zi1,Zi2,Zi3,Zi6,Zi7,Zjh,Zji,Zjj,Zjk,Zjn,Zjo,Zlj,Zlt,Zlx,Zl2,Zmt,Zmv,Zmw,Zmx,Zmz,Zm2,Zm5,Zm6,Zm7,Zm9,Zna,Znb,Znc,Znd,Zne,Znf,Zng,Znh,Znl,Znm,Znn,Zno,Znp,Znr,Zns,Znt,Znw,Zn5,Zoc,Zrd,Zos,Zot,Zo7,Zo8,Zo9,Zpc,Zpi,Zpo,Zq5,Zq6,Zqf,Zqg,Zqh,Zqi,Zqk,Zql,Zqm,Zqn,List.append_assoc,List.length_append,eq_self,true_and,and_true,Nat.zero_add,Nat.add_zero,Nat.mul_one]
    tactic =>
    exact ⟨by omega, cB_rs _ _ _ _ _ (by simp [rgB])⟩
  rintro kk s ⟨i, hi, rfl⟩
  by_cases h : i < r.length
  · have hw := w64s i (by omega)
    have a0 := cQ_q0 r i h
    have a1 := cQ_q1 r i h
    have ht := take_step r i h
    obtain ⟨x, hx⟩ : ∃ x, x = r[i] := ⟨_, rfl⟩
    rw [← hx] at a0 a1 ht
    obtain ⟨w0, hw0⟩ : ∃ w0, w0 = b2 ++ rgB (r.take i) := ⟨_, rfl⟩
    have hwl : w0.length = b2.length + 16 * i := by rw [hw0, List.length_append, rgB_length, List.length_take]; omega
    obtain ⟨w1, hw1⟩ : ∃ w1, w1 = w0 ++ beN 8 x.1 := ⟨_, rfl⟩
    obtain ⟨w2, hw2⟩ : ∃ w2, w2 = w1 ++ beN 8 x.2 := ⟨_, rfl⟩
    have hw1l : w1.length = b2.length + 16 * i + 8 := by rw [hw1, List.length_append, hwl, beN_length]
    have hn1 := number_con' w0 w1 x.1 8 _ (by omega) hwl (by omega) hw1 _ rfl 8 rfl
    have hn2 := number_con' w1 w2 x.2 8 _ (by omega) hw1l (by omega) hw2 _ rfl 8 rfl
    have hwe : w2 = b2 ++ rgB (r.take (i + 1)) := by rw [hw2, hw1, hw0, ht, rgB_snoc]; simp
    have hI0 := cB_okI w0
    have hI1 := cB_okI w1
    have hc0 := cB_length w0
    have hc1 := cB_length w1
    rw [hwl] at hc0
    rw [hw1l] at hc1
    rw [← hw0]
    sym =>
    simp [Zaa,Zab,Zac,Zad,Zae,Zaf,Zag,Zah,Zai,Zak,Zal,Zam,Zan,Zao,Zap,Zaq,Zar,Zav,Zaw,Zay,Zaz,Za0,Za1,Za2,Za3,Za4,Za5,Za9,Zba,Zbb,Zbc,Zbf,Zbl,Zbt,Zbu,Zbv,Zbw,Zb1,Zck,Zcn,Zcv,Zcx,Zcz,Zc3,Zc5,Zc6,Zc7,Zc8,Zc9,Zdm,Zrj,Zrk,Zrl,Zrm,Zrn,Zro,Zrp,Zrq,Zrr,Zrs,Zru,Zrv,Zrw,Zrx,Zry,Zrz,Zr0,Zr2,Zr9,Zsd,Zse,Zsf,Zsg,Zsh,Zsj,Zsm,Zsn,Zso,Zsq,Zss,Zsy,Zth,Zti,Zdo,Zdp,Zdt,Zdu,Zdv,Zdw,Zdx,Zdy,Zdz,Zd0,Zd1,Zd2,Zeb,Zeh,Zek,Zeq,Zet,Zev,Zew,Zez,Ze0,Ze1,Ze2,Ze3,Ze4,Ze5,Ze8,Ze9,Zfc,Zfd,Zfe,Zff,Zfg,Zfh,Zfn,Zfq,Zfz,Zf1,Zgh,Zgi,Zgr,Zgs,Zgt,Zgu,Zgv,Zgw,Zgx,Zg4,Zg6,Zhf,Zhg,Zhh,Zhm,Zho,Zh1,Zh2,Zh3,Zh6,Zh7,Zin,Zio,Zip,Ziq,Zir,Ziu,Ziv,Ziw,Zix,Ziz,Zi0,Zi1,Zi2,Zi3,Zi6,Zi7,Zjh,Zji,Zjj,Zjk,Zjn,Zjo,Zlj,Zlt,Zlx,Zl2,Zmt,Zmv,Zmw,Zmx,Zmz,Zm2,Zm5,Zm6,Zm7,Zm9,Zna,Znb,Znc,Znd,Zne,Znf,Zng,Znh,Znl,Znm,Znn,Zno,Znp,Znr,Zns,Znt,Znw,Zn5,Zoc,Zrd,Zos,Zot,Zo7,Zo8,Zo9,Zpc,Zpi,Zpo,Zq5,Zq6,Zqf,Zqg,Zqh,Zqi,Zqk,Zql,Zqm,Zqn,List.append_assoc,List.length_append,eq_self,true_and,and_true,Nat.zero_add,Nat.add_zero,Nat.mul_one,h,hw,a0,a1,cQ_length,callable_92]
    tactic =>
    and_intros <;> try (first | omega | rfl | assumption | simp only [IN]; omega)
    refine clG [none] (some ⟨cB w1, 1, 0⟩) hn1 rfl ⟨trivial, cB_okI _, rfl⟩ ?_
    sym =>
    simp [Zaa,Zab,Zac,Zad,Zae,Zaf,Zag,Zah,Zai,Zak,Zal,Zam,Zan,Zao,Zap,Zaq,Zar,Zav,Zaw,Zay,Zaz,Za0,Za1,Za2,Za3,Za4,Za5,Za9,Zba,Zbb,Zbc,Zbf,Zbl,Zbt,Zbu,Zbv,Zbw,Zb1,Zck,Zcn,Zcv,Zcx,Zcz,Zc3,Zc5,Zc6,Zc7,Zc8,Zc9,Zdm,Zrj,Zrk,Zrl,Zrm,Zrn,Zro,Zrp,Zrq,Zrr,Zrs,Zru,Zrv,Zrw,Zrx,Zry,Zrz,Zr0,Zr2,Zr9,Zsd,Zse,Zsf,Zsg,Zsh,Zsj,Zsm,Zsn,Zso,Zsq,Zss,Zsy,Zth,Zti,Zdo,Zdp,Zdt,Zdu,Zdv,Zdw,Zdx,Zdy,Zdz,Zd0,Zd1,Zd2,Zeb,Zeh,Zek,Zeq,Zet,Zev,Zew,Zez,Ze0,Ze1,Ze2,Ze3,Ze4,Ze5,Ze8,Ze9,Zfc,Zfd,Zfe,Zff,Zfg,Zfh,Zfn,Zfq,Zfz,Zf1,Zgh,Zgi,Zgr,Zgs,Zgt,Zgu,Zgv,Zgw,Zgx,Zg4,Zg6,Zhf,Zhg,Zhh,Zhm,Zho,Zh1,Zh2,Zh3,Zh6,Zh7,Zin,Zio,Zip,Ziq,Zir,Ziu,Ziv,Ziw,Zix,Ziz,Zi0,Zi1,Zi2,Zi3,Zi6,Zi7,Zjh,Zji,Zjj,Zjk,Zjn,Zjo,Zlj,Zlt,Zlx,Zl2,Zmt,Zmv,Zmw,Zmx,Zmz,Zm2,Zm5,Zm6,Zm7,Zm9,Zna,Znb,Znc,Znd,Zne,Znf,Zng,Znh,Znl,Znm,Znn,Zno,Znp,Znr,Zns,Znt,Znw,Zn5,Zoc,Zrd,Zos,Zot,Zo7,Zo8,Zo9,Zpc,Zpi,Zpo,Zq5,Zq6,Zqf,Zqg,Zqh,Zqi,Zqk,Zql,Zqm,Zqn,List.append_assoc,List.length_append,eq_self,true_and,and_true,Nat.zero_add,Nat.add_zero,Nat.mul_one,callable_92]
    tactic =>
    and_intros <;> try (first | omega | rfl | assumption | simp only [IN]; omega)
    refine clG [none] (some ⟨cB w2, 1, 0⟩) hn2 rfl ⟨trivial, cB_okI _, rfl⟩ ?_
    sym =>
    simp [Zaa,Zab,Zac,Zad,Zae,Zaf,Zag,Zah,Zai,Zak,Zal,Zam,Zan,Zao,Zap,Zaq,Zar,Zav,Zaw,Zay,Zaz,Za0,Za1,Za2,Za3,Za4,Za5,Za9,Zba,Zbb,Zbc,Zbf,Zbl,Zbt,Zbu,Zbv,Zbw,Zb1,Zck,Zcn,Zcv,Zcx,Zcz,Zc3,Zc5,Zc6,Zc7,Zc8,Zc9,Zdm,Zrj,Zrk,Zrl,Zrm,Zrn,Zro,Zrp,Zrq,Zrr,Zrs,Zru,Zrv,Zrw,Zrx,Zry,Zrz,Zr0,Zr2,Zr9,Zsd,Zse,Zsf,Zsg,Zsh,Zsj,Zsm,Zsn,Zso,Zsq,Zss,Zsy,Zth,Zti,Zdo,Zdp,Zdt,Zdu,Zdv,Zdw,Zdx,Zdy,Zdz,Zd0,Zd1,Zd2,Zeb,Zeh,Zek,Zeq,Zet,Zev,Zew,Zez,Ze0,Ze1,Ze2,Ze3,Ze4,Ze5,Ze8,Ze9,Zfc,Zfd,Zfe,Zff,Zfg,Zfh,Zfn,Zfq,Zfz,Zf1,Zgh,Zgi,Zgr,Zgs,Zgt,Zgu,Zgv,Zgw,Zgx,Zg4,Zg6,Zhf,Zhg,Zhh,Zhm,Zho,Zh1,Zh2,Zh3,Zh6,Zh7,Zin,Zio,Zip,Ziq,Zir,Ziu,Ziv,Ziw,Zix,Ziz,Zi0,Zi1,Zi2,Zi3,Zi6,Zi7,Zjh,Zji,Zjj,Zjk,Zjn,Zjo,Zlj,Zlt,Zlx,Zl2,Zmt,Zmv,Zmw,Zmx,Zmz,Zm2,Zm5,Zm6,Zm7,Zm9,Zna,Znb,Znc,Znd,Zne,Znf,Zng,Znh,Znl,Znm,Znn,Zno,Znp,Znr,Zns,Znt,Znw,Zn5,Zoc,Zrd,Zos,Zot,Zo7,Zo8,Zo9,Zpc,Zpi,Zpo,Zq5,Zq6,Zqf,Zqg,Zqh,Zqi,Zqk,Zql,Zqm,Zqn,List.append_assoc,List.length_append,eq_self,true_and,and_true,Nat.zero_add,Nat.add_zero,Nat.mul_one,hw]
    tactic =>
    and_intros <;> try (first | omega | rfl | assumption | simp only [IN]; omega)
    unfold NextL; refine ⟨(kk - 1), [(1, 13)], _, by omega, ⟨i + 1, by omega, rfl⟩, wkM ?_⟩
    sym =>
    simp [Zaa,Zab,Zac,Zad,Zae,Zaf,Zag,Zah,Zai,Zak,Zal,Zam,Zan,Zao,Zap,Zaq,Zar,Zav,Zaw,Zay,Zaz,Za0,Za1,Za2,Za3,Za4,Za5,Za9,Zba,Zbb,Zbc,Zbf,Zbl,Zbt,Zbu,Zbv,Zbw,Zb1,Zck,Zcn,Zcv,Zcx,Zcz,Zc3,Zc5,Zc6,Zc7,Zc8,Zc9,Zdm,Zrj,Zrk,Zrl,Zrm,Zrn,Zro,Zrp,Zrq,Zrr,Zrs,Zru,Zrv,Zrw,Zrx,Zry,Zrz,Zr0,Zr2,Zr9,Zsd,Zse,Zsf,Zsg,Zsh,Zsj,Zsm,Zsn,Zso,Zsq,Zss,Zsy,Zth,Zti,Zdo,Zdp,Zdt,Zdu,Zdv,Zdw,Zdx,Zdy,Zdz,Zd0,Zd1,Zd2,Zeb,Zeh,Zek,Zeq,Zet,Zev,Zew,Zez,Ze0,Ze1,Ze2,Ze3,Ze4,Ze5,Ze8,Ze9,Zfc,Zfd,Zfe,Zff,Zfg,Zfh,Zfn,Zfq,Zfz,Zf1,Zgh,Zgi,Zgr,Zgs,Zgt,Zgu,Zgv,Zgw,Zgx,Zg4,Zg6,Zhf,Zhg,Zhh,Zhm,Zho,Zh1,Zh2,Zh3,Zh6,Zh7,Zin,Zio,Zip,Ziq,Zir,Ziu,Ziv,Ziw,Zix,Ziz,Zi0,Zi1,Zi2,Zi3,Zi6,Zi7,Zjh,Zji,Zjj,Zjk,Zjn,Zjo,Zlj,Zlt,Zlx,Zl2,Zmt,Zmv,Zmw,Zmx,Zmz,Zm2,Zm5,Zm6,Zm7,Zm9,Zna,Znb,Znc,Znd,Zne,Znf,Zng,Znh,Znl,Znm,Znn,Zno,Znp,Znr,Zns,Znt,Znw,Zn5,Zoc,Zrd,Zos,Zot,Zo7,Zo8,Zo9,Zpc,Zpi,Zpo,Zq5,Zq6,Zqf,Zqg,Zqh,Zqi,Zqk,Zql,Zqm,Zqn,List.append_assoc,List.length_append,eq_self,true_and,and_true,Nat.zero_add,Nat.add_zero,Nat.mul_one]
    tactic =>
    exact ⟨by omega, cB_rs _ _ _ _ _ (by rw [hwe])⟩
  · have e : r.take i = r := List.take_of_length_le (by omega)
    obtain rfl : i = r.length := by omega
    have he : b2 ++ rgB r = b ++ (beN 8 o ++ d ++ rgB r) := by rw [hb2, hb1]; simp
    rw [e, he]
    sym =>
    simp [Zaa,Zab,Zac,Zad,Zae,Zaf,Zag,Zah,Zai,Zak,Zal,Zam,Zan,Zao,Zap,Zaq,Zar,Zav,Zaw,Zay,Zaz,Za0,Za1,Za2,Za3,Za4,Za5,Za9,Zba,Zbb,Zbc,Zbf,Zbl,Zbt,Zbu,Zbv,Zbw,Zb1,Zck,Zcn,Zcv,Zcx,Zcz,Zc3,Zc5,Zc6,Zc7,Zc8,Zc9,Zdm,Zrj,Zrk,Zrl,Zrm,Zrn,Zro,Zrp,Zrq,Zrr,Zrs,Zru,Zrv,Zrw,Zrx,Zry,Zrz,Zr0,Zr2,Zr9,Zsd,Zse,Zsf,Zsg,Zsh,Zsj,Zsm,Zsn,Zso,Zsq,Zss,Zsy,Zth,Zti,Zdo,Zdp,Zdt,Zdu,Zdv,Zdw,Zdx,Zdy,Zdz,Zd0,Zd1,Zd2,Zeb,Zeh,Zek,Zeq,Zet,Zev,Zew,Zez,Ze0,Ze1,Ze2,Ze3,Ze4,Ze5,Ze8,Ze9,Zfc,Zfd,Zfe,Zff,Zfg,Zfh,Zfn,Zfq,Zfz,Zf1,Zgh,Zgi,Zgr,Zgs,Zgt,Zgu,Zgv,Zgw,Zgx,Zg4,Zg6,Zhf,Zhg,Zhh,Zhm,Zho,Zh1,Zh2,Zh3,Zh6,Zh7,Zin,Zio,Zip,Ziq,Zir,Ziu,Ziv,Ziw,Zix,Ziz,Zi0,Zi1,Zi2,Zi3,Zi6,Zi7,Zjh,Zji,Zjj,Zjk,Zjn,Zjo,Zlj,Zlt,Zlx,Zl2,Zmt,Zmv,Zmw,Zmx,Zmz,Zm2,Zm5,Zm6,Zm7,Zm9,Zna,Znb,Znc,Znd,Zne,Znf,Zng,Znh,Znl,Znm,Znn,Zno,Znp,Znr,Zns,Znt,Znw,Zn5,Zoc,Zrd,Zos,Zot,Zo7,Zo8,Zo9,Zpc,Zpi,Zpo,Zq5,Zq6,Zqf,Zqg,Zqh,Zqi,Zqk,Zql,Zqm,Zqn,List.append_assoc,List.length_append,eq_self,true_and,and_true,Nat.zero_add,Nat.add_zero,Nat.mul_one,h]
    tactic =>
    refine endM [(1, 1)] 2 ?_
    sym =>
    simp [Zaa,Zab,Zac,Zad,Zae,Zaf,Zag,Zah,Zai,Zak,Zal,Zam,Zan,Zao,Zap,Zaq,Zar,Zav,Zaw,Zay,Zaz,Za0,Za1,Za2,Za3,Za4,Za5,Za9,Zba,Zbb,Zbc,Zbf,Zbl,Zbt,Zbu,Zbv,Zbw,Zb1,Zck,Zcn,Zcv,Zcx,Zcz,Zc3,Zc5,Zc6,Zc7,Zc8,Zc9,Zdm,Zrj,Zrk,Zrl,Zrm,Zrn,Zro,Zrp,Zrq,Zrr,Zrs,Zru,Zrv,Zrw,Zrx,Zry,Zrz,Zr0,Zr2,Zr9,Zsd,Zse,Zsf,Zsg,Zsh,Zsj,Zsm,Zsn,Zso,Zsq,Zss,Zsy,Zth,Zti,Zdo,Zdp,Zdt,Zdu,Zdv,Zdw,Zdx,Zdy,Zdz,Zd0,Zd1,Zd2,Zeb,Zeh,Zek,Zeq,Zet,Zev,Zew,Zez,Ze0,Ze1,Ze2,Ze3,Ze4,Ze5,Ze8,Ze9,Zfc,Zfd,Zfe,Zff,Zfg,Zfh,Zfn,Zfq,Zfz,Zf1,Zgh,Zgi,Zgr,Zgs,Zgt,Zgu,Zgv,Zgw,Zgx,Zg4,Zg6,Zhf,Zhg,Zhh,Zhm,Zho,Zh1,Zh2,Zh3,Zh6,Zh7,Zin,Zio,Zip,Ziq,Zir,Ziu,Ziv,Ziw,Zix,Ziz,Zi0,Zi1,Zi2,Zi3,Zi6,Zi7,Zjh,Zji,Zjj,Zjk,Zjn,Zjo,Zlj,Zlt,Zlx,Zl2,Zmt,Zmv,Zmw,Zmx,Zmz,Zm2,Zm5,Zm6,Zm7,Zm9,Zna,Znb,Znc,Znd,Zne,Znf,Zng,Znh,Znl,Znm,Znn,Zno,Znp,Znr,Zns,Znt,Znw,Zn5,Zoc,Zrd,Zos,Zot,Zo7,Zo8,Zo9,Zpc,Zpi,Zpo,Zq5,Zq6,Zqf,Zqg,Zqh,Zqi,Zqk,Zql,Zqm,Zqn,List.append_assoc,List.length_append,eq_self,true_and,and_true,Nat.zero_add,Nat.add_zero,Nat.mul_one]
    tactic =>
    exact ⟨by omega, cB_rs _ _ _ _ _ rfl⟩
end Go.Proofs.Ytbmdahhhgpbchaa.LyC
