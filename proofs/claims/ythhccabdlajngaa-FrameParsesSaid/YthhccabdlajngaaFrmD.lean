import Derived.Test.YthhccabdlajngaaFrmC
namespace Go.Proofs.Ythhccabdlajngaa.FrmD
open Go Go.Sim Go.Sim.E Go.RowKit Go.Proofs Go.Proofs.Ythhccabdlajngaa.Cod Go.Proofs.Ythhccabdlajngaa.Tab Go.Proofs.Ythhccabdlajngaa.Bse Go.Proofs.Ythhccabdlajngaa.Krc Go.Proofs.Ythhccabdlajngaa.FrmA Go.Proofs.Ythhccabdlajngaa.FrmB Go.Proofs.Ythhccabdlajngaa.FrmC
set_option linter.unusedVariables false
set_option linter.unusedSimpArgs false
set_option maxRecDepth 100000
set_option maxHeartbeats 4000000
/-- A frame. -/
structure Fm where
  k : Int
  t : V 16
  es : Int
  er : Int
  o : Int
  n : Int
  su : V 32
  d : List Int
  r : List Rg
  c : Int
def fr (f : Fm) : List AV := fc f.k f.t f.es f.er f.o f.n f.su (fB f.d) (fR f.r) f.c
def bare (f : Fm) : Fm :=
  if f.k = 1 ∨ f.k = 5 then ⟨f.k, f.t, f.es, f.er, 0, f.n, f.su, [], [], 0⟩
  else if f.k = 2 then ⟨f.k, f.t, f.es, f.er, f.o, 0, z32, [], [], 0⟩
  else if f.k = 3 then ⟨f.k, f.t, f.es, f.er, f.o, 0, z32, f.d, [], 0⟩
  else if f.k = 4 then ⟨f.k, f.t, f.es, f.er, f.o, 0, z32, [], f.r, 0⟩
  else if f.k = 6 then ⟨f.k, f.t, f.es, f.er, 0, f.n, z32, [], [], 0⟩
  else if f.k = 7 then ⟨f.k, f.t, f.es, f.er, 0, 0, z32, [], [], f.c⟩
  else ⟨f.k, f.t, f.es, f.er, 0, 0, z32, [], [], 0⟩
theorem bare_con (f : Fm) (hd : f.d.length ≤ 1000000) (hr : f.r.length ≤ 1000000) : Con Try.prog 14 [] [.ag (fr f)] [] (.ag (fr (bare f))) := by
  obtain ⟨k, t, es, er, o, n, su, d, r, c⟩ := f
  simp only at hd hr
  by_cases h1 : k = 1
  · subst h1
    have hb : bare ⟨1, t, es, er, o, n, su, d, r, c⟩ = ⟨1, t, es, er, 0, n, su, [], [], 0⟩ := rfl
    rw [hb]
    simp only [fr]
    refine con_j b14 rfl ?_
    sym =>
    simp [Zaa,Zab,Zac,Zad,Zae,Zaf,Zag,Zak,Zal,Zam,Zap,Zaz,Za0,Za1,Za2,Za3,Za4,Za5,Za9,Zba,Zbb,Zbf,Zbt,Zbu,Zbv,Zbw,Zb9,Zcv,Zcx,Zc3,Zc4,Zc7,Zc8,Zc9,Zdf,Zdg,Zdh,Zdj,Zdk,Zdm,Zdo,Zdp,Zdt,Zdu,Zdv,Zdw,Zdx,Zdy,Zdz,Zd0,Zd1,Zd2,Zeb,Zek,Zen,Zeq,Zet,Zev,Zew,Zez,Ze0,Ze1,Ze2,Ze3,Ze5,Ze8,Zfc,Zfd,Zfe,Zfh,Zfn,Zfz,Zgr,Zgs,Zgt,Zgv,Zgw,Zgx,Zhd,Zhe,Zhf,Zhg,Zhh,Zin,Zio,Zip,Ziu,Ziv,Ziw,Zi6,Zi7,Zjb,Zjh,Zji,Zjn,Zj2,Zj7,Zkb,Zla,Zlb,Zle,Zll,Zlz,Zl2,Zmt,Zmv,Zmw,Zmy,Zm0,Zm1,Zm2,Zm5,Zm6,Zm7,Zna,Znb,Znc,Znd,Zne,Znf,Zng,Znn,Zno,Zos,Zot,Zo7,Zo8,Zo9,Zpg,Zpv,Zp8,eq_self,true_and,and_true,zF_fc,fc_0,fc_17,fc_18,fc_19,fc_20,fc_53,fc_54,fc_55,fs_0,fs_17,fs_18,fs_19,fs_20,fs_53,fs_54,fs_55,fp_1,fp_21,fp_f,rb_1,rb_21,rb_0,fc_len,fc_ok,fc_id,fc_rs,v16,v32,cB_cells]
    tactic =>
    refine endA ?_
    sym =>
    simp [Zaa,Zab,Zac,Zad,Zae,Zaf,Zag,Zak,Zal,Zam,Zap,Zaz,Za0,Za1,Za2,Za3,Za4,Za5,Za9,Zba,Zbb,Zbf,Zbt,Zbu,Zbv,Zbw,Zb9,Zcv,Zcx,Zc3,Zc4,Zc7,Zc8,Zc9,Zdf,Zdg,Zdh,Zdj,Zdk,Zdm,Zdo,Zdp,Zdt,Zdu,Zdv,Zdw,Zdx,Zdy,Zdz,Zd0,Zd1,Zd2,Zeb,Zek,Zen,Zeq,Zet,Zev,Zew,Zez,Ze0,Ze1,Ze2,Ze3,Ze5,Ze8,Zfc,Zfd,Zfe,Zfh,Zfn,Zfz,Zgr,Zgs,Zgt,Zgv,Zgw,Zgx,Zhd,Zhe,Zhf,Zhg,Zhh,Zin,Zio,Zip,Ziu,Ziv,Ziw,Zi6,Zi7,Zjb,Zjh,Zji,Zjn,Zj2,Zj7,Zkb,Zla,Zlb,Zle,Zll,Zlz,Zl2,Zmt,Zmv,Zmw,Zmy,Zm0,Zm1,Zm2,Zm5,Zm6,Zm7,Zna,Znb,Znc,Znd,Zne,Znf,Zng,Znn,Zno,Zos,Zot,Zo7,Zo8,Zo9,Zpg,Zpv,Zp8,eq_self,true_and,and_true,zF_fc,fc_0,fc_17,fc_18,fc_19,fc_20,fc_53,fc_54,fc_55,fs_0,fs_17,fs_18,fs_19,fs_20,fs_53,fs_54,fs_55,fp_1,fp_21,fp_f,rb_1,rb_21,rb_0,fc_len,fc_ok,fc_id,fc_rs,v16,v32,cB_cells]
    tactic =>
    all_goals (first | rfl | exact ⟨rfl, rfl⟩)
  by_cases h5 : k = 5
  · subst h5
    have hb : bare ⟨5, t, es, er, o, n, su, d, r, c⟩ = ⟨5, t, es, er, 0, n, su, [], [], 0⟩ := rfl
    rw [hb]
    simp only [fr]
    refine con_j b14 rfl ?_
    sym =>
    simp [Zaa,Zab,Zac,Zad,Zae,Zaf,Zag,Zak,Zal,Zam,Zap,Zaz,Za0,Za1,Za2,Za3,Za4,Za5,Za9,Zba,Zbb,Zbf,Zbt,Zbu,Zbv,Zbw,Zb9,Zcv,Zcx,Zc3,Zc4,Zc7,Zc8,Zc9,Zdf,Zdg,Zdh,Zdj,Zdk,Zdm,Zdo,Zdp,Zdt,Zdu,Zdv,Zdw,Zdx,Zdy,Zdz,Zd0,Zd1,Zd2,Zeb,Zek,Zen,Zeq,Zet,Zev,Zew,Zez,Ze0,Ze1,Ze2,Ze3,Ze5,Ze8,Zfc,Zfd,Zfe,Zfh,Zfn,Zfz,Zgr,Zgs,Zgt,Zgv,Zgw,Zgx,Zhd,Zhe,Zhf,Zhg,Zhh,Zin,Zio,Zip,Ziu,Ziv,Ziw,Zi6,Zi7,Zjb,Zjh,Zji,Zjn,Zj2,Zj7,Zkb,Zla,Zlb,Zle,Zll,Zlz,Zl2,Zmt,Zmv,Zmw,Zmy,Zm0,Zm1,Zm2,Zm5,Zm6,Zm7,Zna,Znb,Znc,Znd,Zne,Znf,Zng,Znn,Zno,Zos,Zot,Zo7,Zo8,Zo9,Zpg,Zpv,Zp8,eq_self,true_and,and_true,zF_fc,fc_0,fc_17,fc_18,fc_19,fc_20,fc_53,fc_54,fc_55,fs_0,fs_17,fs_18,fs_19,fs_20,fs_53,fs_54,fs_55,fp_1,fp_21,fp_f,rb_1,rb_21,rb_0,fc_len,fc_ok,fc_id,fc_rs,v16,v32,cB_cells]
    tactic =>
    refine endA ?_
    sym =>
    simp [Zaa,Zab,Zac,Zad,Zae,Zaf,Zag,Zak,Zal,Zam,Zap,Zaz,Za0,Za1,Za2,Za3,Za4,Za5,Za9,Zba,Zbb,Zbf,Zbt,Zbu,Zbv,Zbw,Zb9,Zcv,Zcx,Zc3,Zc4,Zc7,Zc8,Zc9,Zdf,Zdg,Zdh,Zdj,Zdk,Zdm,Zdo,Zdp,Zdt,Zdu,Zdv,Zdw,Zdx,Zdy,Zdz,Zd0,Zd1,Zd2,Zeb,Zek,Zen,Zeq,Zet,Zev,Zew,Zez,Ze0,Ze1,Ze2,Ze3,Ze5,Ze8,Zfc,Zfd,Zfe,Zfh,Zfn,Zfz,Zgr,Zgs,Zgt,Zgv,Zgw,Zgx,Zhd,Zhe,Zhf,Zhg,Zhh,Zin,Zio,Zip,Ziu,Ziv,Ziw,Zi6,Zi7,Zjb,Zjh,Zji,Zjn,Zj2,Zj7,Zkb,Zla,Zlb,Zle,Zll,Zlz,Zl2,Zmt,Zmv,Zmw,Zmy,Zm0,Zm1,Zm2,Zm5,Zm6,Zm7,Zna,Znb,Znc,Znd,Zne,Znf,Zng,Znn,Zno,Zos,Zot,Zo7,Zo8,Zo9,Zpg,Zpv,Zp8,eq_self,true_and,and_true,zF_fc,fc_0,fc_17,fc_18,fc_19,fc_20,fc_53,fc_54,fc_55,fs_0,fs_17,fs_18,fs_19,fs_20,fs_53,fs_54,fs_55,fp_1,fp_21,fp_f,rb_1,rb_21,rb_0,fc_len,fc_ok,fc_id,fc_rs,v16,v32,cB_cells]
    tactic =>
    all_goals (first | rfl | exact ⟨rfl, rfl⟩)
  by_cases h2 : k = 2
  · subst h2
    have hb : bare ⟨2, t, es, er, o, n, su, d, r, c⟩ = ⟨2, t, es, er, o, 0, z32, [], [], 0⟩ := rfl
    rw [hb]
    simp only [fr]
    refine con_j b14 rfl ?_
    sym =>
    simp [Zaa,Zab,Zac,Zad,Zae,Zaf,Zag,Zak,Zal,Zam,Zap,Zaz,Za0,Za1,Za2,Za3,Za4,Za5,Za9,Zba,Zbb,Zbf,Zbt,Zbu,Zbv,Zbw,Zb9,Zcv,Zcx,Zc3,Zc4,Zc7,Zc8,Zc9,Zdf,Zdg,Zdh,Zdj,Zdk,Zdm,Zdo,Zdp,Zdt,Zdu,Zdv,Zdw,Zdx,Zdy,Zdz,Zd0,Zd1,Zd2,Zeb,Zek,Zen,Zeq,Zet,Zev,Zew,Zez,Ze0,Ze1,Ze2,Ze3,Ze5,Ze8,Zfc,Zfd,Zfe,Zfh,Zfn,Zfz,Zgr,Zgs,Zgt,Zgv,Zgw,Zgx,Zhd,Zhe,Zhf,Zhg,Zhh,Zin,Zio,Zip,Ziu,Ziv,Ziw,Zi6,Zi7,Zjb,Zjh,Zji,Zjn,Zj2,Zj7,Zkb,Zla,Zlb,Zle,Zll,Zlz,Zl2,Zmt,Zmv,Zmw,Zmy,Zm0,Zm1,Zm2,Zm5,Zm6,Zm7,Zna,Znb,Znc,Znd,Zne,Znf,Zng,Znn,Zno,Zos,Zot,Zo7,Zo8,Zo9,Zpg,Zpv,Zp8,eq_self,true_and,and_true,zF_fc,fc_0,fc_17,fc_18,fc_19,fc_20,fc_53,fc_54,fc_55,fs_0,fs_17,fs_18,fs_19,fs_20,fs_53,fs_54,fs_55,fp_1,fp_21,fp_f,rb_1,rb_21,rb_0,fc_len,fc_ok,fc_id,fc_rs,v16,v32,cB_cells]
    tactic =>
    refine endA ?_
    sym =>
    simp [Zaa,Zab,Zac,Zad,Zae,Zaf,Zag,Zak,Zal,Zam,Zap,Zaz,Za0,Za1,Za2,Za3,Za4,Za5,Za9,Zba,Zbb,Zbf,Zbt,Zbu,Zbv,Zbw,Zb9,Zcv,Zcx,Zc3,Zc4,Zc7,Zc8,Zc9,Zdf,Zdg,Zdh,Zdj,Zdk,Zdm,Zdo,Zdp,Zdt,Zdu,Zdv,Zdw,Zdx,Zdy,Zdz,Zd0,Zd1,Zd2,Zeb,Zek,Zen,Zeq,Zet,Zev,Zew,Zez,Ze0,Ze1,Ze2,Ze3,Ze5,Ze8,Zfc,Zfd,Zfe,Zfh,Zfn,Zfz,Zgr,Zgs,Zgt,Zgv,Zgw,Zgx,Zhd,Zhe,Zhf,Zhg,Zhh,Zin,Zio,Zip,Ziu,Ziv,Ziw,Zi6,Zi7,Zjb,Zjh,Zji,Zjn,Zj2,Zj7,Zkb,Zla,Zlb,Zle,Zll,Zlz,Zl2,Zmt,Zmv,Zmw,Zmy,Zm0,Zm1,Zm2,Zm5,Zm6,Zm7,Zna,Znb,Znc,Znd,Zne,Znf,Zng,Znn,Zno,Zos,Zot,Zo7,Zo8,Zo9,Zpg,Zpv,Zp8,eq_self,true_and,and_true,zF_fc,fc_0,fc_17,fc_18,fc_19,fc_20,fc_53,fc_54,fc_55,fs_0,fs_17,fs_18,fs_19,fs_20,fs_53,fs_54,fs_55,fp_1,fp_21,fp_f,rb_1,rb_21,rb_0,fc_len,fc_ok,fc_id,fc_rs,v16,v32,cB_cells]
    tactic =>
    all_goals (first | rfl | exact ⟨rfl, rfl⟩)
  by_cases h3 : k = 3
  · subst h3
    have hb : bare ⟨3, t, es, er, o, n, su, d, r, c⟩ = ⟨3, t, es, er, o, 0, z32, d, [], 0⟩ := rfl
    rw [hb]
    simp only [fr]
    refine con_j b14 rfl ?_
    sym =>
    simp [Zaa,Zab,Zac,Zad,Zae,Zaf,Zag,Zak,Zal,Zam,Zap,Zaz,Za0,Za1,Za2,Za3,Za4,Za5,Za9,Zba,Zbb,Zbf,Zbt,Zbu,Zbv,Zbw,Zb9,Zcv,Zcx,Zc3,Zc4,Zc7,Zc8,Zc9,Zdf,Zdg,Zdh,Zdj,Zdk,Zdm,Zdo,Zdp,Zdt,Zdu,Zdv,Zdw,Zdx,Zdy,Zdz,Zd0,Zd1,Zd2,Zeb,Zek,Zen,Zeq,Zet,Zev,Zew,Zez,Ze0,Ze1,Ze2,Ze3,Ze5,Ze8,Zfc,Zfd,Zfe,Zfh,Zfn,Zfz,Zgr,Zgs,Zgt,Zgv,Zgw,Zgx,Zhd,Zhe,Zhf,Zhg,Zhh,Zin,Zio,Zip,Ziu,Ziv,Ziw,Zi6,Zi7,Zjb,Zjh,Zji,Zjn,Zj2,Zj7,Zkb,Zla,Zlb,Zle,Zll,Zlz,Zl2,Zmt,Zmv,Zmw,Zmy,Zm0,Zm1,Zm2,Zm5,Zm6,Zm7,Zna,Znb,Znc,Znd,Zne,Znf,Zng,Znn,Zno,Zos,Zot,Zo7,Zo8,Zo9,Zpg,Zpv,Zp8,eq_self,true_and,and_true,zF_fc,fc_0,fc_17,fc_18,fc_19,fc_20,fc_53,fc_54,fc_55,fs_0,fs_17,fs_18,fs_19,fs_20,fs_53,fs_54,fs_55,fp_1,fp_21,fp_f,rb_1,rb_21,rb_0,fc_len,fc_ok,fc_id,fc_rs,v16,v32,cB_cells,callable_32,callable_33]
    tactic =>
    refine cl none (clone_con d (by omega)) trivial ?_
    sym =>
    simp [Zaa,Zab,Zac,Zad,Zae,Zaf,Zag,Zak,Zal,Zam,Zap,Zaz,Za0,Za1,Za2,Za3,Za4,Za5,Za9,Zba,Zbb,Zbf,Zbt,Zbu,Zbv,Zbw,Zb9,Zcv,Zcx,Zc3,Zc4,Zc7,Zc8,Zc9,Zdf,Zdg,Zdh,Zdj,Zdk,Zdm,Zdo,Zdp,Zdt,Zdu,Zdv,Zdw,Zdx,Zdy,Zdz,Zd0,Zd1,Zd2,Zeb,Zek,Zen,Zeq,Zet,Zev,Zew,Zez,Ze0,Ze1,Ze2,Ze3,Ze5,Ze8,Zfc,Zfd,Zfe,Zfh,Zfn,Zfz,Zgr,Zgs,Zgt,Zgv,Zgw,Zgx,Zhd,Zhe,Zhf,Zhg,Zhh,Zin,Zio,Zip,Ziu,Ziv,Ziw,Zi6,Zi7,Zjb,Zjh,Zji,Zjn,Zj2,Zj7,Zkb,Zla,Zlb,Zle,Zll,Zlz,Zl2,Zmt,Zmv,Zmw,Zmy,Zm0,Zm1,Zm2,Zm5,Zm6,Zm7,Zna,Znb,Znc,Znd,Zne,Znf,Zng,Znn,Zno,Zos,Zot,Zo7,Zo8,Zo9,Zpg,Zpv,Zp8,eq_self,true_and,and_true,zF_fc,fc_0,fc_17,fc_18,fc_19,fc_20,fc_53,fc_54,fc_55,fs_0,fs_17,fs_18,fs_19,fs_20,fs_53,fs_54,fs_55,fp_1,fp_21,fp_f,rb_1,rb_21,rb_0,fc_len,fc_ok,fc_id,fc_rs,v16,v32,cB_cells]
    tactic =>
    refine endA ?_
    sym =>
    simp [Zaa,Zab,Zac,Zad,Zae,Zaf,Zag,Zak,Zal,Zam,Zap,Zaz,Za0,Za1,Za2,Za3,Za4,Za5,Za9,Zba,Zbb,Zbf,Zbt,Zbu,Zbv,Zbw,Zb9,Zcv,Zcx,Zc3,Zc4,Zc7,Zc8,Zc9,Zdf,Zdg,Zdh,Zdj,Zdk,Zdm,Zdo,Zdp,Zdt,Zdu,Zdv,Zdw,Zdx,Zdy,Zdz,Zd0,Zd1,Zd2,Zeb,Zek,Zen,Zeq,Zet,Zev,Zew,Zez,Ze0,Ze1,Ze2,Ze3,Ze5,Ze8,Zfc,Zfd,Zfe,Zfh,Zfn,Zfz,Zgr,Zgs,Zgt,Zgv,Zgw,Zgx,Zhd,Zhe,Zhf,Zhg,Zhh,Zin,Zio,Zip,Ziu,Ziv,Ziw,Zi6,Zi7,Zjb,Zjh,Zji,Zjn,Zj2,Zj7,Zkb,Zla,Zlb,Zle,Zll,Zlz,Zl2,Zmt,Zmv,Zmw,Zmy,Zm0,Zm1,Zm2,Zm5,Zm6,Zm7,Zna,Znb,Znc,Znd,Zne,Znf,Zng,Znn,Zno,Zos,Zot,Zo7,Zo8,Zo9,Zpg,Zpv,Zp8,eq_self,true_and,and_true,zF_fc,fc_0,fc_17,fc_18,fc_19,fc_20,fc_53,fc_54,fc_55,fs_0,fs_17,fs_18,fs_19,fs_20,fs_53,fs_54,fs_55,fp_1,fp_21,fp_f,rb_1,rb_21,rb_0,fc_len,fc_ok,fc_id,fc_rs,v16,v32,cB_cells]
    tactic =>
    all_goals (first | rfl | exact ⟨rfl, rfl⟩)
  by_cases h4 : k = 4
  · subst h4
    have hb : bare ⟨4, t, es, er, o, n, su, d, r, c⟩ = ⟨4, t, es, er, o, 0, z32, [], r, 0⟩ := rfl
    rw [hb]
    simp only [fr]
    refine con_j b14 rfl ?_
    sym =>
    simp [Zaa,Zab,Zac,Zad,Zae,Zaf,Zag,Zak,Zal,Zam,Zap,Zaz,Za0,Za1,Za2,Za3,Za4,Za5,Za9,Zba,Zbb,Zbf,Zbt,Zbu,Zbv,Zbw,Zb9,Zcv,Zcx,Zc3,Zc4,Zc7,Zc8,Zc9,Zdf,Zdg,Zdh,Zdj,Zdk,Zdm,Zdo,Zdp,Zdt,Zdu,Zdv,Zdw,Zdx,Zdy,Zdz,Zd0,Zd1,Zd2,Zeb,Zek,Zen,Zeq,Zet,Zev,Zew,Zez,Ze0,Ze1,Ze2,Ze3,Ze5,Ze8,Zfc,Zfd,Zfe,Zfh,Zfn,Zfz,Zgr,Zgs,Zgt,Zgv,Zgw,Zgx,Zhd,Zhe,Zhf,Zhg,Zhh,Zin,Zio,Zip,Ziu,Ziv,Ziw,Zi6,Zi7,Zjb,Zjh,Zji,Zjn,Zj2,Zj7,Zkb,Zla,Zlb,Zle,Zll,Zlz,Zl2,Zmt,Zmv,Zmw,Zmy,Zm0,Zm1,Zm2,Zm5,Zm6,Zm7,Zna,Znb,Znc,Znd,Zne,Znf,Zng,Znn,Zno,Zos,Zot,Zo7,Zo8,Zo9,Zpg,Zpv,Zp8,eq_self,true_and,and_true,zF_fc,fc_0,fc_17,fc_18,fc_19,fc_20,fc_53,fc_54,fc_55,fs_0,fs_17,fs_18,fs_19,fs_20,fs_53,fs_54,fs_55,fp_1,fp_21,fp_f,rb_1,rb_21,rb_0,fc_len,fc_ok,fc_id,fc_rs,v16,v32,cB_cells,callable_32,callable_33]
    tactic =>
    refine cl none (rclone_con r (by omega)) trivial ?_
    sym =>
    simp [Zaa,Zab,Zac,Zad,Zae,Zaf,Zag,Zak,Zal,Zam,Zap,Zaz,Za0,Za1,Za2,Za3,Za4,Za5,Za9,Zba,Zbb,Zbf,Zbt,Zbu,Zbv,Zbw,Zb9,Zcv,Zcx,Zc3,Zc4,Zc7,Zc8,Zc9,Zdf,Zdg,Zdh,Zdj,Zdk,Zdm,Zdo,Zdp,Zdt,Zdu,Zdv,Zdw,Zdx,Zdy,Zdz,Zd0,Zd1,Zd2,Zeb,Zek,Zen,Zeq,Zet,Zev,Zew,Zez,Ze0,Ze1,Ze2,Ze3,Ze5,Ze8,Zfc,Zfd,Zfe,Zfh,Zfn,Zfz,Zgr,Zgs,Zgt,Zgv,Zgw,Zgx,Zhd,Zhe,Zhf,Zhg,Zhh,Zin,Zio,Zip,Ziu,Ziv,Ziw,Zi6,Zi7,Zjb,Zjh,Zji,Zjn,Zj2,Zj7,Zkb,Zla,Zlb,Zle,Zll,Zlz,Zl2,Zmt,Zmv,Zmw,Zmy,Zm0,Zm1,Zm2,Zm5,Zm6,Zm7,Zna,Znb,Znc,Znd,Zne,Znf,Zng,Znn,Zno,Zos,Zot,Zo7,Zo8,Zo9,Zpg,Zpv,Zp8,eq_self,true_and,and_true,zF_fc,fc_0,fc_17,fc_18,fc_19,fc_20,fc_53,fc_54,fc_55,fs_0,fs_17,fs_18,fs_19,fs_20,fs_53,fs_54,fs_55,fp_1,fp_21,fp_f,rb_1,rb_21,rb_0,fc_len,fc_ok,fc_id,fc_rs,v16,v32,cB_cells]
    tactic =>
    refine endA ?_
    sym =>
    simp [Zaa,Zab,Zac,Zad,Zae,Zaf,Zag,Zak,Zal,Zam,Zap,Zaz,Za0,Za1,Za2,Za3,Za4,Za5,Za9,Zba,Zbb,Zbf,Zbt,Zbu,Zbv,Zbw,Zb9,Zcv,Zcx,Zc3,Zc4,Zc7,Zc8,Zc9,Zdf,Zdg,Zdh,Zdj,Zdk,Zdm,Zdo,Zdp,Zdt,Zdu,Zdv,Zdw,Zdx,Zdy,Zdz,Zd0,Zd1,Zd2,Zeb,Zek,Zen,Zeq,Zet,Zev,Zew,Zez,Ze0,Ze1,Ze2,Ze3,Ze5,Ze8,Zfc,Zfd,Zfe,Zfh,Zfn,Zfz,Zgr,Zgs,Zgt,Zgv,Zgw,Zgx,Zhd,Zhe,Zhf,Zhg,Zhh,Zin,Zio,Zip,Ziu,Ziv,Ziw,Zi6,Zi7,Zjb,Zjh,Zji,Zjn,Zj2,Zj7,Zkb,Zla,Zlb,Zle,Zll,Zlz,Zl2,Zmt,Zmv,Zmw,Zmy,Zm0,Zm1,Zm2,Zm5,Zm6,Zm7,Zna,Znb,Znc,Znd,Zne,Znf,Zng,Znn,Zno,Zos,Zot,Zo7,Zo8,Zo9,Zpg,Zpv,Zp8,eq_self,true_and,and_true,zF_fc,fc_0,fc_17,fc_18,fc_19,fc_20,fc_53,fc_54,fc_55,fs_0,fs_17,fs_18,fs_19,fs_20,fs_53,fs_54,fs_55,fp_1,fp_21,fp_f,rb_1,rb_21,rb_0,fc_len,fc_ok,fc_id,fc_rs,v16,v32,cB_cells]
    tactic =>
    all_goals (first | rfl | exact ⟨rfl, rfl⟩)
  by_cases h6 : k = 6
  · subst h6
    have hb : bare ⟨6, t, es, er, o, n, su, d, r, c⟩ = ⟨6, t, es, er, 0, n, z32, [], [], 0⟩ := rfl
    rw [hb]
    simp only [fr]
    refine con_j b14 rfl ?_
    sym =>
    simp [Zaa,Zab,Zac,Zad,Zae,Zaf,Zag,Zak,Zal,Zam,Zap,Zaz,Za0,Za1,Za2,Za3,Za4,Za5,Za9,Zba,Zbb,Zbf,Zbt,Zbu,Zbv,Zbw,Zb9,Zcv,Zcx,Zc3,Zc4,Zc7,Zc8,Zc9,Zdf,Zdg,Zdh,Zdj,Zdk,Zdm,Zdo,Zdp,Zdt,Zdu,Zdv,Zdw,Zdx,Zdy,Zdz,Zd0,Zd1,Zd2,Zeb,Zek,Zen,Zeq,Zet,Zev,Zew,Zez,Ze0,Ze1,Ze2,Ze3,Ze5,Ze8,Zfc,Zfd,Zfe,Zfh,Zfn,Zfz,Zgr,Zgs,Zgt,Zgv,Zgw,Zgx,Zhd,Zhe,Zhf,Zhg,Zhh,Zin,Zio,Zip,Ziu,Ziv,Ziw,Zi6,Zi7,Zjb,Zjh,Zji,Zjn,Zj2,Zj7,Zkb,Zla,Zlb,Zle,Zll,Zlz,Zl2,Zmt,Zmv,Zmw,Zmy,Zm0,Zm1,Zm2,Zm5,Zm6,Zm7,Zna,Znb,Znc,Znd,Zne,Znf,Zng,Znn,Zno,Zos,Zot,Zo7,Zo8,Zo9,Zpg,Zpv,Zp8,eq_self,true_and,and_true,zF_fc,fc_0,fc_17,fc_18,fc_19,fc_20,fc_53,fc_54,fc_55,fs_0,fs_17,fs_18,fs_19,fs_20,fs_53,fs_54,fs_55,fp_1,fp_21,fp_f,rb_1,rb_21,rb_0,fc_len,fc_ok,fc_id,fc_rs,v16,v32,cB_cells]
    tactic =>
    refine endA ?_
    sym =>
    simp [Zaa,Zab,Zac,Zad,Zae,Zaf,Zag,Zak,Zal,Zam,Zap,Zaz,Za0,Za1,Za2,Za3,Za4,Za5,Za9,Zba,Zbb,Zbf,Zbt,Zbu,Zbv,Zbw,Zb9,Zcv,Zcx,Zc3,Zc4,Zc7,Zc8,Zc9,Zdf,Zdg,Zdh,Zdj,Zdk,Zdm,Zdo,Zdp,Zdt,Zdu,Zdv,Zdw,Zdx,Zdy,Zdz,Zd0,Zd1,Zd2,Zeb,Zek,Zen,Zeq,Zet,Zev,Zew,Zez,Ze0,Ze1,Ze2,Ze3,Ze5,Ze8,Zfc,Zfd,Zfe,Zfh,Zfn,Zfz,Zgr,Zgs,Zgt,Zgv,Zgw,Zgx,Zhd,Zhe,Zhf,Zhg,Zhh,Zin,Zio,Zip,Ziu,Ziv,Ziw,Zi6,Zi7,Zjb,Zjh,Zji,Zjn,Zj2,Zj7,Zkb,Zla,Zlb,Zle,Zll,Zlz,Zl2,Zmt,Zmv,Zmw,Zmy,Zm0,Zm1,Zm2,Zm5,Zm6,Zm7,Zna,Znb,Znc,Znd,Zne,Znf,Zng,Znn,Zno,Zos,Zot,Zo7,Zo8,Zo9,Zpg,Zpv,Zp8,eq_self,true_and,and_true,zF_fc,fc_0,fc_17,fc_18,fc_19,fc_20,fc_53,fc_54,fc_55,fs_0,fs_17,fs_18,fs_19,fs_20,fs_53,fs_54,fs_55,fp_1,fp_21,fp_f,rb_1,rb_21,rb_0,fc_len,fc_ok,fc_id,fc_rs,v16,v32,cB_cells]
    tactic =>
    all_goals (first | rfl | exact ⟨rfl, rfl⟩)
  by_cases h7 : k = 7
  · subst h7
    have hb : bare ⟨7, t, es, er, o, n, su, d, r, c⟩ = ⟨7, t, es, er, 0, 0, z32, [], [], c⟩ := rfl
    rw [hb]
    simp only [fr]
    refine con_j b14 rfl ?_
    sym =>
    simp [Zaa,Zab,Zac,Zad,Zae,Zaf,Zag,Zak,Zal,Zam,Zap,Zaz,Za0,Za1,Za2,Za3,Za4,Za5,Za9,Zba,Zbb,Zbf,Zbt,Zbu,Zbv,Zbw,Zb9,Zcv,Zcx,Zc3,Zc4,Zc7,Zc8,Zc9,Zdf,Zdg,Zdh,Zdj,Zdk,Zdm,Zdo,Zdp,Zdt,Zdu,Zdv,Zdw,Zdx,Zdy,Zdz,Zd0,Zd1,Zd2,Zeb,Zek,Zen,Zeq,Zet,Zev,Zew,Zez,Ze0,Ze1,Ze2,Ze3,Ze5,Ze8,Zfc,Zfd,Zfe,Zfh,Zfn,Zfz,Zgr,Zgs,Zgt,Zgv,Zgw,Zgx,Zhd,Zhe,Zhf,Zhg,Zhh,Zin,Zio,Zip,Ziu,Ziv,Ziw,Zi6,Zi7,Zjb,Zjh,Zji,Zjn,Zj2,Zj7,Zkb,Zla,Zlb,Zle,Zll,Zlz,Zl2,Zmt,Zmv,Zmw,Zmy,Zm0,Zm1,Zm2,Zm5,Zm6,Zm7,Zna,Znb,Znc,Znd,Zne,Znf,Zng,Znn,Zno,Zos,Zot,Zo7,Zo8,Zo9,Zpg,Zpv,Zp8,eq_self,true_and,and_true,zF_fc,fc_0,fc_17,fc_18,fc_19,fc_20,fc_53,fc_54,fc_55,fs_0,fs_17,fs_18,fs_19,fs_20,fs_53,fs_54,fs_55,fp_1,fp_21,fp_f,rb_1,rb_21,rb_0,fc_len,fc_ok,fc_id,fc_rs,v16,v32,cB_cells]
    tactic =>
    refine endA ?_
    sym =>
    simp [Zaa,Zab,Zac,Zad,Zae,Zaf,Zag,Zak,Zal,Zam,Zap,Zaz,Za0,Za1,Za2,Za3,Za4,Za5,Za9,Zba,Zbb,Zbf,Zbt,Zbu,Zbv,Zbw,Zb9,Zcv,Zcx,Zc3,Zc4,Zc7,Zc8,Zc9,Zdf,Zdg,Zdh,Zdj,Zdk,Zdm,Zdo,Zdp,Zdt,Zdu,Zdv,Zdw,Zdx,Zdy,Zdz,Zd0,Zd1,Zd2,Zeb,Zek,Zen,Zeq,Zet,Zev,Zew,Zez,Ze0,Ze1,Ze2,Ze3,Ze5,Ze8,Zfc,Zfd,Zfe,Zfh,Zfn,Zfz,Zgr,Zgs,Zgt,Zgv,Zgw,Zgx,Zhd,Zhe,Zhf,Zhg,Zhh,Zin,Zio,Zip,Ziu,Ziv,Ziw,Zi6,Zi7,Zjb,Zjh,Zji,Zjn,Zj2,Zj7,Zkb,Zla,Zlb,Zle,Zll,Zlz,Zl2,Zmt,Zmv,Zmw,Zmy,Zm0,Zm1,Zm2,Zm5,Zm6,Zm7,Zna,Znb,Znc,Znd,Zne,Znf,Zng,Znn,Zno,Zos,Zot,Zo7,Zo8,Zo9,Zpg,Zpv,Zp8,eq_self,true_and,and_true,zF_fc,fc_0,fc_17,fc_18,fc_19,fc_20,fc_53,fc_54,fc_55,fs_0,fs_17,fs_18,fs_19,fs_20,fs_53,fs_54,fs_55,fp_1,fp_21,fp_f,rb_1,rb_21,rb_0,fc_len,fc_ok,fc_id,fc_rs,v16,v32,cB_cells]
    tactic =>
    all_goals (first | rfl | exact ⟨rfl, rfl⟩)
  have hb : bare ⟨k, t, es, er, o, n, su, d, r, c⟩ = ⟨k, t, es, er, 0, 0, z32, [], [], 0⟩ := by
    simp only [bare, h1, h2, h3, h4, h5, h6, h7, or_self, if_false]
  rw [hb]
  simp only [fr]
  refine con_j b14 rfl ?_
  sym =>
  simp [Zaa,Zab,Zac,Zad,Zae,Zaf,Zag,Zak,Zal,Zam,Zap,Zaz,Za0,Za1,Za2,Za3,Za4,Za5,Za9,Zba,Zbb,Zbf,Zbt,Zbu,Zbv,Zbw,Zb9,Zcv,Zcx,Zc3,Zc4,Zc7,Zc8,Zc9,Zdf,Zdg,Zdh,Zdj,Zdk,Zdm,Zdo,Zdp,Zdt,Zdu,Zdv,Zdw,Zdx,Zdy,Zdz,Zd0,Zd1,Zd2,Zeb,Zek,Zen,Zeq,Zet,Zev,Zew,Zez,Ze0,Ze1,Ze2,Ze3,Ze5,Ze8,Zfc,Zfd,Zfe,Zfh,Zfn,Zfz,Zgr,Zgs,Zgt,Zgv,Zgw,Zgx,Zhd,Zhe,Zhf,Zhg,Zhh,Zin,Zio,Zip,Ziu,Ziv,Ziw,Zi6,Zi7,Zjb,Zjh,Zji,Zjn,Zj2,Zj7,Zkb,Zla,Zlb,Zle,Zll,Zlz,Zl2,Zmt,Zmv,Zmw,Zmy,Zm0,Zm1,Zm2,Zm5,Zm6,Zm7,Zna,Znb,Znc,Znd,Zne,Znf,Zng,Znn,Zno,Zos,Zot,Zo7,Zo8,Zo9,Zpg,Zpv,Zp8,eq_self,true_and,and_true,zF_fc,fc_0,fc_17,fc_18,fc_19,fc_20,fc_53,fc_54,fc_55,fs_0,fs_17,fs_18,fs_19,fs_20,fs_53,fs_54,fs_55,fp_1,fp_21,fp_f,rb_1,rb_21,rb_0,fc_len,fc_ok,fc_id,fc_rs,v16,v32,cB_cells,h1,h2,h3,h4,h5,h6,h7]
  tactic =>
  refine endA ?_
  sym =>
  simp [Zaa,Zab,Zac,Zad,Zae,Zaf,Zag,Zak,Zal,Zam,Zap,Zaz,Za0,Za1,Za2,Za3,Za4,Za5,Za9,Zba,Zbb,Zbf,Zbt,Zbu,Zbv,Zbw,Zb9,Zcv,Zcx,Zc3,Zc4,Zc7,Zc8,Zc9,Zdf,Zdg,Zdh,Zdj,Zdk,Zdm,Zdo,Zdp,Zdt,Zdu,Zdv,Zdw,Zdx,Zdy,Zdz,Zd0,Zd1,Zd2,Zeb,Zek,Zen,Zeq,Zet,Zev,Zew,Zez,Ze0,Ze1,Ze2,Ze3,Ze5,Ze8,Zfc,Zfd,Zfe,Zfh,Zfn,Zfz,Zgr,Zgs,Zgt,Zgv,Zgw,Zgx,Zhd,Zhe,Zhf,Zhg,Zhh,Zin,Zio,Zip,Ziu,Ziv,Ziw,Zi6,Zi7,Zjb,Zjh,Zji,Zjn,Zj2,Zj7,Zkb,Zla,Zlb,Zle,Zll,Zlz,Zl2,Zmt,Zmv,Zmw,Zmy,Zm0,Zm1,Zm2,Zm5,Zm6,Zm7,Zna,Znb,Znc,Znd,Zne,Znf,Zng,Znn,Zno,Zos,Zot,Zo7,Zo8,Zo9,Zpg,Zpv,Zp8,eq_self,true_and,and_true,zF_fc,fc_0,fc_17,fc_18,fc_19,fc_20,fc_53,fc_54,fc_55,fs_0,fs_17,fs_18,fs_19,fs_20,fs_53,fs_54,fs_55,fp_1,fp_21,fp_f,rb_1,rb_21,rb_0,fc_len,fc_ok,fc_id,fc_rs,v16,v32,cB_cells]
  tactic =>
  all_goals (first | rfl | exact ⟨rfl, rfl⟩)
/-- May a frame be? the error. -/
def mayF (f : Fm) : Int :=
  if f.k = 1 ∨ f.k = 2 ∨ f.k = 5 ∨ f.k = 6 then 0
  else if f.k = 3 then (if f.d.length = 0 then 4 else if 256 < f.d.length then 10 else 0)
  else if f.k = 4 then (if 4 < f.r.length then 5 else if riF f.o f.r = true then 0 else 3)
  else if f.k = 7 then (if f.c < 1 then 3 else if 99 < f.c then 3 else 0)
  else 11
theorem may_con (f : Fm) (hr : f.r.length ≤ 1000000) : Con Try.prog 22 [] [.ag (fr f)] [] (I (mayF f)) := by
  obtain ⟨k, t, es, er, o, n, su, d, r, c⟩ := f
  simp only at hr
  obtain ⟨R, hR⟩ : ∃ R, R = mayF ⟨k, t, es, er, o, n, su, d, r, c⟩ := ⟨_, rfl⟩
  rw [← hR]
  unfold mayF at hR
  simp only at hR
  simp only [fr]
  refine con_j b22 rfl ?_
  by_cases h0 : k = 1 ∨ k = 2 ∨ k = 5 ∨ k = 6
  · rw [if_pos h0] at hR
    subst hR
    rcases h0 with rfl | rfl | rfl | rfl
    · sym =>
      simp [Zaa,Zab,Zad,Zae,Zaf,Zag,Zak,Zal,Zam,Zao,Zap,Zar,Zay,Zaz,Za0,Za1,Za2,Za3,Za4,Za5,Za6,Za7,Za8,Za9,Zba,Zbb,Zbd,Zbf,Zbj,Zbt,Zbv,Zcn,Zcx,Zdc,Zdd,Zde,Zdi,Zev,Zew,Zex,Zez,Ze0,Ze2,Ze3,Ze5,Ze8,Zfc,Zfd,Zfe,Zfh,Zfi,Zfj,Zfl,Zfn,Zfz,Zf1,Zf3,Zgd,Zgg,Zgr,Zgs,Zgt,Zgv,Zgw,Zgx,Zh6,Zh7,Zio,Zip,Zi6,Zjw,Zla,Zlb,Zle,Zlj,Zll,Zlz,Zmt,Zmv,Zmw,Zmx,Zmz,Zm2,Zm6,Zna,Znb,Zne,Znf,Zng,Zny,Zn5,Zos,Zot,Zo3,Zo4,Zo6,Zo7,Zo8,Zo9,Zpc,eq_self,true_and,and_true,zF_fc,fc_0,fc_17,fc_18,fc_19,fc_20,fc_53,fc_54,fc_55,fs_0,fs_17,fs_18,fs_19,fs_20,fs_53,fs_54,fs_55,fp_1,fp_21,fp_f,rb_1,rb_21,rb_0,fc_len,fc_ok,fc_id,fc_rs,v16,v32,cB_cells]
      tactic =>
      refine endA ?_
      sym =>
      simp [Zaa,Zab,Zad,Zae,Zaf,Zag,Zak,Zal,Zam,Zao,Zap,Zar,Zay,Zaz,Za0,Za1,Za2,Za3,Za4,Za5,Za6,Za7,Za8,Za9,Zba,Zbb,Zbd,Zbf,Zbj,Zbt,Zbv,Zcn,Zcx,Zdc,Zdd,Zde,Zdi,Zev,Zew,Zex,Zez,Ze0,Ze2,Ze3,Ze5,Ze8,Zfc,Zfd,Zfe,Zfh,Zfi,Zfj,Zfl,Zfn,Zfz,Zf1,Zf3,Zgd,Zgg,Zgr,Zgs,Zgt,Zgv,Zgw,Zgx,Zh6,Zh7,Zio,Zip,Zi6,Zjw,Zla,Zlb,Zle,Zlj,Zll,Zlz,Zmt,Zmv,Zmw,Zmx,Zmz,Zm2,Zm6,Zna,Znb,Zne,Znf,Zng,Zny,Zn5,Zos,Zot,Zo3,Zo4,Zo6,Zo7,Zo8,Zo9,Zpc,eq_self,true_and,and_true]
    · sym =>
      simp [Zaa,Zab,Zad,Zae,Zaf,Zag,Zak,Zal,Zam,Zao,Zap,Zar,Zay,Zaz,Za0,Za1,Za2,Za3,Za4,Za5,Za6,Za7,Za8,Za9,Zba,Zbb,Zbd,Zbf,Zbj,Zbt,Zbv,Zcn,Zcx,Zdc,Zdd,Zde,Zdi,Zev,Zew,Zex,Zez,Ze0,Ze2,Ze3,Ze5,Ze8,Zfc,Zfd,Zfe,Zfh,Zfi,Zfj,Zfl,Zfn,Zfz,Zf1,Zf3,Zgd,Zgg,Zgr,Zgs,Zgt,Zgv,Zgw,Zgx,Zh6,Zh7,Zio,Zip,Zi6,Zjw,Zla,Zlb,Zle,Zlj,Zll,Zlz,Zmt,Zmv,Zmw,Zmx,Zmz,Zm2,Zm6,Zna,Znb,Zne,Znf,Zng,Zny,Zn5,Zos,Zot,Zo3,Zo4,Zo6,Zo7,Zo8,Zo9,Zpc,eq_self,true_and,and_true,zF_fc,fc_0,fc_17,fc_18,fc_19,fc_20,fc_53,fc_54,fc_55,fs_0,fs_17,fs_18,fs_19,fs_20,fs_53,fs_54,fs_55,fp_1,fp_21,fp_f,rb_1,rb_21,rb_0,fc_len,fc_ok,fc_id,fc_rs,v16,v32,cB_cells]
      tactic =>
      refine endA ?_
      sym =>
      simp [Zaa,Zab,Zad,Zae,Zaf,Zag,Zak,Zal,Zam,Zao,Zap,Zar,Zay,Zaz,Za0,Za1,Za2,Za3,Za4,Za5,Za6,Za7,Za8,Za9,Zba,Zbb,Zbd,Zbf,Zbj,Zbt,Zbv,Zcn,Zcx,Zdc,Zdd,Zde,Zdi,Zev,Zew,Zex,Zez,Ze0,Ze2,Ze3,Ze5,Ze8,Zfc,Zfd,Zfe,Zfh,Zfi,Zfj,Zfl,Zfn,Zfz,Zf1,Zf3,Zgd,Zgg,Zgr,Zgs,Zgt,Zgv,Zgw,Zgx,Zh6,Zh7,Zio,Zip,Zi6,Zjw,Zla,Zlb,Zle,Zlj,Zll,Zlz,Zmt,Zmv,Zmw,Zmx,Zmz,Zm2,Zm6,Zna,Znb,Zne,Znf,Zng,Zny,Zn5,Zos,Zot,Zo3,Zo4,Zo6,Zo7,Zo8,Zo9,Zpc,eq_self,true_and,and_true]
    · sym =>
      simp [Zaa,Zab,Zad,Zae,Zaf,Zag,Zak,Zal,Zam,Zao,Zap,Zar,Zay,Zaz,Za0,Za1,Za2,Za3,Za4,Za5,Za6,Za7,Za8,Za9,Zba,Zbb,Zbd,Zbf,Zbj,Zbt,Zbv,Zcn,Zcx,Zdc,Zdd,Zde,Zdi,Zev,Zew,Zex,Zez,Ze0,Ze2,Ze3,Ze5,Ze8,Zfc,Zfd,Zfe,Zfh,Zfi,Zfj,Zfl,Zfn,Zfz,Zf1,Zf3,Zgd,Zgg,Zgr,Zgs,Zgt,Zgv,Zgw,Zgx,Zh6,Zh7,Zio,Zip,Zi6,Zjw,Zla,Zlb,Zle,Zlj,Zll,Zlz,Zmt,Zmv,Zmw,Zmx,Zmz,Zm2,Zm6,Zna,Znb,Zne,Znf,Zng,Zny,Zn5,Zos,Zot,Zo3,Zo4,Zo6,Zo7,Zo8,Zo9,Zpc,eq_self,true_and,and_true,zF_fc,fc_0,fc_17,fc_18,fc_19,fc_20,fc_53,fc_54,fc_55,fs_0,fs_17,fs_18,fs_19,fs_20,fs_53,fs_54,fs_55,fp_1,fp_21,fp_f,rb_1,rb_21,rb_0,fc_len,fc_ok,fc_id,fc_rs,v16,v32,cB_cells]
      tactic =>
      refine endA ?_
      sym =>
      simp [Zaa,Zab,Zad,Zae,Zaf,Zag,Zak,Zal,Zam,Zao,Zap,Zar,Zay,Zaz,Za0,Za1,Za2,Za3,Za4,Za5,Za6,Za7,Za8,Za9,Zba,Zbb,Zbd,Zbf,Zbj,Zbt,Zbv,Zcn,Zcx,Zdc,Zdd,Zde,Zdi,Zev,Zew,Zex,Zez,Ze0,Ze2,Ze3,Ze5,Ze8,Zfc,Zfd,Zfe,Zfh,Zfi,Zfj,Zfl,Zfn,Zfz,Zf1,Zf3,Zgd,Zgg,Zgr,Zgs,Zgt,Zgv,Zgw,Zgx,Zh6,Zh7,Zio,Zip,Zi6,Zjw,Zla,Zlb,Zle,Zlj,Zll,Zlz,Zmt,Zmv,Zmw,Zmx,Zmz,Zm2,Zm6,Zna,Znb,Zne,Znf,Zng,Zny,Zn5,Zos,Zot,Zo3,Zo4,Zo6,Zo7,Zo8,Zo9,Zpc,eq_self,true_and,and_true]
    · sym =>
      simp [Zaa,Zab,Zad,Zae,Zaf,Zag,Zak,Zal,Zam,Zao,Zap,Zar,Zay,Zaz,Za0,Za1,Za2,Za3,Za4,Za5,Za6,Za7,Za8,Za9,Zba,Zbb,Zbd,Zbf,Zbj,Zbt,Zbv,Zcn,Zcx,Zdc,Zdd,Zde,Zdi,Zev,Zew,Zex,Zez,Ze0,Ze2,Ze3,Ze5,Ze8,Zfc,Zfd,Zfe,Zfh,Zfi,Zfj,Zfl,Zfn,Zfz,Zf1,Zf3,Zgd,Zgg,Zgr,Zgs,Zgt,Zgv,Zgw,Zgx,Zh6,Zh7,Zio,Zip,Zi6,Zjw,Zla,Zlb,Zle,Zlj,Zll,Zlz,Zmt,Zmv,Zmw,Zmx,Zmz,Zm2,Zm6,Zna,Znb,Zne,Znf,Zng,Zny,Zn5,Zos,Zot,Zo3,Zo4,Zo6,Zo7,Zo8,Zo9,Zpc,eq_self,true_and,and_true,zF_fc,fc_0,fc_17,fc_18,fc_19,fc_20,fc_53,fc_54,fc_55,fs_0,fs_17,fs_18,fs_19,fs_20,fs_53,fs_54,fs_55,fp_1,fp_21,fp_f,rb_1,rb_21,rb_0,fc_len,fc_ok,fc_id,fc_rs,v16,v32,cB_cells]
      tactic =>
      refine endA ?_
      sym =>
      simp [Zaa,Zab,Zad,Zae,Zaf,Zag,Zak,Zal,Zam,Zao,Zap,Zar,Zay,Zaz,Za0,Za1,Za2,Za3,Za4,Za5,Za6,Za7,Za8,Za9,Zba,Zbb,Zbd,Zbf,Zbj,Zbt,Zbv,Zcn,Zcx,Zdc,Zdd,Zde,Zdi,Zev,Zew,Zex,Zez,Ze0,Ze2,Ze3,Ze5,Ze8,Zfc,Zfd,Zfe,Zfh,Zfi,Zfj,Zfl,Zfn,Zfz,Zf1,Zf3,Zgd,Zgg,Zgr,Zgs,Zgt,Zgv,Zgw,Zgx,Zh6,Zh7,Zio,Zip,Zi6,Zjw,Zla,Zlb,Zle,Zlj,Zll,Zlz,Zmt,Zmv,Zmw,Zmx,Zmz,Zm2,Zm6,Zna,Znb,Zne,Znf,Zng,Zny,Zn5,Zos,Zot,Zo3,Zo4,Zo6,Zo7,Zo8,Zo9,Zpc,eq_self,true_and,and_true]
  rw [if_neg h0] at hR
  have k1 : ¬ k = 1 := fun e => h0 (.inl e)
  have k2 : ¬ k = 2 := fun e => h0 (.inr (.inl e))
  have k5 : ¬ k = 5 := fun e => h0 (.inr (.inr (.inl e)))
  have k6 : ¬ k = 6 := fun e => h0 (.inr (.inr (.inr e)))
  by_cases h3 : k = 3
  · rw [if_pos h3] at hR
    subst h3
    by_cases hd : d.length = 0
    · rw [if_pos hd] at hR
      subst hR
      sym =>
      simp [Zaa,Zab,Zad,Zae,Zaf,Zag,Zak,Zal,Zam,Zao,Zap,Zar,Zay,Zaz,Za0,Za1,Za2,Za3,Za4,Za5,Za6,Za7,Za8,Za9,Zba,Zbb,Zbd,Zbf,Zbj,Zbt,Zbv,Zcn,Zcx,Zdc,Zdd,Zde,Zdi,Zev,Zew,Zex,Zez,Ze0,Ze2,Ze3,Ze5,Ze8,Zfc,Zfd,Zfe,Zfh,Zfi,Zfj,Zfl,Zfn,Zfz,Zf1,Zf3,Zgd,Zgg,Zgr,Zgs,Zgt,Zgv,Zgw,Zgx,Zh6,Zh7,Zio,Zip,Zi6,Zjw,Zla,Zlb,Zle,Zlj,Zll,Zlz,Zmt,Zmv,Zmw,Zmx,Zmz,Zm2,Zm6,Zna,Znb,Zne,Znf,Zng,Zny,Zn5,Zos,Zot,Zo3,Zo4,Zo6,Zo7,Zo8,Zo9,Zpc,eq_self,true_and,and_true,zF_fc,fc_0,fc_17,fc_18,fc_19,fc_20,fc_53,fc_54,fc_55,fs_0,fs_17,fs_18,fs_19,fs_20,fs_53,fs_54,fs_55,fp_1,fp_21,fp_f,rb_1,rb_21,rb_0,fc_len,fc_ok,fc_id,fc_rs,v16,v32,cB_cells,hd]
      tactic =>
      refine endA ?_
      sym =>
      simp [Zaa,Zab,Zad,Zae,Zaf,Zag,Zak,Zal,Zam,Zao,Zap,Zar,Zay,Zaz,Za0,Za1,Za2,Za3,Za4,Za5,Za6,Za7,Za8,Za9,Zba,Zbb,Zbd,Zbf,Zbj,Zbt,Zbv,Zcn,Zcx,Zdc,Zdd,Zde,Zdi,Zev,Zew,Zex,Zez,Ze0,Ze2,Ze3,Ze5,Ze8,Zfc,Zfd,Zfe,Zfh,Zfi,Zfj,Zfl,Zfn,Zfz,Zf1,Zf3,Zgd,Zgg,Zgr,Zgs,Zgt,Zgv,Zgw,Zgx,Zh6,Zh7,Zio,Zip,Zi6,Zjw,Zla,Zlb,Zle,Zlj,Zll,Zlz,Zmt,Zmv,Zmw,Zmx,Zmz,Zm2,Zm6,Zna,Znb,Zne,Znf,Zng,Zny,Zn5,Zos,Zot,Zo3,Zo4,Zo6,Zo7,Zo8,Zo9,Zpc,eq_self,true_and,and_true]
    rw [if_neg hd] at hR
    by_cases hd2 : 256 < d.length
    · rw [if_pos hd2] at hR
      subst hR
      have hd' : IN d.length > (256 : Int) := by simp only [IN]; omega
      sym =>
      simp [Zaa,Zab,Zad,Zae,Zaf,Zag,Zak,Zal,Zam,Zao,Zap,Zar,Zay,Zaz,Za0,Za1,Za2,Za3,Za4,Za5,Za6,Za7,Za8,Za9,Zba,Zbb,Zbd,Zbf,Zbj,Zbt,Zbv,Zcn,Zcx,Zdc,Zdd,Zde,Zdi,Zev,Zew,Zex,Zez,Ze0,Ze2,Ze3,Ze5,Ze8,Zfc,Zfd,Zfe,Zfh,Zfi,Zfj,Zfl,Zfn,Zfz,Zf1,Zf3,Zgd,Zgg,Zgr,Zgs,Zgt,Zgv,Zgw,Zgx,Zh6,Zh7,Zio,Zip,Zi6,Zjw,Zla,Zlb,Zle,Zlj,Zll,Zlz,Zmt,Zmv,Zmw,Zmx,Zmz,Zm2,Zm6,Zna,Znb,Zne,Znf,Zng,Zny,Zn5,Zos,Zot,Zo3,Zo4,Zo6,Zo7,Zo8,Zo9,Zpc,eq_self,true_and,and_true,zF_fc,fc_0,fc_17,fc_18,fc_19,fc_20,fc_53,fc_54,fc_55,fs_0,fs_17,fs_18,fs_19,fs_20,fs_53,fs_54,fs_55,fp_1,fp_21,fp_f,rb_1,rb_21,rb_0,fc_len,fc_ok,fc_id,fc_rs,v16,v32,cB_cells,hd,hd']
      tactic =>
      refine endA ?_
      sym =>
      simp [Zaa,Zab,Zad,Zae,Zaf,Zag,Zak,Zal,Zam,Zao,Zap,Zar,Zay,Zaz,Za0,Za1,Za2,Za3,Za4,Za5,Za6,Za7,Za8,Za9,Zba,Zbb,Zbd,Zbf,Zbj,Zbt,Zbv,Zcn,Zcx,Zdc,Zdd,Zde,Zdi,Zev,Zew,Zex,Zez,Ze0,Ze2,Ze3,Ze5,Ze8,Zfc,Zfd,Zfe,Zfh,Zfi,Zfj,Zfl,Zfn,Zfz,Zf1,Zf3,Zgd,Zgg,Zgr,Zgs,Zgt,Zgv,Zgw,Zgx,Zh6,Zh7,Zio,Zip,Zi6,Zjw,Zla,Zlb,Zle,Zlj,Zll,Zlz,Zmt,Zmv,Zmw,Zmx,Zmz,Zm2,Zm6,Zna,Znb,Zne,Znf,Zng,Zny,Zn5,Zos,Zot,Zo3,Zo4,Zo6,Zo7,Zo8,Zo9,Zpc,eq_self,true_and,and_true]
    · rw [if_neg hd2] at hR
      subst hR
      have hd' : ¬ IN d.length > (256 : Int) := by simp only [IN]; omega
      sym =>
      simp [Zaa,Zab,Zad,Zae,Zaf,Zag,Zak,Zal,Zam,Zao,Zap,Zar,Zay,Zaz,Za0,Za1,Za2,Za3,Za4,Za5,Za6,Za7,Za8,Za9,Zba,Zbb,Zbd,Zbf,Zbj,Zbt,Zbv,Zcn,Zcx,Zdc,Zdd,Zde,Zdi,Zev,Zew,Zex,Zez,Ze0,Ze2,Ze3,Ze5,Ze8,Zfc,Zfd,Zfe,Zfh,Zfi,Zfj,Zfl,Zfn,Zfz,Zf1,Zf3,Zgd,Zgg,Zgr,Zgs,Zgt,Zgv,Zgw,Zgx,Zh6,Zh7,Zio,Zip,Zi6,Zjw,Zla,Zlb,Zle,Zlj,Zll,Zlz,Zmt,Zmv,Zmw,Zmx,Zmz,Zm2,Zm6,Zna,Znb,Zne,Znf,Zng,Zny,Zn5,Zos,Zot,Zo3,Zo4,Zo6,Zo7,Zo8,Zo9,Zpc,eq_self,true_and,and_true,zF_fc,fc_0,fc_17,fc_18,fc_19,fc_20,fc_53,fc_54,fc_55,fs_0,fs_17,fs_18,fs_19,fs_20,fs_53,fs_54,fs_55,fp_1,fp_21,fp_f,rb_1,rb_21,rb_0,fc_len,fc_ok,fc_id,fc_rs,v16,v32,cB_cells,hd,hd']
      tactic =>
      refine endA ?_
      sym =>
      simp [Zaa,Zab,Zad,Zae,Zaf,Zag,Zak,Zal,Zam,Zao,Zap,Zar,Zay,Zaz,Za0,Za1,Za2,Za3,Za4,Za5,Za6,Za7,Za8,Za9,Zba,Zbb,Zbd,Zbf,Zbj,Zbt,Zbv,Zcn,Zcx,Zdc,Zdd,Zde,Zdi,Zev,Zew,Zex,Zez,Ze0,Ze2,Ze3,Ze5,Ze8,Zfc,Zfd,Zfe,Zfh,Zfi,Zfj,Zfl,Zfn,Zfz,Zf1,Zf3,Zgd,Zgg,Zgr,Zgs,Zgt,Zgv,Zgw,Zgx,Zh6,Zh7,Zio,Zip,Zi6,Zjw,Zla,Zlb,Zle,Zlj,Zll,Zlz,Zmt,Zmv,Zmw,Zmx,Zmz,Zm2,Zm6,Zna,Znb,Zne,Znf,Zng,Zny,Zn5,Zos,Zot,Zo3,Zo4,Zo6,Zo7,Zo8,Zo9,Zpc,eq_self,true_and,and_true]
  rw [if_neg h3] at hR
  by_cases h4 : k = 4
  · rw [if_pos h4] at hR
    subst h4
    by_cases hd2 : 4 < r.length
    · rw [if_pos hd2] at hR
      subst hR
      have hd' : IN r.length > (4 : Int) := by simp only [IN]; omega
      sym =>
      simp [Zaa,Zab,Zad,Zae,Zaf,Zag,Zak,Zal,Zam,Zao,Zap,Zar,Zay,Zaz,Za0,Za1,Za2,Za3,Za4,Za5,Za6,Za7,Za8,Za9,Zba,Zbb,Zbd,Zbf,Zbj,Zbt,Zbv,Zcn,Zcx,Zdc,Zdd,Zde,Zdi,Zev,Zew,Zex,Zez,Ze0,Ze2,Ze3,Ze5,Ze8,Zfc,Zfd,Zfe,Zfh,Zfi,Zfj,Zfl,Zfn,Zfz,Zf1,Zf3,Zgd,Zgg,Zgr,Zgs,Zgt,Zgv,Zgw,Zgx,Zh6,Zh7,Zio,Zip,Zi6,Zjw,Zla,Zlb,Zle,Zlj,Zll,Zlz,Zmt,Zmv,Zmw,Zmx,Zmz,Zm2,Zm6,Zna,Znb,Zne,Znf,Zng,Zny,Zn5,Zos,Zot,Zo3,Zo4,Zo6,Zo7,Zo8,Zo9,Zpc,eq_self,true_and,and_true,zF_fc,fc_0,fc_17,fc_18,fc_19,fc_20,fc_53,fc_54,fc_55,fs_0,fs_17,fs_18,fs_19,fs_20,fs_53,fs_54,fs_55,fp_1,fp_21,fp_f,rb_1,rb_21,rb_0,fc_len,fc_ok,fc_id,fc_rs,v16,v32,cB_cells,hd']
      tactic =>
      refine endA ?_
      sym =>
      simp [Zaa,Zab,Zad,Zae,Zaf,Zag,Zak,Zal,Zam,Zao,Zap,Zar,Zay,Zaz,Za0,Za1,Za2,Za3,Za4,Za5,Za6,Za7,Za8,Za9,Zba,Zbb,Zbd,Zbf,Zbj,Zbt,Zbv,Zcn,Zcx,Zdc,Zdd,Zde,Zdi,Zev,Zew,Zex,Zez,Ze0,Ze2,Ze3,Ze5,Ze8,Zfc,Zfd,Zfe,Zfh,Zfi,Zfj,Zfl,Zfn,Zfz,Zf1,Zf3,Zgd,Zgg,Zgr,Zgs,Zgt,Zgv,Zgw,Zgx,Zh6,Zh7,Zio,Zip,Zi6,Zjw,Zla,Zlb,Zle,Zlj,Zll,Zlz,Zmt,Zmv,Zmw,Zmx,Zmz,Zm2,Zm6,Zna,Znb,Zne,Znf,Zng,Zny,Zn5,Zos,Zot,Zo3,Zo4,Zo6,Zo7,Zo8,Zo9,Zpc,eq_self,true_and,and_true]
    rw [if_neg hd2] at hR
    have hd' : ¬ IN r.length > (4 : Int) := by simp only [IN]; omega
    sym =>
    simp [Zaa,Zab,Zad,Zae,Zaf,Zag,Zak,Zal,Zam,Zao,Zap,Zar,Zay,Zaz,Za0,Za1,Za2,Za3,Za4,Za5,Za6,Za7,Za8,Za9,Zba,Zbb,Zbd,Zbf,Zbj,Zbt,Zbv,Zcn,Zcx,Zdc,Zdd,Zde,Zdi,Zev,Zew,Zex,Zez,Ze0,Ze2,Ze3,Ze5,Ze8,Zfc,Zfd,Zfe,Zfh,Zfi,Zfj,Zfl,Zfn,Zfz,Zf1,Zf3,Zgd,Zgg,Zgr,Zgs,Zgt,Zgv,Zgw,Zgx,Zh6,Zh7,Zio,Zip,Zi6,Zjw,Zla,Zlb,Zle,Zlj,Zll,Zlz,Zmt,Zmv,Zmw,Zmx,Zmz,Zm2,Zm6,Zna,Znb,Zne,Znf,Zng,Zny,Zn5,Zos,Zot,Zo3,Zo4,Zo6,Zo7,Zo8,Zo9,Zpc,eq_self,true_and,and_true,zF_fc,fc_0,fc_17,fc_18,fc_19,fc_20,fc_53,fc_54,fc_55,fs_0,fs_17,fs_18,fs_19,fs_20,fs_53,fs_54,fs_55,fp_1,fp_21,fp_f,rb_1,rb_21,rb_0,fc_len,fc_ok,fc_id,fc_rs,v16,v32,cB_cells,hd',callable_16]
    tactic =>
    refine cl none (rise_con o r hr) trivial ?_
    by_cases hri : riF o r = true
    · rw [if_pos hri] at hR
      subst hR
      sym =>
      simp [Zaa,Zab,Zad,Zae,Zaf,Zag,Zak,Zal,Zam,Zao,Zap,Zar,Zay,Zaz,Za0,Za1,Za2,Za3,Za4,Za5,Za6,Za7,Za8,Za9,Zba,Zbb,Zbd,Zbf,Zbj,Zbt,Zbv,Zcn,Zcx,Zdc,Zdd,Zde,Zdi,Zev,Zew,Zex,Zez,Ze0,Ze2,Ze3,Ze5,Ze8,Zfc,Zfd,Zfe,Zfh,Zfi,Zfj,Zfl,Zfn,Zfz,Zf1,Zf3,Zgd,Zgg,Zgr,Zgs,Zgt,Zgv,Zgw,Zgx,Zh6,Zh7,Zio,Zip,Zi6,Zjw,Zla,Zlb,Zle,Zlj,Zll,Zlz,Zmt,Zmv,Zmw,Zmx,Zmz,Zm2,Zm6,Zna,Znb,Zne,Znf,Zng,Zny,Zn5,Zos,Zot,Zo3,Zo4,Zo6,Zo7,Zo8,Zo9,Zpc,eq_self,true_and,and_true,hri]
      tactic =>
      refine endA ?_
      sym =>
      simp [Zaa,Zab,Zad,Zae,Zaf,Zag,Zak,Zal,Zam,Zao,Zap,Zar,Zay,Zaz,Za0,Za1,Za2,Za3,Za4,Za5,Za6,Za7,Za8,Za9,Zba,Zbb,Zbd,Zbf,Zbj,Zbt,Zbv,Zcn,Zcx,Zdc,Zdd,Zde,Zdi,Zev,Zew,Zex,Zez,Ze0,Ze2,Ze3,Ze5,Ze8,Zfc,Zfd,Zfe,Zfh,Zfi,Zfj,Zfl,Zfn,Zfz,Zf1,Zf3,Zgd,Zgg,Zgr,Zgs,Zgt,Zgv,Zgw,Zgx,Zh6,Zh7,Zio,Zip,Zi6,Zjw,Zla,Zlb,Zle,Zlj,Zll,Zlz,Zmt,Zmv,Zmw,Zmx,Zmz,Zm2,Zm6,Zna,Znb,Zne,Znf,Zng,Zny,Zn5,Zos,Zot,Zo3,Zo4,Zo6,Zo7,Zo8,Zo9,Zpc,eq_self,true_and,and_true]
    · rw [if_neg hri] at hR
      have hri' : riF o r = false := by simpa using hri
      subst hR
      sym =>
      simp [Zaa,Zab,Zad,Zae,Zaf,Zag,Zak,Zal,Zam,Zao,Zap,Zar,Zay,Zaz,Za0,Za1,Za2,Za3,Za4,Za5,Za6,Za7,Za8,Za9,Zba,Zbb,Zbd,Zbf,Zbj,Zbt,Zbv,Zcn,Zcx,Zdc,Zdd,Zde,Zdi,Zev,Zew,Zex,Zez,Ze0,Ze2,Ze3,Ze5,Ze8,Zfc,Zfd,Zfe,Zfh,Zfi,Zfj,Zfl,Zfn,Zfz,Zf1,Zf3,Zgd,Zgg,Zgr,Zgs,Zgt,Zgv,Zgw,Zgx,Zh6,Zh7,Zio,Zip,Zi6,Zjw,Zla,Zlb,Zle,Zlj,Zll,Zlz,Zmt,Zmv,Zmw,Zmx,Zmz,Zm2,Zm6,Zna,Znb,Zne,Znf,Zng,Zny,Zn5,Zos,Zot,Zo3,Zo4,Zo6,Zo7,Zo8,Zo9,Zpc,eq_self,true_and,and_true,hri']
      tactic =>
      refine endA ?_
      sym =>
      simp [Zaa,Zab,Zad,Zae,Zaf,Zag,Zak,Zal,Zam,Zao,Zap,Zar,Zay,Zaz,Za0,Za1,Za2,Za3,Za4,Za5,Za6,Za7,Za8,Za9,Zba,Zbb,Zbd,Zbf,Zbj,Zbt,Zbv,Zcn,Zcx,Zdc,Zdd,Zde,Zdi,Zev,Zew,Zex,Zez,Ze0,Ze2,Ze3,Ze5,Ze8,Zfc,Zfd,Zfe,Zfh,Zfi,Zfj,Zfl,Zfn,Zfz,Zf1,Zf3,Zgd,Zgg,Zgr,Zgs,Zgt,Zgv,Zgw,Zgx,Zh6,Zh7,Zio,Zip,Zi6,Zjw,Zla,Zlb,Zle,Zlj,Zll,Zlz,Zmt,Zmv,Zmw,Zmx,Zmz,Zm2,Zm6,Zna,Znb,Zne,Znf,Zng,Zny,Zn5,Zos,Zot,Zo3,Zo4,Zo6,Zo7,Zo8,Zo9,Zpc,eq_self,true_and,and_true]
  rw [if_neg h4] at hR
  by_cases h7 : k = 7
  · rw [if_pos h7] at hR
    subst h7
    by_cases hc1 : c < 1
    · rw [if_pos hc1] at hR
      subst hR
      sym =>
      simp [Zaa,Zab,Zad,Zae,Zaf,Zag,Zak,Zal,Zam,Zao,Zap,Zar,Zay,Zaz,Za0,Za1,Za2,Za3,Za4,Za5,Za6,Za7,Za8,Za9,Zba,Zbb,Zbd,Zbf,Zbj,Zbt,Zbv,Zcn,Zcx,Zdc,Zdd,Zde,Zdi,Zev,Zew,Zex,Zez,Ze0,Ze2,Ze3,Ze5,Ze8,Zfc,Zfd,Zfe,Zfh,Zfi,Zfj,Zfl,Zfn,Zfz,Zf1,Zf3,Zgd,Zgg,Zgr,Zgs,Zgt,Zgv,Zgw,Zgx,Zh6,Zh7,Zio,Zip,Zi6,Zjw,Zla,Zlb,Zle,Zlj,Zll,Zlz,Zmt,Zmv,Zmw,Zmx,Zmz,Zm2,Zm6,Zna,Znb,Zne,Znf,Zng,Zny,Zn5,Zos,Zot,Zo3,Zo4,Zo6,Zo7,Zo8,Zo9,Zpc,eq_self,true_and,and_true,zF_fc,fc_0,fc_17,fc_18,fc_19,fc_20,fc_53,fc_54,fc_55,fs_0,fs_17,fs_18,fs_19,fs_20,fs_53,fs_54,fs_55,fp_1,fp_21,fp_f,rb_1,rb_21,rb_0,fc_len,fc_ok,fc_id,fc_rs,v16,v32,cB_cells,hc1]
      tactic =>
      refine endA ?_
      sym =>
      simp [Zaa,Zab,Zad,Zae,Zaf,Zag,Zak,Zal,Zam,Zao,Zap,Zar,Zay,Zaz,Za0,Za1,Za2,Za3,Za4,Za5,Za6,Za7,Za8,Za9,Zba,Zbb,Zbd,Zbf,Zbj,Zbt,Zbv,Zcn,Zcx,Zdc,Zdd,Zde,Zdi,Zev,Zew,Zex,Zez,Ze0,Ze2,Ze3,Ze5,Ze8,Zfc,Zfd,Zfe,Zfh,Zfi,Zfj,Zfl,Zfn,Zfz,Zf1,Zf3,Zgd,Zgg,Zgr,Zgs,Zgt,Zgv,Zgw,Zgx,Zh6,Zh7,Zio,Zip,Zi6,Zjw,Zla,Zlb,Zle,Zlj,Zll,Zlz,Zmt,Zmv,Zmw,Zmx,Zmz,Zm2,Zm6,Zna,Znb,Zne,Znf,Zng,Zny,Zn5,Zos,Zot,Zo3,Zo4,Zo6,Zo7,Zo8,Zo9,Zpc,eq_self,true_and,and_true]
    rw [if_neg hc1] at hR
    by_cases hc2 : 99 < c
    · rw [if_pos hc2] at hR
      subst hR
      have hc' : c > 99 := hc2
      sym =>
      simp [Zaa,Zab,Zad,Zae,Zaf,Zag,Zak,Zal,Zam,Zao,Zap,Zar,Zay,Zaz,Za0,Za1,Za2,Za3,Za4,Za5,Za6,Za7,Za8,Za9,Zba,Zbb,Zbd,Zbf,Zbj,Zbt,Zbv,Zcn,Zcx,Zdc,Zdd,Zde,Zdi,Zev,Zew,Zex,Zez,Ze0,Ze2,Ze3,Ze5,Ze8,Zfc,Zfd,Zfe,Zfh,Zfi,Zfj,Zfl,Zfn,Zfz,Zf1,Zf3,Zgd,Zgg,Zgr,Zgs,Zgt,Zgv,Zgw,Zgx,Zh6,Zh7,Zio,Zip,Zi6,Zjw,Zla,Zlb,Zle,Zlj,Zll,Zlz,Zmt,Zmv,Zmw,Zmx,Zmz,Zm2,Zm6,Zna,Znb,Zne,Znf,Zng,Zny,Zn5,Zos,Zot,Zo3,Zo4,Zo6,Zo7,Zo8,Zo9,Zpc,eq_self,true_and,and_true,zF_fc,fc_0,fc_17,fc_18,fc_19,fc_20,fc_53,fc_54,fc_55,fs_0,fs_17,fs_18,fs_19,fs_20,fs_53,fs_54,fs_55,fp_1,fp_21,fp_f,rb_1,rb_21,rb_0,fc_len,fc_ok,fc_id,fc_rs,v16,v32,cB_cells,hc1,hc']
      tactic =>
      refine endA ?_
      sym =>
      simp [Zaa,Zab,Zad,Zae,Zaf,Zag,Zak,Zal,Zam,Zao,Zap,Zar,Zay,Zaz,Za0,Za1,Za2,Za3,Za4,Za5,Za6,Za7,Za8,Za9,Zba,Zbb,Zbd,Zbf,Zbj,Zbt,Zbv,Zcn,Zcx,Zdc,Zdd,Zde,Zdi,Zev,Zew,Zex,Zez,Ze0,Ze2,Ze3,Ze5,Ze8,Zfc,Zfd,Zfe,Zfh,Zfi,Zfj,Zfl,Zfn,Zfz,Zf1,Zf3,Zgd,Zgg,Zgr,Zgs,Zgt,Zgv,Zgw,Zgx,Zh6,Zh7,Zio,Zip,Zi6,Zjw,Zla,Zlb,Zle,Zlj,Zll,Zlz,Zmt,Zmv,Zmw,Zmx,Zmz,Zm2,Zm6,Zna,Znb,Zne,Znf,Zng,Zny,Zn5,Zos,Zot,Zo3,Zo4,Zo6,Zo7,Zo8,Zo9,Zpc,eq_self,true_and,and_true]
    · rw [if_neg hc2] at hR
      subst hR
      have hc' : ¬ c > 99 := hc2
      sym =>
      simp [Zaa,Zab,Zad,Zae,Zaf,Zag,Zak,Zal,Zam,Zao,Zap,Zar,Zay,Zaz,Za0,Za1,Za2,Za3,Za4,Za5,Za6,Za7,Za8,Za9,Zba,Zbb,Zbd,Zbf,Zbj,Zbt,Zbv,Zcn,Zcx,Zdc,Zdd,Zde,Zdi,Zev,Zew,Zex,Zez,Ze0,Ze2,Ze3,Ze5,Ze8,Zfc,Zfd,Zfe,Zfh,Zfi,Zfj,Zfl,Zfn,Zfz,Zf1,Zf3,Zgd,Zgg,Zgr,Zgs,Zgt,Zgv,Zgw,Zgx,Zh6,Zh7,Zio,Zip,Zi6,Zjw,Zla,Zlb,Zle,Zlj,Zll,Zlz,Zmt,Zmv,Zmw,Zmx,Zmz,Zm2,Zm6,Zna,Znb,Zne,Znf,Zng,Zny,Zn5,Zos,Zot,Zo3,Zo4,Zo6,Zo7,Zo8,Zo9,Zpc,eq_self,true_and,and_true,zF_fc,fc_0,fc_17,fc_18,fc_19,fc_20,fc_53,fc_54,fc_55,fs_0,fs_17,fs_18,fs_19,fs_20,fs_53,fs_54,fs_55,fp_1,fp_21,fp_f,rb_1,rb_21,rb_0,fc_len,fc_ok,fc_id,fc_rs,v16,v32,cB_cells,hc1,hc']
      tactic =>
      refine endA ?_
      sym =>
      simp [Zaa,Zab,Zad,Zae,Zaf,Zag,Zak,Zal,Zam,Zao,Zap,Zar,Zay,Zaz,Za0,Za1,Za2,Za3,Za4,Za5,Za6,Za7,Za8,Za9,Zba,Zbb,Zbd,Zbf,Zbj,Zbt,Zbv,Zcn,Zcx,Zdc,Zdd,Zde,Zdi,Zev,Zew,Zex,Zez,Ze0,Ze2,Ze3,Ze5,Ze8,Zfc,Zfd,Zfe,Zfh,Zfi,Zfj,Zfl,Zfn,Zfz,Zf1,Zf3,Zgd,Zgg,Zgr,Zgs,Zgt,Zgv,Zgw,Zgx,Zh6,Zh7,Zio,Zip,Zi6,Zjw,Zla,Zlb,Zle,Zlj,Zll,Zlz,Zmt,Zmv,Zmw,Zmx,Zmz,Zm2,Zm6,Zna,Znb,Zne,Znf,Zng,Zny,Zn5,Zos,Zot,Zo3,Zo4,Zo6,Zo7,Zo8,Zo9,Zpc,eq_self,true_and,and_true]
  rw [if_neg h7] at hR
  subst hR
  sym =>
  simp [Zaa,Zab,Zad,Zae,Zaf,Zag,Zak,Zal,Zam,Zao,Zap,Zar,Zay,Zaz,Za0,Za1,Za2,Za3,Za4,Za5,Za6,Za7,Za8,Za9,Zba,Zbb,Zbd,Zbf,Zbj,Zbt,Zbv,Zcn,Zcx,Zdc,Zdd,Zde,Zdi,Zev,Zew,Zex,Zez,Ze0,Ze2,Ze3,Ze5,Ze8,Zfc,Zfd,Zfe,Zfh,Zfi,Zfj,Zfl,Zfn,Zfz,Zf1,Zf3,Zgd,Zgg,Zgr,Zgs,Zgt,Zgv,Zgw,Zgx,Zh6,Zh7,Zio,Zip,Zi6,Zjw,Zla,Zlb,Zle,Zlj,Zll,Zlz,Zmt,Zmv,Zmw,Zmx,Zmz,Zm2,Zm6,Zna,Znb,Zne,Znf,Zng,Zny,Zn5,Zos,Zot,Zo3,Zo4,Zo6,Zo7,Zo8,Zo9,Zpc,eq_self,true_and,and_true,zF_fc,fc_0,fc_17,fc_18,fc_19,fc_20,fc_53,fc_54,fc_55,fs_0,fs_17,fs_18,fs_19,fs_20,fs_53,fs_54,fs_55,fp_1,fp_21,fp_f,rb_1,rb_21,rb_0,fc_len,fc_ok,fc_id,fc_rs,v16,v32,cB_cells,k1,k2,k5,k6,h3,h4,h7]
  tactic =>
  refine endA ?_
  sym =>
  simp [Zaa,Zab,Zad,Zae,Zaf,Zag,Zak,Zal,Zam,Zao,Zap,Zar,Zay,Zaz,Za0,Za1,Za2,Za3,Za4,Za5,Za6,Za7,Za8,Za9,Zba,Zbb,Zbd,Zbf,Zbj,Zbt,Zbv,Zcn,Zcx,Zdc,Zdd,Zde,Zdi,Zev,Zew,Zex,Zez,Ze0,Ze2,Ze3,Ze5,Ze8,Zfc,Zfd,Zfe,Zfh,Zfi,Zfj,Zfl,Zfn,Zfz,Zf1,Zf3,Zgd,Zgg,Zgr,Zgs,Zgt,Zgv,Zgw,Zgx,Zh6,Zh7,Zio,Zip,Zi6,Zjw,Zla,Zlb,Zle,Zlj,Zll,Zlz,Zmt,Zmv,Zmw,Zmx,Zmz,Zm2,Zm6,Zna,Znb,Zne,Znf,Zng,Zny,Zn5,Zos,Zot,Zo3,Zo4,Zo6,Zo7,Zo8,Zo9,Zpc,eq_self,true_and,and_true]
theorem rmay_con (f : Fm) (hr : f.r.length ≤ 1000000) : Con Try.prog 27 [] [.ag (fr f)] [] (I (mayF f)) := by
  obtain ⟨k, t, es, er, o, n, su, d, r, c⟩ := f
  simp only at hr
  obtain ⟨R, hR⟩ : ∃ R, R = mayF ⟨k, t, es, er, o, n, su, d, r, c⟩ := ⟨_, rfl⟩
  rw [← hR]
  unfold mayF at hR
  simp only at hR
  simp only [fr]
  refine con_j b27 rfl ?_
  by_cases h0 : k = 1 ∨ k = 2 ∨ k = 5 ∨ k = 6
  · rw [if_pos h0] at hR
    subst hR
    rcases h0 with rfl | rfl | rfl | rfl
    · sym =>
      simp [Zaa,Zab,Zad,Zae,Zaf,Zak,Zal,Zam,Zao,Zay,Zaz,Za0,Za1,Za2,Za3,Za4,Za5,Za6,Za7,Zrh,Za8,Za9,Zba,Zbb,Zbd,Zbf,Zbj,Zbt,Zbv,Zcn,Zcx,Zdc,Zdd,Zde,Zdi,Zev,Zew,Zex,Zez,Ze0,Ze2,Ze3,Ze5,Ze8,Zfc,Zfd,Zfe,Zfh,Zfi,Zfj,Zfk,Zfl,Zfn,Zfz,Zf1,Zf3,Zgd,Zgg,Zgr,Zgs,Zgt,Zgv,Zgw,Zgx,Zh6,Zh7,Zio,Zip,Zi6,Zjw,Zla,Zlb,Zle,Zlj,Zll,Zlz,Zmt,Zmv,Zmw,Zmx,Zmz,Zm2,Zm6,Zna,Znb,Zne,Znf,Zng,Zny,Zn5,Zos,Zot,Zo3,Zo4,Zo6,Zo7,Zo8,Zo9,Zpc,eq_self,true_and,and_true,zF_fc,fc_0,fc_17,fc_18,fc_19,fc_20,fc_53,fc_54,fc_55,fs_0,fs_17,fs_18,fs_19,fs_20,fs_53,fs_54,fs_55,fp_1,fp_21,fp_f,rb_1,rb_21,rb_0,fc_len,fc_ok,fc_id,fc_rs,v16,v32,cB_cells]
      tactic =>
      refine endA ?_
      sym =>
      simp [Zaa,Zab,Zad,Zae,Zaf,Zak,Zal,Zam,Zao,Zay,Zaz,Za0,Za1,Za2,Za3,Za4,Za5,Za6,Za7,Zrh,Za8,Za9,Zba,Zbb,Zbd,Zbf,Zbj,Zbt,Zbv,Zcn,Zcx,Zdc,Zdd,Zde,Zdi,Zev,Zew,Zex,Zez,Ze0,Ze2,Ze3,Ze5,Ze8,Zfc,Zfd,Zfe,Zfh,Zfi,Zfj,Zfk,Zfl,Zfn,Zfz,Zf1,Zf3,Zgd,Zgg,Zgr,Zgs,Zgt,Zgv,Zgw,Zgx,Zh6,Zh7,Zio,Zip,Zi6,Zjw,Zla,Zlb,Zle,Zlj,Zll,Zlz,Zmt,Zmv,Zmw,Zmx,Zmz,Zm2,Zm6,Zna,Znb,Zne,Znf,Zng,Zny,Zn5,Zos,Zot,Zo3,Zo4,Zo6,Zo7,Zo8,Zo9,Zpc,eq_self,true_and,and_true]
    · sym =>
      simp [Zaa,Zab,Zad,Zae,Zaf,Zak,Zal,Zam,Zao,Zay,Zaz,Za0,Za1,Za2,Za3,Za4,Za5,Za6,Za7,Zrh,Za8,Za9,Zba,Zbb,Zbd,Zbf,Zbj,Zbt,Zbv,Zcn,Zcx,Zdc,Zdd,Zde,Zdi,Zev,Zew,Zex,Zez,Ze0,Ze2,Ze3,Ze5,Ze8,Zfc,Zfd,Zfe,Zfh,Zfi,Zfj,Zfk,Zfl,Zfn,Zfz,Zf1,Zf3,Zgd,Zgg,Zgr,Zgs,Zgt,Zgv,Zgw,Zgx,Zh6,Zh7,Zio,Zip,Zi6,Zjw,Zla,Zlb,Zle,Zlj,Zll,Zlz,Zmt,Zmv,Zmw,Zmx,Zmz,Zm2,Zm6,Zna,Znb,Zne,Znf,Zng,Zny,Zn5,Zos,Zot,Zo3,Zo4,Zo6,Zo7,Zo8,Zo9,Zpc,eq_self,true_and,and_true,zF_fc,fc_0,fc_17,fc_18,fc_19,fc_20,fc_53,fc_54,fc_55,fs_0,fs_17,fs_18,fs_19,fs_20,fs_53,fs_54,fs_55,fp_1,fp_21,fp_f,rb_1,rb_21,rb_0,fc_len,fc_ok,fc_id,fc_rs,v16,v32,cB_cells]
      tactic =>
      refine endA ?_
      sym =>
      simp [Zaa,Zab,Zad,Zae,Zaf,Zak,Zal,Zam,Zao,Zay,Zaz,Za0,Za1,Za2,Za3,Za4,Za5,Za6,Za7,Zrh,Za8,Za9,Zba,Zbb,Zbd,Zbf,Zbj,Zbt,Zbv,Zcn,Zcx,Zdc,Zdd,Zde,Zdi,Zev,Zew,Zex,Zez,Ze0,Ze2,Ze3,Ze5,Ze8,Zfc,Zfd,Zfe,Zfh,Zfi,Zfj,Zfk,Zfl,Zfn,Zfz,Zf1,Zf3,Zgd,Zgg,Zgr,Zgs,Zgt,Zgv,Zgw,Zgx,Zh6,Zh7,Zio,Zip,Zi6,Zjw,Zla,Zlb,Zle,Zlj,Zll,Zlz,Zmt,Zmv,Zmw,Zmx,Zmz,Zm2,Zm6,Zna,Znb,Zne,Znf,Zng,Zny,Zn5,Zos,Zot,Zo3,Zo4,Zo6,Zo7,Zo8,Zo9,Zpc,eq_self,true_and,and_true]
    · sym =>
      simp [Zaa,Zab,Zad,Zae,Zaf,Zak,Zal,Zam,Zao,Zay,Zaz,Za0,Za1,Za2,Za3,Za4,Za5,Za6,Za7,Zrh,Za8,Za9,Zba,Zbb,Zbd,Zbf,Zbj,Zbt,Zbv,Zcn,Zcx,Zdc,Zdd,Zde,Zdi,Zev,Zew,Zex,Zez,Ze0,Ze2,Ze3,Ze5,Ze8,Zfc,Zfd,Zfe,Zfh,Zfi,Zfj,Zfk,Zfl,Zfn,Zfz,Zf1,Zf3,Zgd,Zgg,Zgr,Zgs,Zgt,Zgv,Zgw,Zgx,Zh6,Zh7,Zio,Zip,Zi6,Zjw,Zla,Zlb,Zle,Zlj,Zll,Zlz,Zmt,Zmv,Zmw,Zmx,Zmz,Zm2,Zm6,Zna,Znb,Zne,Znf,Zng,Zny,Zn5,Zos,Zot,Zo3,Zo4,Zo6,Zo7,Zo8,Zo9,Zpc,eq_self,true_and,and_true,zF_fc,fc_0,fc_17,fc_18,fc_19,fc_20,fc_53,fc_54,fc_55,fs_0,fs_17,fs_18,fs_19,fs_20,fs_53,fs_54,fs_55,fp_1,fp_21,fp_f,rb_1,rb_21,rb_0,fc_len,fc_ok,fc_id,fc_rs,v16,v32,cB_cells]
      tactic =>
      refine endA ?_
      sym =>
      simp [Zaa,Zab,Zad,Zae,Zaf,Zak,Zal,Zam,Zao,Zay,Zaz,Za0,Za1,Za2,Za3,Za4,Za5,Za6,Za7,Zrh,Za8,Za9,Zba,Zbb,Zbd,Zbf,Zbj,Zbt,Zbv,Zcn,Zcx,Zdc,Zdd,Zde,Zdi,Zev,Zew,Zex,Zez,Ze0,Ze2,Ze3,Ze5,Ze8,Zfc,Zfd,Zfe,Zfh,Zfi,Zfj,Zfk,Zfl,Zfn,Zfz,Zf1,Zf3,Zgd,Zgg,Zgr,Zgs,Zgt,Zgv,Zgw,Zgx,Zh6,Zh7,Zio,Zip,Zi6,Zjw,Zla,Zlb,Zle,Zlj,Zll,Zlz,Zmt,Zmv,Zmw,Zmx,Zmz,Zm2,Zm6,Zna,Znb,Zne,Znf,Zng,Zny,Zn5,Zos,Zot,Zo3,Zo4,Zo6,Zo7,Zo8,Zo9,Zpc,eq_self,true_and,and_true]
    · sym =>
      simp [Zaa,Zab,Zad,Zae,Zaf,Zak,Zal,Zam,Zao,Zay,Zaz,Za0,Za1,Za2,Za3,Za4,Za5,Za6,Za7,Zrh,Za8,Za9,Zba,Zbb,Zbd,Zbf,Zbj,Zbt,Zbv,Zcn,Zcx,Zdc,Zdd,Zde,Zdi,Zev,Zew,Zex,Zez,Ze0,Ze2,Ze3,Ze5,Ze8,Zfc,Zfd,Zfe,Zfh,Zfi,Zfj,Zfk,Zfl,Zfn,Zfz,Zf1,Zf3,Zgd,Zgg,Zgr,Zgs,Zgt,Zgv,Zgw,Zgx,Zh6,Zh7,Zio,Zip,Zi6,Zjw,Zla,Zlb,Zle,Zlj,Zll,Zlz,Zmt,Zmv,Zmw,Zmx,Zmz,Zm2,Zm6,Zna,Znb,Zne,Znf,Zng,Zny,Zn5,Zos,Zot,Zo3,Zo4,Zo6,Zo7,Zo8,Zo9,Zpc,eq_self,true_and,and_true,zF_fc,fc_0,fc_17,fc_18,fc_19,fc_20,fc_53,fc_54,fc_55,fs_0,fs_17,fs_18,fs_19,fs_20,fs_53,fs_54,fs_55,fp_1,fp_21,fp_f,rb_1,rb_21,rb_0,fc_len,fc_ok,fc_id,fc_rs,v16,v32,cB_cells]
      tactic =>
      refine endA ?_
      sym =>
      simp [Zaa,Zab,Zad,Zae,Zaf,Zak,Zal,Zam,Zao,Zay,Zaz,Za0,Za1,Za2,Za3,Za4,Za5,Za6,Za7,Zrh,Za8,Za9,Zba,Zbb,Zbd,Zbf,Zbj,Zbt,Zbv,Zcn,Zcx,Zdc,Zdd,Zde,Zdi,Zev,Zew,Zex,Zez,Ze0,Ze2,Ze3,Ze5,Ze8,Zfc,Zfd,Zfe,Zfh,Zfi,Zfj,Zfk,Zfl,Zfn,Zfz,Zf1,Zf3,Zgd,Zgg,Zgr,Zgs,Zgt,Zgv,Zgw,Zgx,Zh6,Zh7,Zio,Zip,Zi6,Zjw,Zla,Zlb,Zle,Zlj,Zll,Zlz,Zmt,Zmv,Zmw,Zmx,Zmz,Zm2,Zm6,Zna,Znb,Zne,Znf,Zng,Zny,Zn5,Zos,Zot,Zo3,Zo4,Zo6,Zo7,Zo8,Zo9,Zpc,eq_self,true_and,and_true]
  rw [if_neg h0] at hR
  have k1 : ¬ k = 1 := fun e => h0 (.inl e)
  have k2 : ¬ k = 2 := fun e => h0 (.inr (.inl e))
  have k5 : ¬ k = 5 := fun e => h0 (.inr (.inr (.inl e)))
  have k6 : ¬ k = 6 := fun e => h0 (.inr (.inr (.inr e)))
  by_cases h3 : k = 3
  · rw [if_pos h3] at hR
    subst h3
    by_cases hd : d.length = 0
    · rw [if_pos hd] at hR
      subst hR
      sym =>
      simp [Zaa,Zab,Zad,Zae,Zaf,Zak,Zal,Zam,Zao,Zay,Zaz,Za0,Za1,Za2,Za3,Za4,Za5,Za6,Za7,Zrh,Za8,Za9,Zba,Zbb,Zbd,Zbf,Zbj,Zbt,Zbv,Zcn,Zcx,Zdc,Zdd,Zde,Zdi,Zev,Zew,Zex,Zez,Ze0,Ze2,Ze3,Ze5,Ze8,Zfc,Zfd,Zfe,Zfh,Zfi,Zfj,Zfk,Zfl,Zfn,Zfz,Zf1,Zf3,Zgd,Zgg,Zgr,Zgs,Zgt,Zgv,Zgw,Zgx,Zh6,Zh7,Zio,Zip,Zi6,Zjw,Zla,Zlb,Zle,Zlj,Zll,Zlz,Zmt,Zmv,Zmw,Zmx,Zmz,Zm2,Zm6,Zna,Znb,Zne,Znf,Zng,Zny,Zn5,Zos,Zot,Zo3,Zo4,Zo6,Zo7,Zo8,Zo9,Zpc,eq_self,true_and,and_true,zF_fc,fc_0,fc_17,fc_18,fc_19,fc_20,fc_53,fc_54,fc_55,fs_0,fs_17,fs_18,fs_19,fs_20,fs_53,fs_54,fs_55,fp_1,fp_21,fp_f,rb_1,rb_21,rb_0,fc_len,fc_ok,fc_id,fc_rs,v16,v32,cB_cells,hd]
      tactic =>
      refine endA ?_
      sym =>
      simp [Zaa,Zab,Zad,Zae,Zaf,Zak,Zal,Zam,Zao,Zay,Zaz,Za0,Za1,Za2,Za3,Za4,Za5,Za6,Za7,Zrh,Za8,Za9,Zba,Zbb,Zbd,Zbf,Zbj,Zbt,Zbv,Zcn,Zcx,Zdc,Zdd,Zde,Zdi,Zev,Zew,Zex,Zez,Ze0,Ze2,Ze3,Ze5,Ze8,Zfc,Zfd,Zfe,Zfh,Zfi,Zfj,Zfk,Zfl,Zfn,Zfz,Zf1,Zf3,Zgd,Zgg,Zgr,Zgs,Zgt,Zgv,Zgw,Zgx,Zh6,Zh7,Zio,Zip,Zi6,Zjw,Zla,Zlb,Zle,Zlj,Zll,Zlz,Zmt,Zmv,Zmw,Zmx,Zmz,Zm2,Zm6,Zna,Znb,Zne,Znf,Zng,Zny,Zn5,Zos,Zot,Zo3,Zo4,Zo6,Zo7,Zo8,Zo9,Zpc,eq_self,true_and,and_true]
    rw [if_neg hd] at hR
    by_cases hd2 : 256 < d.length
    · rw [if_pos hd2] at hR
      subst hR
      have hd' : IN d.length > (256 : Int) := by simp only [IN]; omega
      sym =>
      simp [Zaa,Zab,Zad,Zae,Zaf,Zak,Zal,Zam,Zao,Zay,Zaz,Za0,Za1,Za2,Za3,Za4,Za5,Za6,Za7,Zrh,Za8,Za9,Zba,Zbb,Zbd,Zbf,Zbj,Zbt,Zbv,Zcn,Zcx,Zdc,Zdd,Zde,Zdi,Zev,Zew,Zex,Zez,Ze0,Ze2,Ze3,Ze5,Ze8,Zfc,Zfd,Zfe,Zfh,Zfi,Zfj,Zfk,Zfl,Zfn,Zfz,Zf1,Zf3,Zgd,Zgg,Zgr,Zgs,Zgt,Zgv,Zgw,Zgx,Zh6,Zh7,Zio,Zip,Zi6,Zjw,Zla,Zlb,Zle,Zlj,Zll,Zlz,Zmt,Zmv,Zmw,Zmx,Zmz,Zm2,Zm6,Zna,Znb,Zne,Znf,Zng,Zny,Zn5,Zos,Zot,Zo3,Zo4,Zo6,Zo7,Zo8,Zo9,Zpc,eq_self,true_and,and_true,zF_fc,fc_0,fc_17,fc_18,fc_19,fc_20,fc_53,fc_54,fc_55,fs_0,fs_17,fs_18,fs_19,fs_20,fs_53,fs_54,fs_55,fp_1,fp_21,fp_f,rb_1,rb_21,rb_0,fc_len,fc_ok,fc_id,fc_rs,v16,v32,cB_cells,hd,hd']
      tactic =>
      refine endA ?_
      sym =>
      simp [Zaa,Zab,Zad,Zae,Zaf,Zak,Zal,Zam,Zao,Zay,Zaz,Za0,Za1,Za2,Za3,Za4,Za5,Za6,Za7,Zrh,Za8,Za9,Zba,Zbb,Zbd,Zbf,Zbj,Zbt,Zbv,Zcn,Zcx,Zdc,Zdd,Zde,Zdi,Zev,Zew,Zex,Zez,Ze0,Ze2,Ze3,Ze5,Ze8,Zfc,Zfd,Zfe,Zfh,Zfi,Zfj,Zfk,Zfl,Zfn,Zfz,Zf1,Zf3,Zgd,Zgg,Zgr,Zgs,Zgt,Zgv,Zgw,Zgx,Zh6,Zh7,Zio,Zip,Zi6,Zjw,Zla,Zlb,Zle,Zlj,Zll,Zlz,Zmt,Zmv,Zmw,Zmx,Zmz,Zm2,Zm6,Zna,Znb,Zne,Znf,Zng,Zny,Zn5,Zos,Zot,Zo3,Zo4,Zo6,Zo7,Zo8,Zo9,Zpc,eq_self,true_and,and_true]
    · rw [if_neg hd2] at hR
      subst hR
      have hd' : ¬ IN d.length > (256 : Int) := by simp only [IN]; omega
      sym =>
      simp [Zaa,Zab,Zad,Zae,Zaf,Zak,Zal,Zam,Zao,Zay,Zaz,Za0,Za1,Za2,Za3,Za4,Za5,Za6,Za7,Zrh,Za8,Za9,Zba,Zbb,Zbd,Zbf,Zbj,Zbt,Zbv,Zcn,Zcx,Zdc,Zdd,Zde,Zdi,Zev,Zew,Zex,Zez,Ze0,Ze2,Ze3,Ze5,Ze8,Zfc,Zfd,Zfe,Zfh,Zfi,Zfj,Zfk,Zfl,Zfn,Zfz,Zf1,Zf3,Zgd,Zgg,Zgr,Zgs,Zgt,Zgv,Zgw,Zgx,Zh6,Zh7,Zio,Zip,Zi6,Zjw,Zla,Zlb,Zle,Zlj,Zll,Zlz,Zmt,Zmv,Zmw,Zmx,Zmz,Zm2,Zm6,Zna,Znb,Zne,Znf,Zng,Zny,Zn5,Zos,Zot,Zo3,Zo4,Zo6,Zo7,Zo8,Zo9,Zpc,eq_self,true_and,and_true,zF_fc,fc_0,fc_17,fc_18,fc_19,fc_20,fc_53,fc_54,fc_55,fs_0,fs_17,fs_18,fs_19,fs_20,fs_53,fs_54,fs_55,fp_1,fp_21,fp_f,rb_1,rb_21,rb_0,fc_len,fc_ok,fc_id,fc_rs,v16,v32,cB_cells,hd,hd']
      tactic =>
      refine endA ?_
      sym =>
      simp [Zaa,Zab,Zad,Zae,Zaf,Zak,Zal,Zam,Zao,Zay,Zaz,Za0,Za1,Za2,Za3,Za4,Za5,Za6,Za7,Zrh,Za8,Za9,Zba,Zbb,Zbd,Zbf,Zbj,Zbt,Zbv,Zcn,Zcx,Zdc,Zdd,Zde,Zdi,Zev,Zew,Zex,Zez,Ze0,Ze2,Ze3,Ze5,Ze8,Zfc,Zfd,Zfe,Zfh,Zfi,Zfj,Zfk,Zfl,Zfn,Zfz,Zf1,Zf3,Zgd,Zgg,Zgr,Zgs,Zgt,Zgv,Zgw,Zgx,Zh6,Zh7,Zio,Zip,Zi6,Zjw,Zla,Zlb,Zle,Zlj,Zll,Zlz,Zmt,Zmv,Zmw,Zmx,Zmz,Zm2,Zm6,Zna,Znb,Zne,Znf,Zng,Zny,Zn5,Zos,Zot,Zo3,Zo4,Zo6,Zo7,Zo8,Zo9,Zpc,eq_self,true_and,and_true]
  rw [if_neg h3] at hR
  by_cases h4 : k = 4
  · rw [if_pos h4] at hR
    subst h4
    by_cases hd2 : 4 < r.length
    · rw [if_pos hd2] at hR
      subst hR
      have hd' : IN r.length > (4 : Int) := by simp only [IN]; omega
      sym =>
      simp [Zaa,Zab,Zad,Zae,Zaf,Zak,Zal,Zam,Zao,Zay,Zaz,Za0,Za1,Za2,Za3,Za4,Za5,Za6,Za7,Zrh,Za8,Za9,Zba,Zbb,Zbd,Zbf,Zbj,Zbt,Zbv,Zcn,Zcx,Zdc,Zdd,Zde,Zdi,Zev,Zew,Zex,Zez,Ze0,Ze2,Ze3,Ze5,Ze8,Zfc,Zfd,Zfe,Zfh,Zfi,Zfj,Zfk,Zfl,Zfn,Zfz,Zf1,Zf3,Zgd,Zgg,Zgr,Zgs,Zgt,Zgv,Zgw,Zgx,Zh6,Zh7,Zio,Zip,Zi6,Zjw,Zla,Zlb,Zle,Zlj,Zll,Zlz,Zmt,Zmv,Zmw,Zmx,Zmz,Zm2,Zm6,Zna,Znb,Zne,Znf,Zng,Zny,Zn5,Zos,Zot,Zo3,Zo4,Zo6,Zo7,Zo8,Zo9,Zpc,eq_self,true_and,and_true,zF_fc,fc_0,fc_17,fc_18,fc_19,fc_20,fc_53,fc_54,fc_55,fs_0,fs_17,fs_18,fs_19,fs_20,fs_53,fs_54,fs_55,fp_1,fp_21,fp_f,rb_1,rb_21,rb_0,fc_len,fc_ok,fc_id,fc_rs,v16,v32,cB_cells,hd']
      tactic =>
      refine endA ?_
      sym =>
      simp [Zaa,Zab,Zad,Zae,Zaf,Zak,Zal,Zam,Zao,Zay,Zaz,Za0,Za1,Za2,Za3,Za4,Za5,Za6,Za7,Zrh,Za8,Za9,Zba,Zbb,Zbd,Zbf,Zbj,Zbt,Zbv,Zcn,Zcx,Zdc,Zdd,Zde,Zdi,Zev,Zew,Zex,Zez,Ze0,Ze2,Ze3,Ze5,Ze8,Zfc,Zfd,Zfe,Zfh,Zfi,Zfj,Zfk,Zfl,Zfn,Zfz,Zf1,Zf3,Zgd,Zgg,Zgr,Zgs,Zgt,Zgv,Zgw,Zgx,Zh6,Zh7,Zio,Zip,Zi6,Zjw,Zla,Zlb,Zle,Zlj,Zll,Zlz,Zmt,Zmv,Zmw,Zmx,Zmz,Zm2,Zm6,Zna,Znb,Zne,Znf,Zng,Zny,Zn5,Zos,Zot,Zo3,Zo4,Zo6,Zo7,Zo8,Zo9,Zpc,eq_self,true_and,and_true]
    rw [if_neg hd2] at hR
    have hd' : ¬ IN r.length > (4 : Int) := by simp only [IN]; omega
    sym =>
    simp [Zaa,Zab,Zad,Zae,Zaf,Zak,Zal,Zam,Zao,Zay,Zaz,Za0,Za1,Za2,Za3,Za4,Za5,Za6,Za7,Zrh,Za8,Za9,Zba,Zbb,Zbd,Zbf,Zbj,Zbt,Zbv,Zcn,Zcx,Zdc,Zdd,Zde,Zdi,Zev,Zew,Zex,Zez,Ze0,Ze2,Ze3,Ze5,Ze8,Zfc,Zfd,Zfe,Zfh,Zfi,Zfj,Zfk,Zfl,Zfn,Zfz,Zf1,Zf3,Zgd,Zgg,Zgr,Zgs,Zgt,Zgv,Zgw,Zgx,Zh6,Zh7,Zio,Zip,Zi6,Zjw,Zla,Zlb,Zle,Zlj,Zll,Zlz,Zmt,Zmv,Zmw,Zmx,Zmz,Zm2,Zm6,Zna,Znb,Zne,Znf,Zng,Zny,Zn5,Zos,Zot,Zo3,Zo4,Zo6,Zo7,Zo8,Zo9,Zpc,eq_self,true_and,and_true,zF_fc,fc_0,fc_17,fc_18,fc_19,fc_20,fc_53,fc_54,fc_55,fs_0,fs_17,fs_18,fs_19,fs_20,fs_53,fs_54,fs_55,fp_1,fp_21,fp_f,rb_1,rb_21,rb_0,fc_len,fc_ok,fc_id,fc_rs,v16,v32,cB_cells,hd',callable_17]
    tactic =>
    refine cl none (rrise_con o r hr) trivial ?_
    by_cases hri : riF o r = true
    · rw [if_pos hri] at hR
      subst hR
      sym =>
      simp [Zaa,Zab,Zad,Zae,Zaf,Zak,Zal,Zam,Zao,Zay,Zaz,Za0,Za1,Za2,Za3,Za4,Za5,Za6,Za7,Zrh,Za8,Za9,Zba,Zbb,Zbd,Zbf,Zbj,Zbt,Zbv,Zcn,Zcx,Zdc,Zdd,Zde,Zdi,Zev,Zew,Zex,Zez,Ze0,Ze2,Ze3,Ze5,Ze8,Zfc,Zfd,Zfe,Zfh,Zfi,Zfj,Zfk,Zfl,Zfn,Zfz,Zf1,Zf3,Zgd,Zgg,Zgr,Zgs,Zgt,Zgv,Zgw,Zgx,Zh6,Zh7,Zio,Zip,Zi6,Zjw,Zla,Zlb,Zle,Zlj,Zll,Zlz,Zmt,Zmv,Zmw,Zmx,Zmz,Zm2,Zm6,Zna,Znb,Zne,Znf,Zng,Zny,Zn5,Zos,Zot,Zo3,Zo4,Zo6,Zo7,Zo8,Zo9,Zpc,eq_self,true_and,and_true,zF_fc,fc_0,fc_17,fc_18,fc_19,fc_20,fc_53,fc_54,fc_55,fs_0,fs_17,fs_18,fs_19,fs_20,fs_53,fs_54,fs_55,fp_1,fp_21,fp_f,rb_1,rb_21,rb_0,fc_len,fc_ok,fc_id,fc_rs,v16,v32,cB_cells,hri]
      tactic =>
      refine endA ?_
      sym =>
      simp [Zaa,Zab,Zad,Zae,Zaf,Zak,Zal,Zam,Zao,Zay,Zaz,Za0,Za1,Za2,Za3,Za4,Za5,Za6,Za7,Zrh,Za8,Za9,Zba,Zbb,Zbd,Zbf,Zbj,Zbt,Zbv,Zcn,Zcx,Zdc,Zdd,Zde,Zdi,Zev,Zew,Zex,Zez,Ze0,Ze2,Ze3,Ze5,Ze8,Zfc,Zfd,Zfe,Zfh,Zfi,Zfj,Zfk,Zfl,Zfn,Zfz,Zf1,Zf3,Zgd,Zgg,Zgr,Zgs,Zgt,Zgv,Zgw,Zgx,Zh6,Zh7,Zio,Zip,Zi6,Zjw,Zla,Zlb,Zle,Zlj,Zll,Zlz,Zmt,Zmv,Zmw,Zmx,Zmz,Zm2,Zm6,Zna,Znb,Zne,Znf,Zng,Zny,Zn5,Zos,Zot,Zo3,Zo4,Zo6,Zo7,Zo8,Zo9,Zpc,eq_self,true_and,and_true]
    · rw [if_neg hri] at hR
      have hri' : riF o r = false := by simpa using hri
      subst hR
      sym =>
      simp [Zaa,Zab,Zad,Zae,Zaf,Zak,Zal,Zam,Zao,Zay,Zaz,Za0,Za1,Za2,Za3,Za4,Za5,Za6,Za7,Zrh,Za8,Za9,Zba,Zbb,Zbd,Zbf,Zbj,Zbt,Zbv,Zcn,Zcx,Zdc,Zdd,Zde,Zdi,Zev,Zew,Zex,Zez,Ze0,Ze2,Ze3,Ze5,Ze8,Zfc,Zfd,Zfe,Zfh,Zfi,Zfj,Zfk,Zfl,Zfn,Zfz,Zf1,Zf3,Zgd,Zgg,Zgr,Zgs,Zgt,Zgv,Zgw,Zgx,Zh6,Zh7,Zio,Zip,Zi6,Zjw,Zla,Zlb,Zle,Zlj,Zll,Zlz,Zmt,Zmv,Zmw,Zmx,Zmz,Zm2,Zm6,Zna,Znb,Zne,Znf,Zng,Zny,Zn5,Zos,Zot,Zo3,Zo4,Zo6,Zo7,Zo8,Zo9,Zpc,eq_self,true_and,and_true,zF_fc,fc_0,fc_17,fc_18,fc_19,fc_20,fc_53,fc_54,fc_55,fs_0,fs_17,fs_18,fs_19,fs_20,fs_53,fs_54,fs_55,fp_1,fp_21,fp_f,rb_1,rb_21,rb_0,fc_len,fc_ok,fc_id,fc_rs,v16,v32,cB_cells,hri']
      tactic =>
      refine endA ?_
      sym =>
      simp [Zaa,Zab,Zad,Zae,Zaf,Zak,Zal,Zam,Zao,Zay,Zaz,Za0,Za1,Za2,Za3,Za4,Za5,Za6,Za7,Zrh,Za8,Za9,Zba,Zbb,Zbd,Zbf,Zbj,Zbt,Zbv,Zcn,Zcx,Zdc,Zdd,Zde,Zdi,Zev,Zew,Zex,Zez,Ze0,Ze2,Ze3,Ze5,Ze8,Zfc,Zfd,Zfe,Zfh,Zfi,Zfj,Zfk,Zfl,Zfn,Zfz,Zf1,Zf3,Zgd,Zgg,Zgr,Zgs,Zgt,Zgv,Zgw,Zgx,Zh6,Zh7,Zio,Zip,Zi6,Zjw,Zla,Zlb,Zle,Zlj,Zll,Zlz,Zmt,Zmv,Zmw,Zmx,Zmz,Zm2,Zm6,Zna,Znb,Zne,Znf,Zng,Zny,Zn5,Zos,Zot,Zo3,Zo4,Zo6,Zo7,Zo8,Zo9,Zpc,eq_self,true_and,and_true]
  rw [if_neg h4] at hR
  by_cases h7 : k = 7
  · rw [if_pos h7] at hR
    subst h7
    by_cases hc1 : c < 1
    · rw [if_pos hc1] at hR
      subst hR
      sym =>
      simp [Zaa,Zab,Zad,Zae,Zaf,Zak,Zal,Zam,Zao,Zay,Zaz,Za0,Za1,Za2,Za3,Za4,Za5,Za6,Za7,Zrh,Za8,Za9,Zba,Zbb,Zbd,Zbf,Zbj,Zbt,Zbv,Zcn,Zcx,Zdc,Zdd,Zde,Zdi,Zev,Zew,Zex,Zez,Ze0,Ze2,Ze3,Ze5,Ze8,Zfc,Zfd,Zfe,Zfh,Zfi,Zfj,Zfk,Zfl,Zfn,Zfz,Zf1,Zf3,Zgd,Zgg,Zgr,Zgs,Zgt,Zgv,Zgw,Zgx,Zh6,Zh7,Zio,Zip,Zi6,Zjw,Zla,Zlb,Zle,Zlj,Zll,Zlz,Zmt,Zmv,Zmw,Zmx,Zmz,Zm2,Zm6,Zna,Znb,Zne,Znf,Zng,Zny,Zn5,Zos,Zot,Zo3,Zo4,Zo6,Zo7,Zo8,Zo9,Zpc,eq_self,true_and,and_true,zF_fc,fc_0,fc_17,fc_18,fc_19,fc_20,fc_53,fc_54,fc_55,fs_0,fs_17,fs_18,fs_19,fs_20,fs_53,fs_54,fs_55,fp_1,fp_21,fp_f,rb_1,rb_21,rb_0,fc_len,fc_ok,fc_id,fc_rs,v16,v32,cB_cells,hc1]
      tactic =>
      refine endA ?_
      sym =>
      simp [Zaa,Zab,Zad,Zae,Zaf,Zak,Zal,Zam,Zao,Zay,Zaz,Za0,Za1,Za2,Za3,Za4,Za5,Za6,Za7,Zrh,Za8,Za9,Zba,Zbb,Zbd,Zbf,Zbj,Zbt,Zbv,Zcn,Zcx,Zdc,Zdd,Zde,Zdi,Zev,Zew,Zex,Zez,Ze0,Ze2,Ze3,Ze5,Ze8,Zfc,Zfd,Zfe,Zfh,Zfi,Zfj,Zfk,Zfl,Zfn,Zfz,Zf1,Zf3,Zgd,Zgg,Zgr,Zgs,Zgt,Zgv,Zgw,Zgx,Zh6,Zh7,Zio,Zip,Zi6,Zjw,Zla,Zlb,Zle,Zlj,Zll,Zlz,Zmt,Zmv,Zmw,Zmx,Zmz,Zm2,Zm6,Zna,Znb,Zne,Znf,Zng,Zny,Zn5,Zos,Zot,Zo3,Zo4,Zo6,Zo7,Zo8,Zo9,Zpc,eq_self,true_and,and_true]
    rw [if_neg hc1] at hR
    by_cases hc2 : 99 < c
    · rw [if_pos hc2] at hR
      subst hR
      have hc' : c > 99 := hc2
      sym =>
      simp [Zaa,Zab,Zad,Zae,Zaf,Zak,Zal,Zam,Zao,Zay,Zaz,Za0,Za1,Za2,Za3,Za4,Za5,Za6,Za7,Zrh,Za8,Za9,Zba,Zbb,Zbd,Zbf,Zbj,Zbt,Zbv,Zcn,Zcx,Zdc,Zdd,Zde,Zdi,Zev,Zew,Zex,Zez,Ze0,Ze2,Ze3,Ze5,Ze8,Zfc,Zfd,Zfe,Zfh,Zfi,Zfj,Zfk,Zfl,Zfn,Zfz,Zf1,Zf3,Zgd,Zgg,Zgr,Zgs,Zgt,Zgv,Zgw,Zgx,Zh6,Zh7,Zio,Zip,Zi6,Zjw,Zla,Zlb,Zle,Zlj,Zll,Zlz,Zmt,Zmv,Zmw,Zmx,Zmz,Zm2,Zm6,Zna,Znb,Zne,Znf,Zng,Zny,Zn5,Zos,Zot,Zo3,Zo4,Zo6,Zo7,Zo8,Zo9,Zpc,eq_self,true_and,and_true,zF_fc,fc_0,fc_17,fc_18,fc_19,fc_20,fc_53,fc_54,fc_55,fs_0,fs_17,fs_18,fs_19,fs_20,fs_53,fs_54,fs_55,fp_1,fp_21,fp_f,rb_1,rb_21,rb_0,fc_len,fc_ok,fc_id,fc_rs,v16,v32,cB_cells,hc1,hc']
      tactic =>
      refine endA ?_
      sym =>
      simp [Zaa,Zab,Zad,Zae,Zaf,Zak,Zal,Zam,Zao,Zay,Zaz,Za0,Za1,Za2,Za3,Za4,Za5,Za6,Za7,Zrh,Za8,Za9,Zba,Zbb,Zbd,Zbf,Zbj,Zbt,Zbv,Zcn,Zcx,Zdc,Zdd,Zde,Zdi,Zev,Zew,Zex,Zez,Ze0,Ze2,Ze3,Ze5,Ze8,Zfc,Zfd,Zfe,Zfh,Zfi,Zfj,Zfk,Zfl,Zfn,Zfz,Zf1,Zf3,Zgd,Zgg,Zgr,Zgs,Zgt,Zgv,Zgw,Zgx,Zh6,Zh7,Zio,Zip,Zi6,Zjw,Zla,Zlb,Zle,Zlj,Zll,Zlz,Zmt,Zmv,Zmw,Zmx,Zmz,Zm2,Zm6,Zna,Znb,Zne,Znf,Zng,Zny,Zn5,Zos,Zot,Zo3,Zo4,Zo6,Zo7,Zo8,Zo9,Zpc,eq_self,true_and,and_true]
    · rw [if_neg hc2] at hR
      subst hR
      have hc' : ¬ c > 99 := hc2
      sym =>
      simp [Zaa,Zab,Zad,Zae,Zaf,Zak,Zal,Zam,Zao,Zay,Zaz,Za0,Za1,Za2,Za3,Za4,Za5,Za6,Za7,Zrh,Za8,Za9,Zba,Zbb,Zbd,Zbf,Zbj,Zbt,Zbv,Zcn,Zcx,Zdc,Zdd,Zde,Zdi,Zev,Zew,Zex,Zez,Ze0,Ze2,Ze3,Ze5,Ze8,Zfc,Zfd,Zfe,Zfh,Zfi,Zfj,Zfk,Zfl,Zfn,Zfz,Zf1,Zf3,Zgd,Zgg,Zgr,Zgs,Zgt,Zgv,Zgw,Zgx,Zh6,Zh7,Zio,Zip,Zi6,Zjw,Zla,Zlb,Zle,Zlj,Zll,Zlz,Zmt,Zmv,Zmw,Zmx,Zmz,Zm2,Zm6,Zna,Znb,Zne,Znf,Zng,Zny,Zn5,Zos,Zot,Zo3,Zo4,Zo6,Zo7,Zo8,Zo9,Zpc,eq_self,true_and,and_true,zF_fc,fc_0,fc_17,fc_18,fc_19,fc_20,fc_53,fc_54,fc_55,fs_0,fs_17,fs_18,fs_19,fs_20,fs_53,fs_54,fs_55,fp_1,fp_21,fp_f,rb_1,rb_21,rb_0,fc_len,fc_ok,fc_id,fc_rs,v16,v32,cB_cells,hc1,hc']
      tactic =>
      refine endA ?_
      sym =>
      simp [Zaa,Zab,Zad,Zae,Zaf,Zak,Zal,Zam,Zao,Zay,Zaz,Za0,Za1,Za2,Za3,Za4,Za5,Za6,Za7,Zrh,Za8,Za9,Zba,Zbb,Zbd,Zbf,Zbj,Zbt,Zbv,Zcn,Zcx,Zdc,Zdd,Zde,Zdi,Zev,Zew,Zex,Zez,Ze0,Ze2,Ze3,Ze5,Ze8,Zfc,Zfd,Zfe,Zfh,Zfi,Zfj,Zfk,Zfl,Zfn,Zfz,Zf1,Zf3,Zgd,Zgg,Zgr,Zgs,Zgt,Zgv,Zgw,Zgx,Zh6,Zh7,Zio,Zip,Zi6,Zjw,Zla,Zlb,Zle,Zlj,Zll,Zlz,Zmt,Zmv,Zmw,Zmx,Zmz,Zm2,Zm6,Zna,Znb,Zne,Znf,Zng,Zny,Zn5,Zos,Zot,Zo3,Zo4,Zo6,Zo7,Zo8,Zo9,Zpc,eq_self,true_and,and_true]
  rw [if_neg h7] at hR
  subst hR
  by_cases hk : k < 1
  · sym =>
    simp [Zaa,Zab,Zad,Zae,Zaf,Zak,Zal,Zam,Zao,Zay,Zaz,Za0,Za1,Za2,Za3,Za4,Za5,Za6,Za7,Zrh,Za8,Za9,Zba,Zbb,Zbd,Zbf,Zbj,Zbt,Zbv,Zcn,Zcx,Zdc,Zdd,Zde,Zdi,Zev,Zew,Zex,Zez,Ze0,Ze2,Ze3,Ze5,Ze8,Zfc,Zfd,Zfe,Zfh,Zfi,Zfj,Zfk,Zfl,Zfn,Zfz,Zf1,Zf3,Zgd,Zgg,Zgr,Zgs,Zgt,Zgv,Zgw,Zgx,Zh6,Zh7,Zio,Zip,Zi6,Zjw,Zla,Zlb,Zle,Zlj,Zll,Zlz,Zmt,Zmv,Zmw,Zmx,Zmz,Zm2,Zm6,Zna,Znb,Zne,Znf,Zng,Zny,Zn5,Zos,Zot,Zo3,Zo4,Zo6,Zo7,Zo8,Zo9,Zpc,eq_self,true_and,and_true,zF_fc,fc_0,fc_17,fc_18,fc_19,fc_20,fc_53,fc_54,fc_55,fs_0,fs_17,fs_18,fs_19,fs_20,fs_53,fs_54,fs_55,fp_1,fp_21,fp_f,rb_1,rb_21,rb_0,fc_len,fc_ok,fc_id,fc_rs,v16,v32,cB_cells,hk]
    tactic =>
    refine endA ?_
    sym =>
    simp [Zaa,Zab,Zad,Zae,Zaf,Zak,Zal,Zam,Zao,Zay,Zaz,Za0,Za1,Za2,Za3,Za4,Za5,Za6,Za7,Zrh,Za8,Za9,Zba,Zbb,Zbd,Zbf,Zbj,Zbt,Zbv,Zcn,Zcx,Zdc,Zdd,Zde,Zdi,Zev,Zew,Zex,Zez,Ze0,Ze2,Ze3,Ze5,Ze8,Zfc,Zfd,Zfe,Zfh,Zfi,Zfj,Zfk,Zfl,Zfn,Zfz,Zf1,Zf3,Zgd,Zgg,Zgr,Zgs,Zgt,Zgv,Zgw,Zgx,Zh6,Zh7,Zio,Zip,Zi6,Zjw,Zla,Zlb,Zle,Zlj,Zll,Zlz,Zmt,Zmv,Zmw,Zmx,Zmz,Zm2,Zm6,Zna,Znb,Zne,Znf,Zng,Zny,Zn5,Zos,Zot,Zo3,Zo4,Zo6,Zo7,Zo8,Zo9,Zpc,eq_self,true_and,and_true]
  · have hk2 : k > 7 := by omega
    sym =>
    simp [Zaa,Zab,Zad,Zae,Zaf,Zak,Zal,Zam,Zao,Zay,Zaz,Za0,Za1,Za2,Za3,Za4,Za5,Za6,Za7,Zrh,Za8,Za9,Zba,Zbb,Zbd,Zbf,Zbj,Zbt,Zbv,Zcn,Zcx,Zdc,Zdd,Zde,Zdi,Zev,Zew,Zex,Zez,Ze0,Ze2,Ze3,Ze5,Ze8,Zfc,Zfd,Zfe,Zfh,Zfi,Zfj,Zfk,Zfl,Zfn,Zfz,Zf1,Zf3,Zgd,Zgg,Zgr,Zgs,Zgt,Zgv,Zgw,Zgx,Zh6,Zh7,Zio,Zip,Zi6,Zjw,Zla,Zlb,Zle,Zlj,Zll,Zlz,Zmt,Zmv,Zmw,Zmx,Zmz,Zm2,Zm6,Zna,Znb,Zne,Znf,Zng,Zny,Zn5,Zos,Zot,Zo3,Zo4,Zo6,Zo7,Zo8,Zo9,Zpc,eq_self,true_and,and_true,zF_fc,fc_0,fc_17,fc_18,fc_19,fc_20,fc_53,fc_54,fc_55,fs_0,fs_17,fs_18,fs_19,fs_20,fs_53,fs_54,fs_55,fp_1,fp_21,fp_f,rb_1,rb_21,rb_0,fc_len,fc_ok,fc_id,fc_rs,v16,v32,cB_cells,hk,hk2]
    tactic =>
    refine endA ?_
    sym =>
    simp [Zaa,Zab,Zad,Zae,Zaf,Zak,Zal,Zam,Zao,Zay,Zaz,Za0,Za1,Za2,Za3,Za4,Za5,Za6,Za7,Zrh,Za8,Za9,Zba,Zbb,Zbd,Zbf,Zbj,Zbt,Zbv,Zcn,Zcx,Zdc,Zdd,Zde,Zdi,Zev,Zew,Zex,Zez,Ze0,Ze2,Ze3,Ze5,Ze8,Zfc,Zfd,Zfe,Zfh,Zfi,Zfj,Zfk,Zfl,Zfn,Zfz,Zf1,Zf3,Zgd,Zgg,Zgr,Zgs,Zgt,Zgv,Zgw,Zgx,Zh6,Zh7,Zio,Zip,Zi6,Zjw,Zla,Zlb,Zle,Zlj,Zll,Zlz,Zmt,Zmv,Zmw,Zmx,Zmz,Zm2,Zm6,Zna,Znb,Zne,Znf,Zng,Zny,Zn5,Zos,Zot,Zo3,Zo4,Zo6,Zo7,Zo8,Zo9,Zpc,eq_self,true_and,and_true]
/-- An epoch's mark. -/
def mkF (es er : Int) : Int := (es % 4 + er % 4) % 4
theorem rmark_con (es er : Int) (h1 : 0 ≤ es ∧ es < 4294967296) (h2 : 0 ≤ er ∧ er < 4294967296) : Con Try.prog 28 [] [.ag [U es, U er]] [] (Y (mkF es er)) := by
  refine con_j b28 rfl ?_
  have e1 : es.tmod (4 : Int) = es % 4 := Int.tmod_eq_emod_of_nonneg h1.1
  have e2 : er.tmod (4 : Int) = er % 4 := Int.tmod_eq_emod_of_nonneg h2.1
  have e3 : IntKind.u32.wrap (es % 4 + er % 4) = es % 4 + er % 4 := by rw [w32u]; omega
  have e4 : (es % 4 + er % 4).tmod (4 : Int) = mkF es er := by rw [Int.tmod_eq_emod_of_nonneg (by omega)]; rfl
  have e5 : IntKind.u8.wrap (mkF es er) = mkF es er := by rw [w8u]; unfold mkF; omega
  sym =>
  simp [Zab,Zad,Zak,Zam,Zaz,Za0,Za1,Za2,Za3,Za4,Za5,Za9,Zba,Zbb,Zbf,Zbl,Zbt,Zbv,Zcx,Zev,Zew,Zez,Ze0,Ze2,Ze3,Ze5,Ze8,Zfc,Zfd,Zfe,Zfh,Zfn,Zfq,Zfu,Zgh,Zgi,Zgr,Zgs,Zgt,Zgv,Zgw,Zgx,Zio,Zip,Zi6,Zmt,Zmv,Zmw,Zmx,Zmz,Zm2,Zm6,Zm9,Zna,Znb,Zos,Zot,Zo7,Zpc,eq_self,true_and,e1,e2,e3,e4,e5]
  tactic =>
  refine endA ?_
  sym =>
  simp [Zab,Zad,Zak,Zam,Zaz,Za0,Za1,Za2,Za3,Za4,Za5,Za9,Zba,Zbb,Zbf,Zbl,Zbt,Zbv,Zcx,Zev,Zew,Zez,Ze0,Ze2,Ze3,Ze5,Ze8,Zfc,Zfd,Zfe,Zfh,Zfn,Zfq,Zfu,Zgh,Zgi,Zgr,Zgs,Zgt,Zgv,Zgw,Zgx,Zio,Zip,Zi6,Zmt,Zmv,Zmw,Zmx,Zmz,Zm2,Zm6,Zm9,Zna,Znb,Zos,Zot,Zo7,Zpc,eq_self,true_and]
theorem sks_cB : ∀ (l : List LK) (a b : List Int), (∀ x ∈ l, x = LK.i) → a.length = l.length → b.length = l.length → sks l (cB a) (cB b)
  | [], [], [], _, _, _ => trivial
  | x :: l, a :: xs, b :: ys, h, h1, h2 => by
    have hx := h x (List.mem_cons_self ..)
    subst hx
    exact ⟨rfl, sks_cB l xs ys (fun y hy => h y (List.mem_cons_of_mem _ hy)) (by simpa using h1) (by simpa using h2)⟩
theorem cB_inj {a b : List Int} (h : cB a = cB b) : a = b := by
  induction a generalizing b with
  | nil => cases b with | nil => rfl | cons y b => cases h
  | cons x a ih =>
    cases b with
    | nil => cases h
    | cons y b =>
      have h' : Y x :: cB a = Y y :: cB b := h
      injection h' with h1 h2
      injection h1 with h1
      injection h1 with _ h1
      rw [h1, ih h2]
theorem eqL_V (n : Nat) (a b : V n) : eqL (cB a.1) (cB b.1) = decide (a = b) := by
  unfold eqL
  by_cases h : a = b
  · subst h; simp
  · have : ¬ cB a.1 = cB b.1 := fun e => h (Subtype.ext (cB_inj e))
    simp [h, this]
theorem eqL_self (l : List AV) : eqL l l = true := by simp [eqL]
theorem sk16 (a b : V 16) : sks [.i, .i, .i, .i, .i, .i, .i, .i, .i, .i, .i, .i, .i, .i, .i, .i] (cB a.1) (cB b.1) = True := eq_true (sks_cB _ _ _ (by decide) a.2 b.2)
theorem sk32 (a b : V 32) : sks [.i, .i, .i, .i, .i, .i, .i, .i, .i, .i, .i, .i, .i, .i, .i, .i, .i, .i, .i, .i, .i, .i, .i, .i, .i, .i, .i, .i, .i, .i, .i, .i] (cB a.1) (cB b.1) = True := eq_true (sks_cB _ _ _ (by decide) a.2 b.2)
/-- Are two frames the same? -/
def saF (f g : Fm) : Bool := if f.k = g.k then (if f.t = g.t then (if f.es = g.es then (if f.er = g.er then (if f.o = g.o then (if f.n = g.n then (if f.su = g.su then (if f.c = g.c then (if f.d = g.d then decide (f.r = g.r) else false) else false) else false) else false) else false) else false) else false) else false) else false
theorem same_con (f g : Fm) (hr : f.r.length ≤ 1000000) (hf : byt8 f.d) (hg : byt8 g.d) : Con Try.prog 13 [] [.ag (fr f), .ag (fr g)] [] (Bo (saF f g)) := by
  obtain ⟨k, t, es, er, o, n, su, d, r, c⟩ := f
  obtain ⟨k', t', es', er', o', n', su', d', r', c'⟩ := g
  simp only at hr hf hg
  obtain ⟨R, hR⟩ : ∃ R, R = saF ⟨k, t, es, er, o, n, su, d, r, c⟩ ⟨k', t', es', er', o', n', su', d', r', c'⟩ := ⟨_, rfl⟩
  rw [← hR]
  unfold saF at hR
  simp only at hR
  simp only [fr]
  refine con_j b13 rfl ?_
  by_cases h1 : k = k'
  rotate_left
  · rw [if_neg h1] at hR
    subst hR
    sym =>
    simp [Zab,Zad,Zak,Zam,Zaz,Za0,Za1,Za2,Za3,Za4,Za5,Za6,Za7,Za8,Za9,Zba,Zbb,Zbd,Zbf,Zbh,Zbt,Zbv,Zcx,Zdc,Zdd,Zde,Zdi,Zev,Zew,Zex,Zez,Ze0,Ze2,Ze3,Ze5,Ze8,Zfc,Zfd,Zfe,Zfh,Zfi,Zfk,Zfl,Zfn,Zfz,Zga,Zgb,Zgr,Zgs,Zgt,Zgv,Zgw,Zgx,Zio,Zip,Zi6,Zjw,Zla,Zlb,Zle,Zll,Zlz,Zmt,Zmv,Zmw,Zmx,Zmz,Zm2,Zm5,Zm6,Zm7,Zna,Znb,Zne,Znf,Zng,Zol,Zom,Zor,Zos,Zot,Zo7,Zo8,Zo9,Zpc,eq_self,true_and,and_true,zF_fc,fc_0,fc_17,fc_18,fc_19,fc_20,fc_53,fc_54,fc_55,fs_0,fs_17,fs_18,fs_19,fs_20,fs_53,fs_54,fs_55,fp_1,fp_21,fp_f,rb_1,rb_21,rb_0,fc_len,fc_ok,fc_id,fc_rs,v16,v32,cB_cells,eqL_self,sk16,sk32,h1]
    tactic =>
    refine endA ?_
    sym =>
    simp [Zab,Zad,Zak,Zam,Zaz,Za0,Za1,Za2,Za3,Za4,Za5,Za6,Za7,Za8,Za9,Zba,Zbb,Zbd,Zbf,Zbh,Zbt,Zbv,Zcx,Zdc,Zdd,Zde,Zdi,Zev,Zew,Zex,Zez,Ze0,Ze2,Ze3,Ze5,Ze8,Zfc,Zfd,Zfe,Zfh,Zfi,Zfk,Zfl,Zfn,Zfz,Zga,Zgb,Zgr,Zgs,Zgt,Zgv,Zgw,Zgx,Zio,Zip,Zi6,Zjw,Zla,Zlb,Zle,Zll,Zlz,Zmt,Zmv,Zmw,Zmx,Zmz,Zm2,Zm5,Zm6,Zm7,Zna,Znb,Zne,Znf,Zng,Zol,Zom,Zor,Zos,Zot,Zo7,Zo8,Zo9,Zpc,eq_self,true_and,and_true]
  rw [if_pos h1] at hR
  subst h1
  by_cases h2 : t = t'
  rotate_left
  · rw [if_neg h2] at hR
    subst hR
    have e2 : eqL (cB t.1) (cB t'.1) = false := by rw [eqL_V]; exact decide_eq_false h2
    sym =>
    simp [Zab,Zad,Zak,Zam,Zaz,Za0,Za1,Za2,Za3,Za4,Za5,Za6,Za7,Za8,Za9,Zba,Zbb,Zbd,Zbf,Zbh,Zbt,Zbv,Zcx,Zdc,Zdd,Zde,Zdi,Zev,Zew,Zex,Zez,Ze0,Ze2,Ze3,Ze5,Ze8,Zfc,Zfd,Zfe,Zfh,Zfi,Zfk,Zfl,Zfn,Zfz,Zga,Zgb,Zgr,Zgs,Zgt,Zgv,Zgw,Zgx,Zio,Zip,Zi6,Zjw,Zla,Zlb,Zle,Zll,Zlz,Zmt,Zmv,Zmw,Zmx,Zmz,Zm2,Zm5,Zm6,Zm7,Zna,Znb,Zne,Znf,Zng,Zol,Zom,Zor,Zos,Zot,Zo7,Zo8,Zo9,Zpc,eq_self,true_and,and_true,zF_fc,fc_0,fc_17,fc_18,fc_19,fc_20,fc_53,fc_54,fc_55,fs_0,fs_17,fs_18,fs_19,fs_20,fs_53,fs_54,fs_55,fp_1,fp_21,fp_f,rb_1,rb_21,rb_0,fc_len,fc_ok,fc_id,fc_rs,v16,v32,cB_cells,eqL_self,sk16,sk32,e2]
    tactic =>
    refine endA ?_
    sym =>
    simp [Zab,Zad,Zak,Zam,Zaz,Za0,Za1,Za2,Za3,Za4,Za5,Za6,Za7,Za8,Za9,Zba,Zbb,Zbd,Zbf,Zbh,Zbt,Zbv,Zcx,Zdc,Zdd,Zde,Zdi,Zev,Zew,Zex,Zez,Ze0,Ze2,Ze3,Ze5,Ze8,Zfc,Zfd,Zfe,Zfh,Zfi,Zfk,Zfl,Zfn,Zfz,Zga,Zgb,Zgr,Zgs,Zgt,Zgv,Zgw,Zgx,Zio,Zip,Zi6,Zjw,Zla,Zlb,Zle,Zll,Zlz,Zmt,Zmv,Zmw,Zmx,Zmz,Zm2,Zm5,Zm6,Zm7,Zna,Znb,Zne,Znf,Zng,Zol,Zom,Zor,Zos,Zot,Zo7,Zo8,Zo9,Zpc,eq_self,true_and,and_true]
  rw [if_pos h2] at hR
  subst h2
  by_cases h3 : es = es'
  rotate_left
  · rw [if_neg h3] at hR
    subst hR
    sym =>
    simp [Zab,Zad,Zak,Zam,Zaz,Za0,Za1,Za2,Za3,Za4,Za5,Za6,Za7,Za8,Za9,Zba,Zbb,Zbd,Zbf,Zbh,Zbt,Zbv,Zcx,Zdc,Zdd,Zde,Zdi,Zev,Zew,Zex,Zez,Ze0,Ze2,Ze3,Ze5,Ze8,Zfc,Zfd,Zfe,Zfh,Zfi,Zfk,Zfl,Zfn,Zfz,Zga,Zgb,Zgr,Zgs,Zgt,Zgv,Zgw,Zgx,Zio,Zip,Zi6,Zjw,Zla,Zlb,Zle,Zll,Zlz,Zmt,Zmv,Zmw,Zmx,Zmz,Zm2,Zm5,Zm6,Zm7,Zna,Znb,Zne,Znf,Zng,Zol,Zom,Zor,Zos,Zot,Zo7,Zo8,Zo9,Zpc,eq_self,true_and,and_true,zF_fc,fc_0,fc_17,fc_18,fc_19,fc_20,fc_53,fc_54,fc_55,fs_0,fs_17,fs_18,fs_19,fs_20,fs_53,fs_54,fs_55,fp_1,fp_21,fp_f,rb_1,rb_21,rb_0,fc_len,fc_ok,fc_id,fc_rs,v16,v32,cB_cells,eqL_self,sk16,sk32,h3]
    tactic =>
    refine endA ?_
    sym =>
    simp [Zab,Zad,Zak,Zam,Zaz,Za0,Za1,Za2,Za3,Za4,Za5,Za6,Za7,Za8,Za9,Zba,Zbb,Zbd,Zbf,Zbh,Zbt,Zbv,Zcx,Zdc,Zdd,Zde,Zdi,Zev,Zew,Zex,Zez,Ze0,Ze2,Ze3,Ze5,Ze8,Zfc,Zfd,Zfe,Zfh,Zfi,Zfk,Zfl,Zfn,Zfz,Zga,Zgb,Zgr,Zgs,Zgt,Zgv,Zgw,Zgx,Zio,Zip,Zi6,Zjw,Zla,Zlb,Zle,Zll,Zlz,Zmt,Zmv,Zmw,Zmx,Zmz,Zm2,Zm5,Zm6,Zm7,Zna,Znb,Zne,Znf,Zng,Zol,Zom,Zor,Zos,Zot,Zo7,Zo8,Zo9,Zpc,eq_self,true_and,and_true]
  rw [if_pos h3] at hR
  subst h3
  by_cases h4 : er = er'
  rotate_left
  · rw [if_neg h4] at hR
    subst hR
    sym =>
    simp [Zab,Zad,Zak,Zam,Zaz,Za0,Za1,Za2,Za3,Za4,Za5,Za6,Za7,Za8,Za9,Zba,Zbb,Zbd,Zbf,Zbh,Zbt,Zbv,Zcx,Zdc,Zdd,Zde,Zdi,Zev,Zew,Zex,Zez,Ze0,Ze2,Ze3,Ze5,Ze8,Zfc,Zfd,Zfe,Zfh,Zfi,Zfk,Zfl,Zfn,Zfz,Zga,Zgb,Zgr,Zgs,Zgt,Zgv,Zgw,Zgx,Zio,Zip,Zi6,Zjw,Zla,Zlb,Zle,Zll,Zlz,Zmt,Zmv,Zmw,Zmx,Zmz,Zm2,Zm5,Zm6,Zm7,Zna,Znb,Zne,Znf,Zng,Zol,Zom,Zor,Zos,Zot,Zo7,Zo8,Zo9,Zpc,eq_self,true_and,and_true,zF_fc,fc_0,fc_17,fc_18,fc_19,fc_20,fc_53,fc_54,fc_55,fs_0,fs_17,fs_18,fs_19,fs_20,fs_53,fs_54,fs_55,fp_1,fp_21,fp_f,rb_1,rb_21,rb_0,fc_len,fc_ok,fc_id,fc_rs,v16,v32,cB_cells,eqL_self,sk16,sk32,h4]
    tactic =>
    refine endA ?_
    sym =>
    simp [Zab,Zad,Zak,Zam,Zaz,Za0,Za1,Za2,Za3,Za4,Za5,Za6,Za7,Za8,Za9,Zba,Zbb,Zbd,Zbf,Zbh,Zbt,Zbv,Zcx,Zdc,Zdd,Zde,Zdi,Zev,Zew,Zex,Zez,Ze0,Ze2,Ze3,Ze5,Ze8,Zfc,Zfd,Zfe,Zfh,Zfi,Zfk,Zfl,Zfn,Zfz,Zga,Zgb,Zgr,Zgs,Zgt,Zgv,Zgw,Zgx,Zio,Zip,Zi6,Zjw,Zla,Zlb,Zle,Zll,Zlz,Zmt,Zmv,Zmw,Zmx,Zmz,Zm2,Zm5,Zm6,Zm7,Zna,Znb,Zne,Znf,Zng,Zol,Zom,Zor,Zos,Zot,Zo7,Zo8,Zo9,Zpc,eq_self,true_and,and_true]
  rw [if_pos h4] at hR
  subst h4
  by_cases h5 : o = o'
  rotate_left
  · rw [if_neg h5] at hR
    subst hR
    sym =>
    simp [Zab,Zad,Zak,Zam,Zaz,Za0,Za1,Za2,Za3,Za4,Za5,Za6,Za7,Za8,Za9,Zba,Zbb,Zbd,Zbf,Zbh,Zbt,Zbv,Zcx,Zdc,Zdd,Zde,Zdi,Zev,Zew,Zex,Zez,Ze0,Ze2,Ze3,Ze5,Ze8,Zfc,Zfd,Zfe,Zfh,Zfi,Zfk,Zfl,Zfn,Zfz,Zga,Zgb,Zgr,Zgs,Zgt,Zgv,Zgw,Zgx,Zio,Zip,Zi6,Zjw,Zla,Zlb,Zle,Zll,Zlz,Zmt,Zmv,Zmw,Zmx,Zmz,Zm2,Zm5,Zm6,Zm7,Zna,Znb,Zne,Znf,Zng,Zol,Zom,Zor,Zos,Zot,Zo7,Zo8,Zo9,Zpc,eq_self,true_and,and_true,zF_fc,fc_0,fc_17,fc_18,fc_19,fc_20,fc_53,fc_54,fc_55,fs_0,fs_17,fs_18,fs_19,fs_20,fs_53,fs_54,fs_55,fp_1,fp_21,fp_f,rb_1,rb_21,rb_0,fc_len,fc_ok,fc_id,fc_rs,v16,v32,cB_cells,eqL_self,sk16,sk32,h5]
    tactic =>
    refine endA ?_
    sym =>
    simp [Zab,Zad,Zak,Zam,Zaz,Za0,Za1,Za2,Za3,Za4,Za5,Za6,Za7,Za8,Za9,Zba,Zbb,Zbd,Zbf,Zbh,Zbt,Zbv,Zcx,Zdc,Zdd,Zde,Zdi,Zev,Zew,Zex,Zez,Ze0,Ze2,Ze3,Ze5,Ze8,Zfc,Zfd,Zfe,Zfh,Zfi,Zfk,Zfl,Zfn,Zfz,Zga,Zgb,Zgr,Zgs,Zgt,Zgv,Zgw,Zgx,Zio,Zip,Zi6,Zjw,Zla,Zlb,Zle,Zll,Zlz,Zmt,Zmv,Zmw,Zmx,Zmz,Zm2,Zm5,Zm6,Zm7,Zna,Znb,Zne,Znf,Zng,Zol,Zom,Zor,Zos,Zot,Zo7,Zo8,Zo9,Zpc,eq_self,true_and,and_true]
  rw [if_pos h5] at hR
  subst h5
  by_cases h6 : n = n'
  rotate_left
  · rw [if_neg h6] at hR
    subst hR
    sym =>
    simp [Zab,Zad,Zak,Zam,Zaz,Za0,Za1,Za2,Za3,Za4,Za5,Za6,Za7,Za8,Za9,Zba,Zbb,Zbd,Zbf,Zbh,Zbt,Zbv,Zcx,Zdc,Zdd,Zde,Zdi,Zev,Zew,Zex,Zez,Ze0,Ze2,Ze3,Ze5,Ze8,Zfc,Zfd,Zfe,Zfh,Zfi,Zfk,Zfl,Zfn,Zfz,Zga,Zgb,Zgr,Zgs,Zgt,Zgv,Zgw,Zgx,Zio,Zip,Zi6,Zjw,Zla,Zlb,Zle,Zll,Zlz,Zmt,Zmv,Zmw,Zmx,Zmz,Zm2,Zm5,Zm6,Zm7,Zna,Znb,Zne,Znf,Zng,Zol,Zom,Zor,Zos,Zot,Zo7,Zo8,Zo9,Zpc,eq_self,true_and,and_true,zF_fc,fc_0,fc_17,fc_18,fc_19,fc_20,fc_53,fc_54,fc_55,fs_0,fs_17,fs_18,fs_19,fs_20,fs_53,fs_54,fs_55,fp_1,fp_21,fp_f,rb_1,rb_21,rb_0,fc_len,fc_ok,fc_id,fc_rs,v16,v32,cB_cells,eqL_self,sk16,sk32,h6]
    tactic =>
    refine endA ?_
    sym =>
    simp [Zab,Zad,Zak,Zam,Zaz,Za0,Za1,Za2,Za3,Za4,Za5,Za6,Za7,Za8,Za9,Zba,Zbb,Zbd,Zbf,Zbh,Zbt,Zbv,Zcx,Zdc,Zdd,Zde,Zdi,Zev,Zew,Zex,Zez,Ze0,Ze2,Ze3,Ze5,Ze8,Zfc,Zfd,Zfe,Zfh,Zfi,Zfk,Zfl,Zfn,Zfz,Zga,Zgb,Zgr,Zgs,Zgt,Zgv,Zgw,Zgx,Zio,Zip,Zi6,Zjw,Zla,Zlb,Zle,Zll,Zlz,Zmt,Zmv,Zmw,Zmx,Zmz,Zm2,Zm5,Zm6,Zm7,Zna,Znb,Zne,Znf,Zng,Zol,Zom,Zor,Zos,Zot,Zo7,Zo8,Zo9,Zpc,eq_self,true_and,and_true]
  rw [if_pos h6] at hR
  subst h6
  by_cases h7 : su = su'
  rotate_left
  · rw [if_neg h7] at hR
    subst hR
    have e7 : eqL (cB su.1) (cB su'.1) = false := by rw [eqL_V]; exact decide_eq_false h7
    sym =>
    simp [Zab,Zad,Zak,Zam,Zaz,Za0,Za1,Za2,Za3,Za4,Za5,Za6,Za7,Za8,Za9,Zba,Zbb,Zbd,Zbf,Zbh,Zbt,Zbv,Zcx,Zdc,Zdd,Zde,Zdi,Zev,Zew,Zex,Zez,Ze0,Ze2,Ze3,Ze5,Ze8,Zfc,Zfd,Zfe,Zfh,Zfi,Zfk,Zfl,Zfn,Zfz,Zga,Zgb,Zgr,Zgs,Zgt,Zgv,Zgw,Zgx,Zio,Zip,Zi6,Zjw,Zla,Zlb,Zle,Zll,Zlz,Zmt,Zmv,Zmw,Zmx,Zmz,Zm2,Zm5,Zm6,Zm7,Zna,Znb,Zne,Znf,Zng,Zol,Zom,Zor,Zos,Zot,Zo7,Zo8,Zo9,Zpc,eq_self,true_and,and_true,zF_fc,fc_0,fc_17,fc_18,fc_19,fc_20,fc_53,fc_54,fc_55,fs_0,fs_17,fs_18,fs_19,fs_20,fs_53,fs_54,fs_55,fp_1,fp_21,fp_f,rb_1,rb_21,rb_0,fc_len,fc_ok,fc_id,fc_rs,v16,v32,cB_cells,eqL_self,sk16,sk32,e7]
    tactic =>
    refine endA ?_
    sym =>
    simp [Zab,Zad,Zak,Zam,Zaz,Za0,Za1,Za2,Za3,Za4,Za5,Za6,Za7,Za8,Za9,Zba,Zbb,Zbd,Zbf,Zbh,Zbt,Zbv,Zcx,Zdc,Zdd,Zde,Zdi,Zev,Zew,Zex,Zez,Ze0,Ze2,Ze3,Ze5,Ze8,Zfc,Zfd,Zfe,Zfh,Zfi,Zfk,Zfl,Zfn,Zfz,Zga,Zgb,Zgr,Zgs,Zgt,Zgv,Zgw,Zgx,Zio,Zip,Zi6,Zjw,Zla,Zlb,Zle,Zll,Zlz,Zmt,Zmv,Zmw,Zmx,Zmz,Zm2,Zm5,Zm6,Zm7,Zna,Znb,Zne,Znf,Zng,Zol,Zom,Zor,Zos,Zot,Zo7,Zo8,Zo9,Zpc,eq_self,true_and,and_true]
  rw [if_pos h7] at hR
  subst h7
  by_cases h8 : c = c'
  rotate_left
  · rw [if_neg h8] at hR
    subst hR
    sym =>
    simp [Zab,Zad,Zak,Zam,Zaz,Za0,Za1,Za2,Za3,Za4,Za5,Za6,Za7,Za8,Za9,Zba,Zbb,Zbd,Zbf,Zbh,Zbt,Zbv,Zcx,Zdc,Zdd,Zde,Zdi,Zev,Zew,Zex,Zez,Ze0,Ze2,Ze3,Ze5,Ze8,Zfc,Zfd,Zfe,Zfh,Zfi,Zfk,Zfl,Zfn,Zfz,Zga,Zgb,Zgr,Zgs,Zgt,Zgv,Zgw,Zgx,Zio,Zip,Zi6,Zjw,Zla,Zlb,Zle,Zll,Zlz,Zmt,Zmv,Zmw,Zmx,Zmz,Zm2,Zm5,Zm6,Zm7,Zna,Znb,Zne,Znf,Zng,Zol,Zom,Zor,Zos,Zot,Zo7,Zo8,Zo9,Zpc,eq_self,true_and,and_true,zF_fc,fc_0,fc_17,fc_18,fc_19,fc_20,fc_53,fc_54,fc_55,fs_0,fs_17,fs_18,fs_19,fs_20,fs_53,fs_54,fs_55,fp_1,fp_21,fp_f,rb_1,rb_21,rb_0,fc_len,fc_ok,fc_id,fc_rs,v16,v32,cB_cells,eqL_self,sk16,sk32,h8]
    tactic =>
    refine endA ?_
    sym =>
    simp [Zab,Zad,Zak,Zam,Zaz,Za0,Za1,Za2,Za3,Za4,Za5,Za6,Za7,Za8,Za9,Zba,Zbb,Zbd,Zbf,Zbh,Zbt,Zbv,Zcx,Zdc,Zdd,Zde,Zdi,Zev,Zew,Zex,Zez,Ze0,Ze2,Ze3,Ze5,Ze8,Zfc,Zfd,Zfe,Zfh,Zfi,Zfk,Zfl,Zfn,Zfz,Zga,Zgb,Zgr,Zgs,Zgt,Zgv,Zgw,Zgx,Zio,Zip,Zi6,Zjw,Zla,Zlb,Zle,Zll,Zlz,Zmt,Zmv,Zmw,Zmx,Zmz,Zm2,Zm5,Zm6,Zm7,Zna,Znb,Zne,Znf,Zng,Zol,Zom,Zor,Zos,Zot,Zo7,Zo8,Zo9,Zpc,eq_self,true_and,and_true]
  rw [if_pos h8] at hR
  subst h8
  have heq := equal_con d d' hf hg
  have hrq := requal_con r r' hr
  sym =>
  simp [Zab,Zad,Zak,Zam,Zaz,Za0,Za1,Za2,Za3,Za4,Za5,Za6,Za7,Za8,Za9,Zba,Zbb,Zbd,Zbf,Zbh,Zbt,Zbv,Zcx,Zdc,Zdd,Zde,Zdi,Zev,Zew,Zex,Zez,Ze0,Ze2,Ze3,Ze5,Ze8,Zfc,Zfd,Zfe,Zfh,Zfi,Zfk,Zfl,Zfn,Zfz,Zga,Zgb,Zgr,Zgs,Zgt,Zgv,Zgw,Zgx,Zio,Zip,Zi6,Zjw,Zla,Zlb,Zle,Zll,Zlz,Zmt,Zmv,Zmw,Zmx,Zmz,Zm2,Zm5,Zm6,Zm7,Zna,Znb,Zne,Znf,Zng,Zol,Zom,Zor,Zos,Zot,Zo7,Zo8,Zo9,Zpc,eq_self,true_and,and_true,zF_fc,fc_0,fc_17,fc_18,fc_19,fc_20,fc_53,fc_54,fc_55,fs_0,fs_17,fs_18,fs_19,fs_20,fs_53,fs_54,fs_55,fp_1,fp_21,fp_f,rb_1,rb_21,rb_0,fc_len,fc_ok,fc_id,fc_rs,v16,v32,cB_cells,eqL_self,sk16,sk32,callable_30]
  tactic =>
  refine cl none (heq) trivial ?_
  by_cases h9 : d = d'
  · rw [if_pos h9] at hR
    subst hR
    subst h9
    sym =>
    simp [Zab,Zad,Zak,Zam,Zaz,Za0,Za1,Za2,Za3,Za4,Za5,Za6,Za7,Za8,Za9,Zba,Zbb,Zbd,Zbf,Zbh,Zbt,Zbv,Zcx,Zdc,Zdd,Zde,Zdi,Zev,Zew,Zex,Zez,Ze0,Ze2,Ze3,Ze5,Ze8,Zfc,Zfd,Zfe,Zfh,Zfi,Zfk,Zfl,Zfn,Zfz,Zga,Zgb,Zgr,Zgs,Zgt,Zgv,Zgw,Zgx,Zio,Zip,Zi6,Zjw,Zla,Zlb,Zle,Zll,Zlz,Zmt,Zmv,Zmw,Zmx,Zmz,Zm2,Zm5,Zm6,Zm7,Zna,Znb,Zne,Znf,Zng,Zol,Zom,Zor,Zos,Zot,Zo7,Zo8,Zo9,Zpc,eq_self,true_and,and_true,zF_fc,fc_0,fc_17,fc_18,fc_19,fc_20,fc_53,fc_54,fc_55,fs_0,fs_17,fs_18,fs_19,fs_20,fs_53,fs_54,fs_55,fp_1,fp_21,fp_f,rb_1,rb_21,rb_0,fc_len,fc_ok,fc_id,fc_rs,v16,v32,cB_cells,callable_31]
    tactic =>
    refine cl none (hrq) trivial ?_
    sym =>
    simp [Zab,Zad,Zak,Zam,Zaz,Za0,Za1,Za2,Za3,Za4,Za5,Za6,Za7,Za8,Za9,Zba,Zbb,Zbd,Zbf,Zbh,Zbt,Zbv,Zcx,Zdc,Zdd,Zde,Zdi,Zev,Zew,Zex,Zez,Ze0,Ze2,Ze3,Ze5,Ze8,Zfc,Zfd,Zfe,Zfh,Zfi,Zfk,Zfl,Zfn,Zfz,Zga,Zgb,Zgr,Zgs,Zgt,Zgv,Zgw,Zgx,Zio,Zip,Zi6,Zjw,Zla,Zlb,Zle,Zll,Zlz,Zmt,Zmv,Zmw,Zmx,Zmz,Zm2,Zm5,Zm6,Zm7,Zna,Znb,Zne,Znf,Zng,Zol,Zom,Zor,Zos,Zot,Zo7,Zo8,Zo9,Zpc,eq_self,true_and,and_true]
    tactic =>
    refine endA ?_
    sym =>
    simp [Zab,Zad,Zak,Zam,Zaz,Za0,Za1,Za2,Za3,Za4,Za5,Za6,Za7,Za8,Za9,Zba,Zbb,Zbd,Zbf,Zbh,Zbt,Zbv,Zcx,Zdc,Zdd,Zde,Zdi,Zev,Zew,Zex,Zez,Ze0,Ze2,Ze3,Ze5,Ze8,Zfc,Zfd,Zfe,Zfh,Zfi,Zfk,Zfl,Zfn,Zfz,Zga,Zgb,Zgr,Zgs,Zgt,Zgv,Zgw,Zgx,Zio,Zip,Zi6,Zjw,Zla,Zlb,Zle,Zll,Zlz,Zmt,Zmv,Zmw,Zmx,Zmz,Zm2,Zm5,Zm6,Zm7,Zna,Znb,Zne,Znf,Zng,Zol,Zom,Zor,Zos,Zot,Zo7,Zo8,Zo9,Zpc,eq_self,true_and,and_true]
  · rw [if_neg h9] at hR
    subst hR
    sym =>
    simp [Zab,Zad,Zak,Zam,Zaz,Za0,Za1,Za2,Za3,Za4,Za5,Za6,Za7,Za8,Za9,Zba,Zbb,Zbd,Zbf,Zbh,Zbt,Zbv,Zcx,Zdc,Zdd,Zde,Zdi,Zev,Zew,Zex,Zez,Ze0,Ze2,Ze3,Ze5,Ze8,Zfc,Zfd,Zfe,Zfh,Zfi,Zfk,Zfl,Zfn,Zfz,Zga,Zgb,Zgr,Zgs,Zgt,Zgv,Zgw,Zgx,Zio,Zip,Zi6,Zjw,Zla,Zlb,Zle,Zll,Zlz,Zmt,Zmv,Zmw,Zmx,Zmz,Zm2,Zm5,Zm6,Zm7,Zna,Znb,Zne,Znf,Zng,Zol,Zom,Zor,Zos,Zot,Zo7,Zo8,Zo9,Zpc,eq_self,true_and,and_true,zF_fc,fc_0,fc_17,fc_18,fc_19,fc_20,fc_53,fc_54,fc_55,fs_0,fs_17,fs_18,fs_19,fs_20,fs_53,fs_54,fs_55,fp_1,fp_21,fp_f,rb_1,rb_21,rb_0,fc_len,fc_ok,fc_id,fc_rs,v16,v32,cB_cells,h9]
    tactic =>
    refine endA ?_
    sym =>
    simp [Zab,Zad,Zak,Zam,Zaz,Za0,Za1,Za2,Za3,Za4,Za5,Za6,Za7,Za8,Za9,Zba,Zbb,Zbd,Zbf,Zbh,Zbt,Zbv,Zcx,Zdc,Zdd,Zde,Zdi,Zev,Zew,Zex,Zez,Ze0,Ze2,Ze3,Ze5,Ze8,Zfc,Zfd,Zfe,Zfh,Zfi,Zfk,Zfl,Zfn,Zfz,Zga,Zgb,Zgr,Zgs,Zgt,Zgv,Zgw,Zgx,Zio,Zip,Zi6,Zjw,Zla,Zlb,Zle,Zll,Zlz,Zmt,Zmv,Zmw,Zmx,Zmz,Zm2,Zm5,Zm6,Zm7,Zna,Znb,Zne,Znf,Zng,Zol,Zom,Zor,Zos,Zot,Zo7,Zo8,Zo9,Zpc,eq_self,true_and,and_true]
end Go.Proofs.Ythhccabdlajngaa.FrmD
