import Derived.Test.YthhccabdlajngaaFrmU
namespace Go.Proofs.Ythhccabdlajngaa.FrmV
open Go Go.Sim Go.Sim.E Go.RowKit Go.Proofs Go.Proofs.Ythhccabdlajngaa.Cod Go.Proofs.Ythhccabdlajngaa.Tab Go.Proofs.Ythhccabdlajngaa.Bse Go.Proofs.Ythhccabdlajngaa.Krc Go.Proofs.Ythhccabdlajngaa.FrmA Go.Proofs.Ythhccabdlajngaa.FrmB Go.Proofs.Ythhccabdlajngaa.FrmC Go.Proofs.Ythhccabdlajngaa.FrmD Go.Proofs.Ythhccabdlajngaa.FrmE Go.Proofs.Ythhccabdlajngaa.FrmF Go.Proofs.Ythhccabdlajngaa.FrmN Go.Proofs.Ythhccabdlajngaa.FrmO Go.Proofs.Ythhccabdlajngaa.FrmO Go.Proofs.Ythhccabdlajngaa.FrmP Go.Proofs.Ythhccabdlajngaa.FrmQ Go.Proofs.Ythhccabdlajngaa.FrmR Go.Proofs.Ythhccabdlajngaa.FrmS Go.Proofs.Ythhccabdlajngaa.FrmT Go.Proofs.Ythhccabdlajngaa.FrmU
set_option linter.unusedVariables false
set_option linter.unusedSimpArgs false
set_option maxRecDepth 100000
set_option maxHeartbeats 4000000
/-- Seal, its bytes one's own. -/
theorem seal_own (b : List Int) (hb : byt8 b) (hl : b.length ≤ 1000000) (m : Nat) (hm : m = b.length + 4) : Con Try.prog 25 [] [fB b] [(0, ⟨cB (slB b), 1, 0⟩)] (.lv 0 0 m) := by
  refine con_o b25 rfl ?_
  sym =>
  simp [Zab,Zad,Zak,Zam,Zaz,Za0,Za1,Za2,Za3,Za4,Za5,Za9,Zba,Zbb,Zc5,Zdc,Zdd,Zde,Zdi,Zev,Zew,Zez,Ze0,Ze2,Ze3,Ze4,Ze5,Zfc,Zfd,Zfe,Zff,Zfg,Zfh,Zix,Ziz,Zi0,Zi1,Zjr,Zkb,Zla,Zlb,Zle,Zlj,Zll,Zlz,Zl0,Zl1,Zl2,Zmk,Zmt,Zmv,Zmw,Zmx,Zmz,Zm2,Zna,Znb,Zne,Znf,Zng,Znr,Zos,Zot,Zo7,Zpo,Zqh,Zqi,Zqk,Zql,Zqm,Zqn,eq_self,true_and,and_true,Nat.mul_one,callable_32]
  tactic =>
  refine cl (some ⟨cB b, 1, 0⟩) (bclone_con b (by omega)) ⟨rfl, cB_okI _⟩ ?_
  sym =>
  simp [Zab,Zad,Zak,Zam,Zaz,Za0,Za1,Za2,Za3,Za4,Za5,Za9,Zba,Zbb,Zc5,Zdc,Zdd,Zde,Zdi,Zev,Zew,Zez,Ze0,Ze2,Ze3,Ze4,Ze5,Zfc,Zfd,Zfe,Zff,Zfg,Zfh,Zix,Ziz,Zi0,Zi1,Zjr,Zkb,Zla,Zlb,Zle,Zlj,Zll,Zlz,Zl0,Zl1,Zl2,Zmk,Zmt,Zmv,Zmw,Zmx,Zmz,Zm2,Zna,Znb,Zne,Znf,Zng,Znr,Zos,Zot,Zo7,Zpo,Zqh,Zqi,Zqk,Zql,Zqm,Zqn,eq_self,true_and,and_true,Nat.mul_one,callable_46]
  tactic =>
  refine cl none (sum_con b hb (by omega)) trivial ?_
  sym =>
  simp [Zab,Zad,Zak,Zam,Zaz,Za0,Za1,Za2,Za3,Za4,Za5,Za9,Zba,Zbb,Zc5,Zdc,Zdd,Zde,Zdi,Zev,Zew,Zez,Ze0,Ze2,Ze3,Ze4,Ze5,Zfc,Zfd,Zfe,Zff,Zfg,Zfh,Zix,Ziz,Zi0,Zi1,Zjr,Zkb,Zla,Zlb,Zle,Zlj,Zll,Zlz,Zl0,Zl1,Zl2,Zmk,Zmt,Zmv,Zmw,Zmx,Zmz,Zm2,Zna,Znb,Zne,Znf,Zng,Znr,Zos,Zot,Zo7,Zpo,Zqh,Zqi,Zqk,Zql,Zqm,Zqn,eq_self,true_and,and_true,Nat.mul_one,callable_45]
  tactic =>
  refine cl none (lay_con (sumN b)) trivial ?_
  have h4 : (le4 (sumN b)).length = 4 := rfl
  have hc4 : (cB (le4 (sumN b))).length = 4 := rfl
  have hF := okF_cells (cB_okF (le4 (sumN b)))
  sym =>
  simp [Zab,Zad,Zak,Zam,Zaz,Za0,Za1,Za2,Za3,Za4,Za5,Za9,Zba,Zbb,Zc5,Zdc,Zdd,Zde,Zdi,Zev,Zew,Zez,Ze0,Ze2,Ze3,Ze4,Ze5,Zfc,Zfd,Zfe,Zff,Zfg,Zfh,Zix,Ziz,Zi0,Zi1,Zjr,Zkb,Zla,Zlb,Zle,Zlj,Zll,Zlz,Zl0,Zl1,Zl2,Zmk,Zmt,Zmv,Zmw,Zmx,Zmz,Zm2,Zna,Znb,Zne,Znf,Zng,Znr,Zos,Zot,Zo7,Zpo,Zqh,Zqi,Zqk,Zql,Zqm,Zqn,eq_self,true_and,and_true,Nat.mul_one,h4,hc4,cB_length]
  tactic =>
  and_intros <;> try (first | omega | rfl | assumption | simp only [IN]; omega)
  · exact cB_okF _
  have hc : cB b ++ cB (le4 (sumN b)) = cB (slB b) := (cB_append _ _).symm
  rw [hc]
  refine endO [(0, 6)] (nx := 7) ?_
  sym =>
  simp [Zab,Zad,Zak,Zam,Zaz,Za0,Za1,Za2,Za3,Za4,Za5,Za9,Zba,Zbb,Zc5,Zdc,Zdd,Zde,Zdi,Zev,Zew,Zez,Ze0,Ze2,Ze3,Ze4,Ze5,Zfc,Zfd,Zfe,Zff,Zfg,Zfh,Zix,Ziz,Zi0,Zi1,Zjr,Zkb,Zla,Zlb,Zle,Zlj,Zll,Zlz,Zl0,Zl1,Zl2,Zmk,Zmt,Zmv,Zmw,Zmx,Zmz,Zm2,Zna,Znb,Zne,Znf,Zng,Znr,Zos,Zot,Zo7,Zpo,Zqh,Zqi,Zqk,Zql,Zqm,Zqn,eq_self,true_and,and_true,Nat.mul_one]
  tactic =>
  exact ⟨hm.symm, rs_self (cB_okI _)⟩
/-- Lay, its bytes one's own. -/
theorem flay_own (f : Fm) (hm0 : mayF f = 0) (hd : f.d.length ≤ 5000) (hr : f.r.length ≤ 5000) (ht : byt8 f.t.1) (hs : byt8 f.su.1) (hdb : byt8 f.d) (h1 : 0 ≤ f.es ∧ f.es < 4294967296) (h2 : 0 ≤ f.er ∧ f.er < 4294967296) : Con Try.prog 9 [] [.ag (fr f)] [(0, ⟨cB (layF f).1, 1, 0⟩)] (.tu [.lv 0 0 (layF f).1.length, I 0]) := by
  obtain ⟨k, t, es, er, o, n, su, d, r, c⟩ := f
  simp only at hd hr h1 h2
  have hmay := may_con ⟨k, t, es, er, o, n, su, d, r, c⟩ (Nat.le_trans hr (by decide))
  have hhb := hdB_byt ⟨k, t, es, er, o, n, su, d, r, c⟩ ht
  have hbb := bare_byt ⟨k, t, es, er, o, n, su, d, r, c⟩ hs hdb
  have hbb2 := bodyF_byt _ hbb.1 hbb.2
  have hbln := bodyF_len (bare ⟨k, t, es, er, o, n, su, d, r, c⟩)
  have hmark := mark_con es er h1.1 h2.1
  obtain ⟨R, hR⟩ : ∃ R, R = layF ⟨k, t, es, er, o, n, su, d, r, c⟩ := ⟨_, rfl⟩
  rw [← hR]
  unfold layF at hR
  simp only [fr] at hmay ⊢
  obtain ⟨M, hM⟩ : ∃ M, M = mayF ⟨k, t, es, er, o, n, su, d, r, c⟩ := ⟨_, rfl⟩
  rw [← hM] at hmay hR
  refine con_o b9 rfl ?_
  sym =>
  simp [Zaa,Zab,Zac,Zad,Zae,Zaf,Zak,Zal,Zam,Zaz,Za0,Za1,Za2,Za3,Za4,Za5,Za9,Zba,Zbb,Zbc,Zbf,Zbm,Zbs,Zbt,Zbu,Zbv,Zbw,Zcj,Zcx,Zc0,Zc5,Zc6,Zc7,Zc8,Zc9,Zdc,Zdd,Zde,Zdf,Zdg,Zdh,Zdi,Zdj,Zdk,Zdm,Zrj,Zrk,Zrl,Zrm,Zrn,Zro,Zrp,Zrq,Zrr,Zrs,Zru,Zrv,Zrw,Zrx,Zry,Zrz,Zr0,Zr2,Zr7,Zr9,Zsd,Zse,Zsf,Zsg,Zsh,Zsj,Zsm,Zsn,Zso,Zsq,Zss,Zsy,Zth,Zti,Zdo,Zdp,Zdt,Zdu,Zdv,Zdw,Zdx,Zdy,Zdz,Zd0,Zd1,Zd2,Zd3,Zeh,Zek,Zen,Zeq,Zer,Zes,Zet,Zev,Zew,Zez,Ze0,Ze2,Ze3,Ze4,Ze5,Ze8,Ze9,Zfc,Zfd,Zfe,Zff,Zfg,Zfh,Zfn,Zf0,Zgh,Zgi,Zgo,Zgp,Zgq,Zgr,Zgs,Zgt,Zgv,Zgw,Zgx,Zhf,Zhg,Zhh,Zhm,Zh1,Zh2,Zh3,Zio,Zip,Ziq,Zir,Zix,Ziz,Zi0,Zi2,Zi3,Zi6,Zi7,Zjj,Zjk,Zjo,Zjr,Zj9,Zkv,Zla,Zlb,Zlc,Zld,Zle,Zlf,Zlh,Zlj,Zlk,Zlm,Zlt,Zlx,Zlz,Zl0,Zl1,Zl2,Zl3,Zl4,Zmk,Zmt,Zmv,Zmw,Zmx,Zmz,Zm3,Zm5,Zm6,Zm7,Zm9,Zna,Znb,Znc,Znd,Zne,Znf,Zng,Znh,Znl,Znm,Znn,Zno,Znp,Znr,Zn5,Zob,Zof,Zrd,Zos,Zot,Zo3,Zo7,Zo8,Zpb,Zpn,Zp9,Zqd,Zqe,Zqh,Zqi,Zqk,Zql,Zqm,Zqn,Zxa,List.length_append,eq_self,true_and,and_true,Nat.zero_add,Nat.mul_one,Bool.and_true,zF_fc,fc_0,fc_17,fc_18,fc_19,fc_20,fc_53,fc_54,fc_55,fs_0,fs_17,fs_18,fs_19,fs_20,fs_53,fs_54,fs_55,fp_1,fp_21,fp_f,rb_1,rb_21,rb_0,fc_len,fc_ok,fc_id,fc_rs,v16,v32,cB_cells,fz_fc,fcF1,callable_22]
  tactic =>
  refine cl none (hmay) trivial ?_
  have h0 : M = 0 := hM.trans hm0
  rw [if_pos h0] at hR
  subst h0
  have hwk := w8u k
  sym =>
  simp [Zaa,Zab,Zac,Zad,Zae,Zaf,Zak,Zal,Zam,Zaz,Za0,Za1,Za2,Za3,Za4,Za5,Za9,Zba,Zbb,Zbc,Zbf,Zbm,Zbs,Zbt,Zbu,Zbv,Zbw,Zcj,Zcx,Zc0,Zc5,Zc6,Zc7,Zc8,Zc9,Zdc,Zdd,Zde,Zdf,Zdg,Zdh,Zdi,Zdj,Zdk,Zdm,Zrj,Zrk,Zrl,Zrm,Zrn,Zro,Zrp,Zrq,Zrr,Zrs,Zru,Zrv,Zrw,Zrx,Zry,Zrz,Zr0,Zr2,Zr7,Zr9,Zsd,Zse,Zsf,Zsg,Zsh,Zsj,Zsm,Zsn,Zso,Zsq,Zss,Zsy,Zth,Zti,Zdo,Zdp,Zdt,Zdu,Zdv,Zdw,Zdx,Zdy,Zdz,Zd0,Zd1,Zd2,Zd3,Zeh,Zek,Zen,Zeq,Zer,Zes,Zet,Zev,Zew,Zez,Ze0,Ze2,Ze3,Ze4,Ze5,Ze8,Ze9,Zfc,Zfd,Zfe,Zff,Zfg,Zfh,Zfn,Zf0,Zgh,Zgi,Zgo,Zgp,Zgq,Zgr,Zgs,Zgt,Zgv,Zgw,Zgx,Zhf,Zhg,Zhh,Zhm,Zh1,Zh2,Zh3,Zio,Zip,Ziq,Zir,Zix,Ziz,Zi0,Zi2,Zi3,Zi6,Zi7,Zjj,Zjk,Zjo,Zjr,Zj9,Zkv,Zla,Zlb,Zlc,Zld,Zle,Zlf,Zlh,Zlj,Zlk,Zlm,Zlt,Zlx,Zlz,Zl0,Zl1,Zl2,Zl3,Zl4,Zmk,Zmt,Zmv,Zmw,Zmx,Zmz,Zm3,Zm5,Zm6,Zm7,Zm9,Zna,Znb,Znc,Znd,Zne,Znf,Zng,Znh,Znl,Znm,Znn,Zno,Znp,Znr,Zn5,Zob,Zof,Zrd,Zos,Zot,Zo3,Zo7,Zo8,Zpb,Zpn,Zp9,Zqd,Zqe,Zqh,Zqi,Zqk,Zql,Zqm,Zqn,Zxa,List.length_append,eq_self,true_and,and_true,Nat.zero_add,Nat.mul_one,Bool.and_true,zF_fc,fc_0,fc_17,fc_18,fc_19,fc_20,fc_53,fc_54,fc_55,fs_0,fs_17,fs_18,fs_19,fs_20,fs_53,fs_54,fs_55,fp_1,fp_21,fp_f,rb_1,rb_21,rb_0,fc_len,fc_ok,fc_id,fc_rs,v16,v32,cB_cells,hwk,callable_23]
  tactic =>
  and_intros <;> try (first | omega | rfl | assumption | simp only [IN]; omega)
  refine cl none (hmark) trivial ?_
  obtain ⟨h1', hh1⟩ : ∃ h1', h1' = [84, 87, k % 256, mkF es er] ++ t.1 := ⟨_, rfl⟩
  have hc : Y 84 :: Y 87 :: Y (k % 256) :: Y (mkF es er) :: cB t.1 = cB h1' := by rw [hh1]; rfl
  have hl1 : h1'.length = 20 := by rw [hh1, List.length_append, t.2]; rfl
  have hq := cB_length h1'
  rw [hl1] at hq
  have htF := cB_okF t.1
  have hI := cB_okI h1'
  have we : IntKind.u64.wrap es = es := by rw [wu64]; omega
  have wr : IntKind.u64.wrap er = er := by rw [wu64]; omega
  sym =>
  simp [Zaa,Zab,Zac,Zad,Zae,Zaf,Zak,Zal,Zam,Zaz,Za0,Za1,Za2,Za3,Za4,Za5,Za9,Zba,Zbb,Zbc,Zbf,Zbm,Zbs,Zbt,Zbu,Zbv,Zbw,Zcj,Zcx,Zc0,Zc5,Zc6,Zc7,Zc8,Zc9,Zdc,Zdd,Zde,Zdf,Zdg,Zdh,Zdi,Zdj,Zdk,Zdm,Zrj,Zrk,Zrl,Zrm,Zrn,Zro,Zrp,Zrq,Zrr,Zrs,Zru,Zrv,Zrw,Zrx,Zry,Zrz,Zr0,Zr2,Zr7,Zr9,Zsd,Zse,Zsf,Zsg,Zsh,Zsj,Zsm,Zsn,Zso,Zsq,Zss,Zsy,Zth,Zti,Zdo,Zdp,Zdt,Zdu,Zdv,Zdw,Zdx,Zdy,Zdz,Zd0,Zd1,Zd2,Zd3,Zeh,Zek,Zen,Zeq,Zer,Zes,Zet,Zev,Zew,Zez,Ze0,Ze2,Ze3,Ze4,Ze5,Ze8,Ze9,Zfc,Zfd,Zfe,Zff,Zfg,Zfh,Zfn,Zf0,Zgh,Zgi,Zgo,Zgp,Zgq,Zgr,Zgs,Zgt,Zgv,Zgw,Zgx,Zhf,Zhg,Zhh,Zhm,Zh1,Zh2,Zh3,Zio,Zip,Ziq,Zir,Zix,Ziz,Zi0,Zi2,Zi3,Zi6,Zi7,Zjj,Zjk,Zjo,Zjr,Zj9,Zkv,Zla,Zlb,Zlc,Zld,Zle,Zlf,Zlh,Zlj,Zlk,Zlm,Zlt,Zlx,Zlz,Zl0,Zl1,Zl2,Zl3,Zl4,Zmk,Zmt,Zmv,Zmw,Zmx,Zmz,Zm3,Zm5,Zm6,Zm7,Zm9,Zna,Znb,Znc,Znd,Zne,Znf,Zng,Znh,Znl,Znm,Znn,Zno,Znp,Znr,Zn5,Zob,Zof,Zrd,Zos,Zot,Zo3,Zo7,Zo8,Zpb,Zpn,Zp9,Zqd,Zqe,Zqh,Zqi,Zqk,Zql,Zqm,Zqn,Zxa,List.length_append,eq_self,true_and,and_true,Nat.zero_add,Nat.mul_one,Bool.and_true,zF_fc,fc_0,fc_17,fc_18,fc_19,fc_20,fc_53,fc_54,fc_55,fs_0,fs_17,fs_18,fs_19,fs_20,fs_53,fs_54,fs_55,fp_1,fp_21,fp_f,rb_1,rb_21,rb_0,fc_len,fc_ok,fc_id,fc_rs,v16,v32,cB_cells,hc,hq,fc_tok,we,wr,callable_24]
  tactic =>
  and_intros <;> try (first | omega | rfl | assumption | simp only [IN]; omega)
  obtain ⟨h2', hh2⟩ : ∃ h2', h2' = h1' ++ beN 4 es := ⟨_, rfl⟩
  obtain ⟨h3', hh3⟩ : ∃ h3', h3' = h2' ++ beN 4 er := ⟨_, rfl⟩
  have hl2 : h2'.length = 24 := by rw [hh2, List.length_append, hl1, beN_length]
  have hl3 : h3'.length = 28 := by rw [hh3, List.length_append, hl2, beN_length]
  have hn1 := number_con' h1' h2' es 4 20 (by omega) hl1 (by omega) hh2 24 rfl 4 rfl
  have hn2 := number_con' h2' h3' er 4 24 (by omega) hl2 (by omega) hh3 28 rfl 4 rfl
  have hI2 := cB_okI h2'
  have hI3 := cB_okI h3'
  have hq2 := cB_length h2'
  rw [hl2] at hq2
  have hq3 := cB_length h3'
  rw [hl3] at hq3
  refine clG [none] (some ⟨cB h2', 1, 0⟩) hn1 rfl ⟨trivial, cB_okI _, rfl⟩ ?_
  sym =>
  simp [Zaa,Zab,Zac,Zad,Zae,Zaf,Zak,Zal,Zam,Zaz,Za0,Za1,Za2,Za3,Za4,Za5,Za9,Zba,Zbb,Zbc,Zbf,Zbm,Zbs,Zbt,Zbu,Zbv,Zbw,Zcj,Zcx,Zc0,Zc5,Zc6,Zc7,Zc8,Zc9,Zdc,Zdd,Zde,Zdf,Zdg,Zdh,Zdi,Zdj,Zdk,Zdm,Zrj,Zrk,Zrl,Zrm,Zrn,Zro,Zrp,Zrq,Zrr,Zrs,Zru,Zrv,Zrw,Zrx,Zry,Zrz,Zr0,Zr2,Zr7,Zr9,Zsd,Zse,Zsf,Zsg,Zsh,Zsj,Zsm,Zsn,Zso,Zsq,Zss,Zsy,Zth,Zti,Zdo,Zdp,Zdt,Zdu,Zdv,Zdw,Zdx,Zdy,Zdz,Zd0,Zd1,Zd2,Zd3,Zeh,Zek,Zen,Zeq,Zer,Zes,Zet,Zev,Zew,Zez,Ze0,Ze2,Ze3,Ze4,Ze5,Ze8,Ze9,Zfc,Zfd,Zfe,Zff,Zfg,Zfh,Zfn,Zf0,Zgh,Zgi,Zgo,Zgp,Zgq,Zgr,Zgs,Zgt,Zgv,Zgw,Zgx,Zhf,Zhg,Zhh,Zhm,Zh1,Zh2,Zh3,Zio,Zip,Ziq,Zir,Zix,Ziz,Zi0,Zi2,Zi3,Zi6,Zi7,Zjj,Zjk,Zjo,Zjr,Zj9,Zkv,Zla,Zlb,Zlc,Zld,Zle,Zlf,Zlh,Zlj,Zlk,Zlm,Zlt,Zlx,Zlz,Zl0,Zl1,Zl2,Zl3,Zl4,Zmk,Zmt,Zmv,Zmw,Zmx,Zmz,Zm3,Zm5,Zm6,Zm7,Zm9,Zna,Znb,Znc,Znd,Zne,Znf,Zng,Znh,Znl,Znm,Znn,Zno,Znp,Znr,Zn5,Zob,Zof,Zrd,Zos,Zot,Zo3,Zo7,Zo8,Zpb,Zpn,Zp9,Zqd,Zqe,Zqh,Zqi,Zqk,Zql,Zqm,Zqn,Zxa,List.length_append,eq_self,true_and,and_true,Nat.zero_add,Nat.mul_one,Bool.and_true,zF_fc,fc_0,fc_17,fc_18,fc_19,fc_20,fc_53,fc_54,fc_55,fs_0,fs_17,fs_18,fs_19,fs_20,fs_53,fs_54,fs_55,fp_1,fp_21,fp_f,rb_1,rb_21,rb_0,fc_len,fc_ok,fc_id,fc_rs,v16,v32,cB_cells,we,wr,hq2,callable_24]
  tactic =>
  and_intros <;> try (first | omega | rfl | assumption | simp only [IN]; omega)
  refine clG [none] (some ⟨cB h3', 1, 0⟩) hn2 rfl ⟨trivial, cB_okI _, rfl⟩ ?_
  have hbare := bare_con ⟨k, t, es, er, o, n, su, d, r, c⟩ (Nat.le_trans hd (by decide)) (Nat.le_trans hr (by decide))
  have hbl := bare_len ⟨k, t, es, er, o, n, su, d, r, c⟩
  simp only at hbl
  obtain ⟨G, hG⟩ : ∃ G, G = bare ⟨k, t, es, er, o, n, su, d, r, c⟩ := ⟨_, rfl⟩
  rw [← hG] at hbare hbl hR hbb2 hbln
  have hbody := body_con h3' G (by omega) (by omega) (by omega) (28 + (bodyF G).length) (by rw [hl3])
  obtain ⟨k', t', es', er', o', n', su', d', r', c'⟩ := G
  simp only [fr] at hbare hbody
  sym =>
  simp [Zaa,Zab,Zac,Zad,Zae,Zaf,Zak,Zal,Zam,Zaz,Za0,Za1,Za2,Za3,Za4,Za5,Za9,Zba,Zbb,Zbc,Zbf,Zbm,Zbs,Zbt,Zbu,Zbv,Zbw,Zcj,Zcx,Zc0,Zc5,Zc6,Zc7,Zc8,Zc9,Zdc,Zdd,Zde,Zdf,Zdg,Zdh,Zdi,Zdj,Zdk,Zdm,Zrj,Zrk,Zrl,Zrm,Zrn,Zro,Zrp,Zrq,Zrr,Zrs,Zru,Zrv,Zrw,Zrx,Zry,Zrz,Zr0,Zr2,Zr7,Zr9,Zsd,Zse,Zsf,Zsg,Zsh,Zsj,Zsm,Zsn,Zso,Zsq,Zss,Zsy,Zth,Zti,Zdo,Zdp,Zdt,Zdu,Zdv,Zdw,Zdx,Zdy,Zdz,Zd0,Zd1,Zd2,Zd3,Zeh,Zek,Zen,Zeq,Zer,Zes,Zet,Zev,Zew,Zez,Ze0,Ze2,Ze3,Ze4,Ze5,Ze8,Ze9,Zfc,Zfd,Zfe,Zff,Zfg,Zfh,Zfn,Zf0,Zgh,Zgi,Zgo,Zgp,Zgq,Zgr,Zgs,Zgt,Zgv,Zgw,Zgx,Zhf,Zhg,Zhh,Zhm,Zh1,Zh2,Zh3,Zio,Zip,Ziq,Zir,Zix,Ziz,Zi0,Zi2,Zi3,Zi6,Zi7,Zjj,Zjk,Zjo,Zjr,Zj9,Zkv,Zla,Zlb,Zlc,Zld,Zle,Zlf,Zlh,Zlj,Zlk,Zlm,Zlt,Zlx,Zlz,Zl0,Zl1,Zl2,Zl3,Zl4,Zmk,Zmt,Zmv,Zmw,Zmx,Zmz,Zm3,Zm5,Zm6,Zm7,Zm9,Zna,Znb,Znc,Znd,Zne,Znf,Zng,Znh,Znl,Znm,Znn,Zno,Znp,Znr,Zn5,Zob,Zof,Zrd,Zos,Zot,Zo3,Zo7,Zo8,Zpb,Zpn,Zp9,Zqd,Zqe,Zqh,Zqi,Zqk,Zql,Zqm,Zqn,Zxa,List.length_append,eq_self,true_and,and_true,Nat.zero_add,Nat.mul_one,Bool.and_true,zF_fc,fc_0,fc_17,fc_18,fc_19,fc_20,fc_53,fc_54,fc_55,fs_0,fs_17,fs_18,fs_19,fs_20,fs_53,fs_54,fs_55,fp_1,fp_21,fp_f,rb_1,rb_21,rb_0,fc_len,fc_ok,fc_id,fc_rs,v16,v32,cB_cells,fz_fc,fcF1,callable_14]
  tactic =>
  and_intros <;> try (first | omega | rfl | assumption | simp only [IN]; omega)
  refine cl none (hbare) trivial ?_
  obtain ⟨B, hB⟩ : ∃ B, B = bodyF ⟨k', t', es', er', o', n', su', d', r', c'⟩ := ⟨_, rfl⟩
  rw [← hB] at hbody hR hbb2 hbln
  simp only at hbln hbl
  rw [hl3] at hbody
  obtain ⟨z, hz⟩ : ∃ z, z = h3' ++ B := ⟨_, rfl⟩
  rw [← hz] at hbody
  sym =>
  simp [Zaa,Zab,Zac,Zad,Zae,Zaf,Zak,Zal,Zam,Zaz,Za0,Za1,Za2,Za3,Za4,Za5,Za9,Zba,Zbb,Zbc,Zbf,Zbm,Zbs,Zbt,Zbu,Zbv,Zbw,Zcj,Zcx,Zc0,Zc5,Zc6,Zc7,Zc8,Zc9,Zdc,Zdd,Zde,Zdf,Zdg,Zdh,Zdi,Zdj,Zdk,Zdm,Zrj,Zrk,Zrl,Zrm,Zrn,Zro,Zrp,Zrq,Zrr,Zrs,Zru,Zrv,Zrw,Zrx,Zry,Zrz,Zr0,Zr2,Zr7,Zr9,Zsd,Zse,Zsf,Zsg,Zsh,Zsj,Zsm,Zsn,Zso,Zsq,Zss,Zsy,Zth,Zti,Zdo,Zdp,Zdt,Zdu,Zdv,Zdw,Zdx,Zdy,Zdz,Zd0,Zd1,Zd2,Zd3,Zeh,Zek,Zen,Zeq,Zer,Zes,Zet,Zev,Zew,Zez,Ze0,Ze2,Ze3,Ze4,Ze5,Ze8,Ze9,Zfc,Zfd,Zfe,Zff,Zfg,Zfh,Zfn,Zf0,Zgh,Zgi,Zgo,Zgp,Zgq,Zgr,Zgs,Zgt,Zgv,Zgw,Zgx,Zhf,Zhg,Zhh,Zhm,Zh1,Zh2,Zh3,Zio,Zip,Ziq,Zir,Zix,Ziz,Zi0,Zi2,Zi3,Zi6,Zi7,Zjj,Zjk,Zjo,Zjr,Zj9,Zkv,Zla,Zlb,Zlc,Zld,Zle,Zlf,Zlh,Zlj,Zlk,Zlm,Zlt,Zlx,Zlz,Zl0,Zl1,Zl2,Zl3,Zl4,Zmk,Zmt,Zmv,Zmw,Zmx,Zmz,Zm3,Zm5,Zm6,Zm7,Zm9,Zna,Znb,Znc,Znd,Zne,Znf,Zng,Znh,Znl,Znm,Znn,Zno,Znp,Znr,Zn5,Zob,Zof,Zrd,Zos,Zot,Zo3,Zo7,Zo8,Zpb,Zpn,Zp9,Zqd,Zqe,Zqh,Zqi,Zqk,Zql,Zqm,Zqn,Zxa,List.length_append,eq_self,true_and,and_true,Nat.zero_add,Nat.mul_one,Bool.and_true,zF_fc,fc_0,fc_17,fc_18,fc_19,fc_20,fc_53,fc_54,fc_55,fs_0,fs_17,fs_18,fs_19,fs_20,fs_53,fs_54,fs_55,fp_1,fp_21,fp_f,rb_1,rb_21,rb_0,fc_len,fc_ok,fc_id,fc_rs,v16,v32,cB_cells,fz_fc,fcF1,fc_all,flL_fz,hq3,callable_26]
  tactic =>
  and_intros <;> try (first | omega | rfl | assumption | simp only [IN]; omega)
  refine clG [none] (some ⟨cB z, 1, 0⟩) hbody rfl ⟨trivial, cB_okI _, rfl⟩ ?_
  have hzl : 28 + B.length = z.length := by rw [hz, List.length_append, hl3]
  have hza := cB_all z
  have hzc := cB_length z
  rw [hzl]
  sym =>
  simp [Zaa,Zab,Zac,Zad,Zae,Zaf,Zak,Zal,Zam,Zaz,Za0,Za1,Za2,Za3,Za4,Za5,Za9,Zba,Zbb,Zbc,Zbf,Zbm,Zbs,Zbt,Zbu,Zbv,Zbw,Zcj,Zcx,Zc0,Zc5,Zc6,Zc7,Zc8,Zc9,Zdc,Zdd,Zde,Zdf,Zdg,Zdh,Zdi,Zdj,Zdk,Zdm,Zrj,Zrk,Zrl,Zrm,Zrn,Zro,Zrp,Zrq,Zrr,Zrs,Zru,Zrv,Zrw,Zrx,Zry,Zrz,Zr0,Zr2,Zr7,Zr9,Zsd,Zse,Zsf,Zsg,Zsh,Zsj,Zsm,Zsn,Zso,Zsq,Zss,Zsy,Zth,Zti,Zdo,Zdp,Zdt,Zdu,Zdv,Zdw,Zdx,Zdy,Zdz,Zd0,Zd1,Zd2,Zd3,Zeh,Zek,Zen,Zeq,Zer,Zes,Zet,Zev,Zew,Zez,Ze0,Ze2,Ze3,Ze4,Ze5,Ze8,Ze9,Zfc,Zfd,Zfe,Zff,Zfg,Zfh,Zfn,Zf0,Zgh,Zgi,Zgo,Zgp,Zgq,Zgr,Zgs,Zgt,Zgv,Zgw,Zgx,Zhf,Zhg,Zhh,Zhm,Zh1,Zh2,Zh3,Zio,Zip,Ziq,Zir,Zix,Ziz,Zi0,Zi2,Zi3,Zi6,Zi7,Zjj,Zjk,Zjo,Zjr,Zj9,Zkv,Zla,Zlb,Zlc,Zld,Zle,Zlf,Zlh,Zlj,Zlk,Zlm,Zlt,Zlx,Zlz,Zl0,Zl1,Zl2,Zl3,Zl4,Zmk,Zmt,Zmv,Zmw,Zmx,Zmz,Zm3,Zm5,Zm6,Zm7,Zm9,Zna,Znb,Znc,Znd,Zne,Znf,Zng,Znh,Znl,Znm,Znn,Zno,Znp,Znr,Zn5,Zob,Zof,Zrd,Zos,Zot,Zo3,Zo7,Zo8,Zpb,Zpn,Zp9,Zqd,Zqe,Zqh,Zqi,Zqk,Zql,Zqm,Zqn,Zxa,List.length_append,eq_self,true_and,and_true,Nat.zero_add,Nat.mul_one,Bool.and_true,hza,hzc,callable_25]
  tactic =>
  refine ⟨⟨Nat.le_refl _, cB_okI _⟩, ?_⟩
  have hh : h3' = hdB ⟨k, t, es, er, o, n, su, d, r, c⟩ := by rw [hh3, hh2, hh1]; rfl
  have hzb : byt8 z := by rw [hz, hh]; exact byt8_app hhb hbb2
  have hs := seal_own z hzb (by omega) (z.length + 4) rfl
  have hRz : R = (slB z, 0) := by rw [hR, ← hh, ← hz]
  have hRl : R.1.length = z.length + 4 := by rw [hRz]; exact slB_length z
  rw [hRl, hRz]
  refine cl (some ⟨cB (slB z), 1, 0⟩) hs ⟨rfl, cB_okI _⟩ ?_
  sym =>
  simp [Zaa,Zab,Zac,Zad,Zae,Zaf,Zak,Zal,Zam,Zaz,Za0,Za1,Za2,Za3,Za4,Za5,Za9,Zba,Zbb,Zbc,Zbf,Zbm,Zbs,Zbt,Zbu,Zbv,Zbw,Zcj,Zcx,Zc0,Zc5,Zc6,Zc7,Zc8,Zc9,Zdc,Zdd,Zde,Zdf,Zdg,Zdh,Zdi,Zdj,Zdk,Zdm,Zrj,Zrk,Zrl,Zrm,Zrn,Zro,Zrp,Zrq,Zrr,Zrs,Zru,Zrv,Zrw,Zrx,Zry,Zrz,Zr0,Zr2,Zr7,Zr9,Zsd,Zse,Zsf,Zsg,Zsh,Zsj,Zsm,Zsn,Zso,Zsq,Zss,Zsy,Zth,Zti,Zdo,Zdp,Zdt,Zdu,Zdv,Zdw,Zdx,Zdy,Zdz,Zd0,Zd1,Zd2,Zd3,Zeh,Zek,Zen,Zeq,Zer,Zes,Zet,Zev,Zew,Zez,Ze0,Ze2,Ze3,Ze4,Ze5,Ze8,Ze9,Zfc,Zfd,Zfe,Zff,Zfg,Zfh,Zfn,Zf0,Zgh,Zgi,Zgo,Zgp,Zgq,Zgr,Zgs,Zgt,Zgv,Zgw,Zgx,Zhf,Zhg,Zhh,Zhm,Zh1,Zh2,Zh3,Zio,Zip,Ziq,Zir,Zix,Ziz,Zi0,Zi2,Zi3,Zi6,Zi7,Zjj,Zjk,Zjo,Zjr,Zj9,Zkv,Zla,Zlb,Zlc,Zld,Zle,Zlf,Zlh,Zlj,Zlk,Zlm,Zlt,Zlx,Zlz,Zl0,Zl1,Zl2,Zl3,Zl4,Zmk,Zmt,Zmv,Zmw,Zmx,Zmz,Zm3,Zm5,Zm6,Zm7,Zm9,Zna,Znb,Znc,Znd,Zne,Znf,Zng,Znh,Znl,Znm,Znn,Zno,Znp,Znr,Zn5,Zob,Zof,Zrd,Zos,Zot,Zo3,Zo7,Zo8,Zpb,Zpn,Zp9,Zqd,Zqe,Zqh,Zqi,Zqk,Zql,Zqm,Zqn,Zxa,List.length_append,eq_self,true_and,and_true,Nat.zero_add,Nat.mul_one,Bool.and_true]
  tactic =>
  refine endO [(0, 40)] (nx := 41) ?_
  sym =>
  simp [Zaa,Zab,Zac,Zad,Zae,Zaf,Zak,Zal,Zam,Zaz,Za0,Za1,Za2,Za3,Za4,Za5,Za9,Zba,Zbb,Zbc,Zbf,Zbm,Zbs,Zbt,Zbu,Zbv,Zbw,Zcj,Zcx,Zc0,Zc5,Zc6,Zc7,Zc8,Zc9,Zdc,Zdd,Zde,Zdf,Zdg,Zdh,Zdi,Zdj,Zdk,Zdm,Zrj,Zrk,Zrl,Zrm,Zrn,Zro,Zrp,Zrq,Zrr,Zrs,Zru,Zrv,Zrw,Zrx,Zry,Zrz,Zr0,Zr2,Zr7,Zr9,Zsd,Zse,Zsf,Zsg,Zsh,Zsj,Zsm,Zsn,Zso,Zsq,Zss,Zsy,Zth,Zti,Zdo,Zdp,Zdt,Zdu,Zdv,Zdw,Zdx,Zdy,Zdz,Zd0,Zd1,Zd2,Zd3,Zeh,Zek,Zen,Zeq,Zer,Zes,Zet,Zev,Zew,Zez,Ze0,Ze2,Ze3,Ze4,Ze5,Ze8,Ze9,Zfc,Zfd,Zfe,Zff,Zfg,Zfh,Zfn,Zf0,Zgh,Zgi,Zgo,Zgp,Zgq,Zgr,Zgs,Zgt,Zgv,Zgw,Zgx,Zhf,Zhg,Zhh,Zhm,Zh1,Zh2,Zh3,Zio,Zip,Ziq,Zir,Zix,Ziz,Zi0,Zi2,Zi3,Zi6,Zi7,Zjj,Zjk,Zjo,Zjr,Zj9,Zkv,Zla,Zlb,Zlc,Zld,Zle,Zlf,Zlh,Zlj,Zlk,Zlm,Zlt,Zlx,Zlz,Zl0,Zl1,Zl2,Zl3,Zl4,Zmk,Zmt,Zmv,Zmw,Zmx,Zmz,Zm3,Zm5,Zm6,Zm7,Zm9,Zna,Znb,Znc,Znd,Zne,Znf,Zng,Znh,Znl,Znm,Znn,Zno,Znp,Znr,Zn5,Zob,Zof,Zrd,Zos,Zot,Zo3,Zo7,Zo8,Zpb,Zpn,Zp9,Zqd,Zqe,Zqh,Zqi,Zqk,Zql,Zqm,Zqn,Zxa,List.length_append,eq_self,true_and,and_true,Nat.zero_add,Nat.mul_one,Bool.and_true]
  tactic =>
  exact rs_self (cB_okI _)
/-! ### a frame that tells the end -/
def fA : Fm := ⟨6, z16, 1, 2, 0, 300, z32, [], [], 0⟩
theorem fA_lay : layF fA = (slB ([84, 87, 6, 3] ++ List.replicate 16 0 ++ [0, 0, 0, 1] ++ [0, 0, 0, 2] ++ [0, 0, 0, 0, 0, 0, 1, 44]), 0) := by kernel_rfl
theorem z16_byt : byt8 z16.1 := by
  intro x hx
  rw [List.eq_of_mem_replicate hx]; omega
theorem fA_ok : fok fA := ⟨z16_byt, z32_byt, (fun x hx => (by cases hx)), by decide, by decide, by unfold u64R; decide, by unfold u64R; decide, (fun p hp => (by cases hp))⟩
theorem saF_self (f : Fm) : saF f f = true := by simp [saF]
theorem alive_con : Con Try.prog 8 [] [] [] (Bo true) := by
  have hl := flay_con fA (by decide) (by decide) fA_ok.1 fA_ok.2.1 fA_ok.2.2.1 (by decide) (by decide)
  have hp := fparse_con (layF fA).1 (by rw [fA_lay]; exact byt8_app (by intro x hx; simp at hx; omega) (le4_byt _)) (by rw [fA_lay, slB_length]; decide)
  have hbk : psF (layF fA).1 = (fA, 0) := back1 fA fA_ok (by decide)
  rw [hbk] at hp
  simp only at hp
  have hs := same_con fA fA (by decide) fA_ok.2.2.1 fA_ok.2.2.1
  rw [saF_self] at hs
  have hr := rise_con 1 [(2, 3)] (by decide)
  have hri : riF 1 [(2, 3)] = true := by decide
  rw [hri] at hr
  have hF : fr fA = fc 6 z16 1 2 0 300 z32 (fB []) (fR []) 0 := rfl
  rw [hF] at hl hs hp
  obtain ⟨y, hy⟩ : ∃ y, y = (layF fA).1 := ⟨_, rfl⟩
  have hy2 : (layF fA).2 = 0 := by rw [fA_lay]
  have y40 : y.length = 40 := by rw [hy, fA_lay, slB_length]; rfl
  have g0 : (cB y).getD 0 .un = Y 84 := by rw [hy, fA_lay]; rfl
  have g3 : (cB y).getD 3 .un = Y 3 := by rw [hy, fA_lay]; rfl
  have g35 : (cB y).getD 35 .un = Y 44 := by rw [hy, fA_lay]; rfl
  rw [← hy] at hl hp
  rw [hy2] at hl
  have hq := cB_length y
  simp only [fB] at hl hp
  have h40 : IN y.length = (40 : Int) := by simp only [IN]; omega
  have j0 : (0 : Int) < 40 := by decide
  have j3 : (3 : Int) < 40 := by decide
  have j35 : (35 : Int) < 40 := by decide
  have i0 : (0 : Int) < IN y.length := by simp only [IN]; omega
  have i3 : (3 : Int) < IN y.length := by simp only [IN]; omega
  have i35 : (35 : Int) < IN y.length := by simp only [IN]; omega
  clear hy hy2 hbk hri hF
  have n3 : (3 : Int).toNat = 3 := rfl
  have n35 : (35 : Int).toNat = 35 := rfl
  refine con_j b8 rfl ?_
  sym =>
  simp [Zab,Zad,Zak,Zam,Zaz,Za0,Za1,Za2,Za3,Za4,Za5,Za6,Za7,Za9,Zba,Zbb,Zbd,Zbf,Zbt,Zb1,Zb7,Zb9,Zcn,Zcv,Zcz,Zc3,Zdc,Zdd,Zde,Zdi,Zev,Zew,Zex,Zez,Ze0,Ze1,Ze2,Ze3,Ze5,Ze8,Zfc,Zfd,Zfe,Zfh,Zfi,Zfl,Zfn,Zfz,Zgr,Zgs,Zgt,Zgu,Zg4,Zg6,Zhb,Zhc,Zhd,Zhe,Zhf,Zhg,Zhh,Zho,Zh6,Zh7,Zin,Ziq,Zir,Ziu,Ziv,Ziw,Zi6,Zi7,Zjh,Zji,Zjl,Zjm,Zjp,Zjw,Zj2,Zj7,Zka,Zky,Zk0,Zk1,Zk4,Zla,Zlb,Zle,Zlf,Zlh,Zlj,Zll,Zlm,Zls,Zlt,Zlx,Zlz,Zl2,Zmt,Zmv,Zmw,Zmx,Zmz,Zm2,Zm5,Zm6,Zm9,Zna,Znb,Znc,Zne,Znf,Zng,Znh,Znl,Znm,Znn,Zno,Znp,Zrd,Zos,Zo7,Zo8,Zpc,eq_self,true_and,and_true,zF_fc,fc_0,fc_17,fc_18,fc_19,fc_20,fc_53,fc_54,fc_55,fs_0,fs_17,fs_18,fs_19,fs_20,fs_53,fs_54,fs_55,fp_1,fp_21,fp_f,rb_1,rb_21,rb_0,fc_len,fc_ok,fc_id,fc_rs,v16,v32,cB_cells,fp_17,fz_fc,fcF1,callable_9]
  tactic =>
  refine cl none (hl) trivial ?_
  sym =>
  simp [Zab,Zad,Zak,Zam,Zaz,Za0,Za1,Za2,Za3,Za4,Za5,Za6,Za7,Za9,Zba,Zbb,Zbd,Zbf,Zbt,Zb1,Zb7,Zb9,Zcn,Zcv,Zcz,Zc3,Zdc,Zdd,Zde,Zdi,Zev,Zew,Zex,Zez,Ze0,Ze1,Ze2,Ze3,Ze5,Ze8,Zfc,Zfd,Zfe,Zfh,Zfi,Zfl,Zfn,Zfz,Zgr,Zgs,Zgt,Zgu,Zg4,Zg6,Zhb,Zhc,Zhd,Zhe,Zhf,Zhg,Zhh,Zho,Zh6,Zh7,Zin,Ziq,Zir,Ziu,Ziv,Ziw,Zi6,Zi7,Zjh,Zji,Zjl,Zjm,Zjp,Zjw,Zj2,Zj7,Zka,Zky,Zk0,Zk1,Zk4,Zla,Zlb,Zle,Zlf,Zlh,Zlj,Zll,Zlm,Zls,Zlt,Zlx,Zlz,Zl2,Zmt,Zmv,Zmw,Zmx,Zmz,Zm2,Zm5,Zm6,Zm9,Zna,Znb,Znc,Zne,Znf,Zng,Znh,Znl,Znm,Znn,Zno,Znp,Zrd,Zos,Zo7,Zo8,Zpc,eq_self,true_and,and_true,zF_fc,fc_0,fc_17,fc_18,fc_19,fc_20,fc_53,fc_54,fc_55,fs_0,fs_17,fs_18,fs_19,fs_20,fs_53,fs_54,fs_55,fp_1,fp_21,fp_f,rb_1,rb_21,rb_0,fc_len,fc_ok,fc_id,fc_rs,v16,v32,cB_cells,callable_19]
  tactic =>
  refine cl none (hp) trivial ?_
  sym =>
  simp [Zab,Zad,Zak,Zam,Zaz,Za0,Za1,Za2,Za3,Za4,Za5,Za6,Za7,Za9,Zba,Zbb,Zbd,Zbf,Zbt,Zb1,Zb7,Zb9,Zcn,Zcv,Zcz,Zc3,Zdc,Zdd,Zde,Zdi,Zev,Zew,Zex,Zez,Ze0,Ze1,Ze2,Ze3,Ze5,Ze8,Zfc,Zfd,Zfe,Zfh,Zfi,Zfl,Zfn,Zfz,Zgr,Zgs,Zgt,Zgu,Zg4,Zg6,Zhb,Zhc,Zhd,Zhe,Zhf,Zhg,Zhh,Zho,Zh6,Zh7,Zin,Ziq,Zir,Ziu,Ziv,Ziw,Zi6,Zi7,Zjh,Zji,Zjl,Zjm,Zjp,Zjw,Zj2,Zj7,Zka,Zky,Zk0,Zk1,Zk4,Zla,Zlb,Zle,Zlf,Zlh,Zlj,Zll,Zlm,Zls,Zlt,Zlx,Zlz,Zl2,Zmt,Zmv,Zmw,Zmx,Zmz,Zm2,Zm5,Zm6,Zm9,Zna,Znb,Znc,Zne,Znf,Zng,Znh,Znl,Znm,Znn,Zno,Znp,Zrd,Zos,Zo7,Zo8,Zpc,eq_self,true_and,and_true,zF_fc,fc_0,fc_17,fc_18,fc_19,fc_20,fc_53,fc_54,fc_55,fs_0,fs_17,fs_18,fs_19,fs_20,fs_53,fs_54,fs_55,fp_1,fp_21,fp_f,rb_1,rb_21,rb_0,fc_len,fc_ok,fc_id,fc_rs,v16,v32,cB_cells,h40,j0,j3,j35,g0,g3,g35,n3,n35,flL_fz,fz_fc,fcF1,callable_13]
  tactic =>
  and_intros <;> try (first | omega | rfl | assumption | simp only [IN]; omega)
  refine cl none (hs) trivial ?_
  sym =>
  simp [Zab,Zad,Zak,Zam,Zaz,Za0,Za1,Za2,Za3,Za4,Za5,Za6,Za7,Za9,Zba,Zbb,Zbd,Zbf,Zbt,Zb1,Zb7,Zb9,Zcn,Zcv,Zcz,Zc3,Zdc,Zdd,Zde,Zdi,Zev,Zew,Zex,Zez,Ze0,Ze1,Ze2,Ze3,Ze5,Ze8,Zfc,Zfd,Zfe,Zfh,Zfi,Zfl,Zfn,Zfz,Zgr,Zgs,Zgt,Zgu,Zg4,Zg6,Zhb,Zhc,Zhd,Zhe,Zhf,Zhg,Zhh,Zho,Zh6,Zh7,Zin,Ziq,Zir,Ziu,Ziv,Ziw,Zi6,Zi7,Zjh,Zji,Zjl,Zjm,Zjp,Zjw,Zj2,Zj7,Zka,Zky,Zk0,Zk1,Zk4,Zla,Zlb,Zle,Zlf,Zlh,Zlj,Zll,Zlm,Zls,Zlt,Zlx,Zlz,Zl2,Zmt,Zmv,Zmw,Zmx,Zmz,Zm2,Zm5,Zm6,Zm9,Zna,Znb,Znc,Zne,Znf,Zng,Znh,Znl,Znm,Znn,Zno,Znp,Zrd,Zos,Zo7,Zo8,Zpc,eq_self,true_and,and_true,zF_fc,fc_0,fc_17,fc_18,fc_19,fc_20,fc_53,fc_54,fc_55,fs_0,fs_17,fs_18,fs_19,fs_20,fs_53,fs_54,fs_55,fp_1,fp_21,fp_f,rb_1,rb_21,rb_0,fc_len,fc_ok,fc_id,fc_rs,v16,v32,cB_cells,callable_16]
  tactic =>
  refine cl none (hr) trivial ?_
  sym =>
  simp [Zab,Zad,Zak,Zam,Zaz,Za0,Za1,Za2,Za3,Za4,Za5,Za6,Za7,Za9,Zba,Zbb,Zbd,Zbf,Zbt,Zb1,Zb7,Zb9,Zcn,Zcv,Zcz,Zc3,Zdc,Zdd,Zde,Zdi,Zev,Zew,Zex,Zez,Ze0,Ze1,Ze2,Ze3,Ze5,Ze8,Zfc,Zfd,Zfe,Zfh,Zfi,Zfl,Zfn,Zfz,Zgr,Zgs,Zgt,Zgu,Zg4,Zg6,Zhb,Zhc,Zhd,Zhe,Zhf,Zhg,Zhh,Zho,Zh6,Zh7,Zin,Ziq,Zir,Ziu,Ziv,Ziw,Zi6,Zi7,Zjh,Zji,Zjl,Zjm,Zjp,Zjw,Zj2,Zj7,Zka,Zky,Zk0,Zk1,Zk4,Zla,Zlb,Zle,Zlf,Zlh,Zlj,Zll,Zlm,Zls,Zlt,Zlx,Zlz,Zl2,Zmt,Zmv,Zmw,Zmx,Zmz,Zm2,Zm5,Zm6,Zm9,Zna,Znb,Znc,Zne,Znf,Zng,Znh,Znl,Znm,Znn,Zno,Znp,Zrd,Zos,Zo7,Zo8,Zpc,eq_self,true_and,and_true]
  tactic =>
  refine endA ?_
  sym =>
  simp [Zab,Zad,Zak,Zam,Zaz,Za0,Za1,Za2,Za3,Za4,Za5,Za6,Za7,Za9,Zba,Zbb,Zbd,Zbf,Zbt,Zb1,Zb7,Zb9,Zcn,Zcv,Zcz,Zc3,Zdc,Zdd,Zde,Zdi,Zev,Zew,Zex,Zez,Ze0,Ze1,Ze2,Ze3,Ze5,Ze8,Zfc,Zfd,Zfe,Zfh,Zfi,Zfl,Zfn,Zfz,Zgr,Zgs,Zgt,Zgu,Zg4,Zg6,Zhb,Zhc,Zhd,Zhe,Zhf,Zhg,Zhh,Zho,Zh6,Zh7,Zin,Ziq,Zir,Ziu,Ziv,Ziw,Zi6,Zi7,Zjh,Zji,Zjl,Zjm,Zjp,Zjw,Zj2,Zj7,Zka,Zky,Zk0,Zk1,Zk4,Zla,Zlb,Zle,Zlf,Zlh,Zlj,Zll,Zlm,Zls,Zlt,Zlx,Zlz,Zl2,Zmt,Zmv,Zmw,Zmx,Zmz,Zm2,Zm5,Zm6,Zm9,Zna,Znb,Znc,Zne,Znf,Zng,Znh,Znl,Znm,Znn,Zno,Znp,Zrd,Zos,Zo7,Zo8,Zpc,eq_self,true_and,and_true]
end Go.Proofs.Ythhccabdlajngaa.FrmV
