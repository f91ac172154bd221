import Derived.Test.YthhccabdlajngaaFrmV
import Derived.Test.YthhccabdlajngaaCodB
namespace Go.Proofs.Ythhccabdlajngaa.FrmW
open Go Go.Sim Go.Sim.E Go.RowKit Go.Proofs Go.Proofs.Ythhccabdlajngaa.Cod Go.Proofs.Ythhccabdlajngaa.Tab Go.Proofs.Ythhccabdlajngaa.Bse Go.Proofs.Ythhccabdlajngaa.Krc Go.Proofs.Ythhccabdlajngaa.FrmA Go.Proofs.Ythhccabdlajngaa.FrmB Go.Proofs.Ythhccabdlajngaa.FrmC Go.Proofs.Ythhccabdlajngaa.FrmD Go.Proofs.Ythhccabdlajngaa.FrmE Go.Proofs.Ythhccabdlajngaa.FrmF Go.Proofs.Ythhccabdlajngaa.FrmN Go.Proofs.Ythhccabdlajngaa.FrmO Go.Proofs.Ythhccabdlajngaa.FrmO Go.Proofs.Ythhccabdlajngaa.FrmP Go.Proofs.Ythhccabdlajngaa.FrmQ Go.Proofs.Ythhccabdlajngaa.FrmR Go.Proofs.Ythhccabdlajngaa.FrmS Go.Proofs.Ythhccabdlajngaa.FrmT Go.Proofs.Ythhccabdlajngaa.FrmU Go.Proofs.Ythhccabdlajngaa.FrmV
set_option linter.unusedVariables false
set_option linter.unusedSimpArgs false
set_option maxRecDepth 100000
set_option maxHeartbeats 4000000
theorem far_le {f : Fm} (h : farF f = false) : f.d.length ≤ 600 ∧ f.r.length ≤ 20 := by
  unfold farF at h
  by_cases h1 : 600 < f.d.length
  · rw [if_pos h1] at h; cases h
  · rw [if_neg h1] at h
    have := of_decide_eq_false h
    omega
theorem law3 (f : Fm) (hf : fok f) : Con Try.prog 3 [] [.ag (fr f)] [] (Bo true) := by
  have hfar := far_con f
  have hfl := @far_le f
  obtain ⟨p1, p2, p3, p4, p5, p6, p7, p8⟩ := hf
  by_cases h : farF f = true
  · rw [h] at hfar
    obtain ⟨k, t, es, er, o, n, su, d, r, c⟩ := f
    simp only [fr] at hfar ⊢
    refine con_j b3 rfl ?_
    sym =>
    simp [Zaa,Zab,Zac,Zad,Zae,Zaf,Zak,Zal,Zam,Zao,Zaz,Za0,Za1,Za2,Za3,Za4,Za5,Za9,Zba,Zbb,Zbc,Zbe,Zbg,Zbt,Zbu,Zbw,Zby,Zb7,Zcx,Zc7,Zc8,Zdc,Zdd,Zde,Zdf,Zdg,Zdh,Zdi,Zdj,Zdk,Zdm,Zdo,Zdp,Zdq,Zdr,Zdt,Zdu,Zdv,Zdw,Zdx,Zdy,Zdz,Zd0,Zd1,Zd2,Zeb,Zec,Zek,Zen,Zeq,Zet,Zev,Zew,Zex,Zez,Ze0,Ze2,Ze3,Ze5,Ze8,Zfc,Zfd,Zfe,Zfh,Zfi,Zfl,Zfn,Zfz,Zf5,Zgr,Zgs,Zgt,Zgv,Zgw,Zgx,Zgz,Zg0,Zhb,Zhc,Zio,Zip,Zi6,Zjw,Zka,Zkv,Zky,Zk0,Zk4,Zla,Zlb,Zle,Zlf,Zlh,Zlj,Zll,Zlm,Zlz,Zl2,Zmt,Zmv,Zmw,Zmx,Zmz,Zm2,Zm5,Zm6,Zm9,Zna,Znb,Zne,Znf,Zng,Zos,Zot,Zo7,Zo8,Zpc,List.append_assoc,List.length_append,eq_self,true_and,and_true,zF_fc,fc_0,fc_17,fc_18,fc_19,fc_20,fc_53,fc_54,fc_55,fs_0,fs_17,fs_18,fs_19,fs_20,fs_53,fs_54,fs_55,fp_1,fp_21,fp_f,rb_1,rb_21,rb_0,fc_len,fc_ok,fc_id,fc_rs,v16,v32,cB_cells,fz_fc,fcF1,flL_fz,callable_7]
    tactic =>
    refine cl none (hfar) trivial ?_
    sym =>
    simp [Zaa,Zab,Zac,Zad,Zae,Zaf,Zak,Zal,Zam,Zao,Zaz,Za0,Za1,Za2,Za3,Za4,Za5,Za9,Zba,Zbb,Zbc,Zbe,Zbg,Zbt,Zbu,Zbw,Zby,Zb7,Zcx,Zc7,Zc8,Zdc,Zdd,Zde,Zdf,Zdg,Zdh,Zdi,Zdj,Zdk,Zdm,Zdo,Zdp,Zdq,Zdr,Zdt,Zdu,Zdv,Zdw,Zdx,Zdy,Zdz,Zd0,Zd1,Zd2,Zeb,Zec,Zek,Zen,Zeq,Zet,Zev,Zew,Zex,Zez,Ze0,Ze2,Ze3,Ze5,Ze8,Zfc,Zfd,Zfe,Zfh,Zfi,Zfl,Zfn,Zfz,Zf5,Zgr,Zgs,Zgt,Zgv,Zgw,Zgx,Zgz,Zg0,Zhb,Zhc,Zio,Zip,Zi6,Zjw,Zka,Zkv,Zky,Zk0,Zk4,Zla,Zlb,Zle,Zlf,Zlh,Zlj,Zll,Zlm,Zlz,Zl2,Zmt,Zmv,Zmw,Zmx,Zmz,Zm2,Zm5,Zm6,Zm9,Zna,Znb,Zne,Znf,Zng,Zos,Zot,Zo7,Zo8,Zpc,List.append_assoc,List.length_append,eq_self,true_and,and_true,callable_8]
    tactic =>
    refine cl none (alive_con) trivial ?_
    sym =>
    simp [Zaa,Zab,Zac,Zad,Zae,Zaf,Zak,Zal,Zam,Zao,Zaz,Za0,Za1,Za2,Za3,Za4,Za5,Za9,Zba,Zbb,Zbc,Zbe,Zbg,Zbt,Zbu,Zbw,Zby,Zb7,Zcx,Zc7,Zc8,Zdc,Zdd,Zde,Zdf,Zdg,Zdh,Zdi,Zdj,Zdk,Zdm,Zdo,Zdp,Zdq,Zdr,Zdt,Zdu,Zdv,Zdw,Zdx,Zdy,Zdz,Zd0,Zd1,Zd2,Zeb,Zec,Zek,Zen,Zeq,Zet,Zev,Zew,Zex,Zez,Ze0,Ze2,Ze3,Ze5,Ze8,Zfc,Zfd,Zfe,Zfh,Zfi,Zfl,Zfn,Zfz,Zf5,Zgr,Zgs,Zgt,Zgv,Zgw,Zgx,Zgz,Zg0,Zhb,Zhc,Zio,Zip,Zi6,Zjw,Zka,Zkv,Zky,Zk0,Zk4,Zla,Zlb,Zle,Zlf,Zlh,Zlj,Zll,Zlm,Zlz,Zl2,Zmt,Zmv,Zmw,Zmx,Zmz,Zm2,Zm5,Zm6,Zm9,Zna,Znb,Zne,Znf,Zng,Zos,Zot,Zo7,Zo8,Zpc,List.append_assoc,List.length_append,eq_self,true_and,and_true]
    tactic =>
    refine endA ?_
    sym =>
    simp [Zaa,Zab,Zac,Zad,Zae,Zaf,Zak,Zal,Zam,Zao,Zaz,Za0,Za1,Za2,Za3,Za4,Za5,Za9,Zba,Zbb,Zbc,Zbe,Zbg,Zbt,Zbu,Zbw,Zby,Zb7,Zcx,Zc7,Zc8,Zdc,Zdd,Zde,Zdf,Zdg,Zdh,Zdi,Zdj,Zdk,Zdm,Zdo,Zdp,Zdq,Zdr,Zdt,Zdu,Zdv,Zdw,Zdx,Zdy,Zdz,Zd0,Zd1,Zd2,Zeb,Zec,Zek,Zen,Zeq,Zet,Zev,Zew,Zex,Zez,Ze0,Ze2,Ze3,Ze5,Ze8,Zfc,Zfd,Zfe,Zfh,Zfi,Zfl,Zfn,Zfz,Zf5,Zgr,Zgs,Zgt,Zgv,Zgw,Zgx,Zgz,Zg0,Zhb,Zhc,Zio,Zip,Zi6,Zjw,Zka,Zkv,Zky,Zk0,Zk4,Zla,Zlb,Zle,Zlf,Zlh,Zlj,Zll,Zlm,Zlz,Zl2,Zmt,Zmv,Zmw,Zmx,Zmz,Zm2,Zm5,Zm6,Zm9,Zna,Znb,Zne,Znf,Zng,Zos,Zot,Zo7,Zo8,Zpc,List.append_assoc,List.length_append,eq_self,true_and,and_true]
  have h' : farF f = false := by simpa using h
  obtain ⟨hd, hr⟩ := hfl h'
  rw [h'] at hfar
  clear hfl h h'
  have hth := theirs_con f (by omega)
  have hlay := flay_con f (by omega) (by omega) p1 p2 p3 p4 p5
  have hrlay := rlay_con f (by omega) (by omega) p1 p2 p3 p4 p5 p6 p7 p8
  have hba := bare_con f (by omega) (by omega)
  have hrba := rbare_con f (by omega) (by omega)
  have hbb := bare_byt f p2 p3
  have hbl := bare_len f
  have hth2 := theirs_con (bare f) (by omega)
  have hsa := same_con (bare f) (bare f) (by omega) hbb.2 hbb.2
  rw [saF_self] at hsa
  have hri := rise_con f.o f.r (by omega)
  have hrri := rrise_con f.o f.r (by omega)
  obtain ⟨L, hL⟩ : ∃ L, L = layF f := ⟨_, rfl⟩
  have hLl : L.1.length ≤ 6000 := by
    have := bodyF_len (bare f)
    rw [hL]
    unfold layF
    split
    · rw [slB_length, List.length_append]
      have : (hdB f).length = 28 := by simp [hdB, beN_length, f.t.2]
      omega
    · simp
  rw [← hL] at hlay hrlay
  obtain ⟨l, e⟩ := L
  have hns := nsame_con l l (by simp only at hLl; omega)
  rw [decide_eq_true rfl] at hns
  obtain ⟨G, hG⟩ : ∃ G, G = bare f := ⟨_, rfl⟩
  rw [← hG] at hba hrba hth2 hsa
  clear hL hLl hbb hbl hG
  obtain ⟨k, t, es, er, o, n, su, d, r, c⟩ := f
  obtain ⟨k', t', es', er', o', n', su', d', r', c'⟩ := G
  simp only [fr] at hfar hth hlay hrlay hba hrba hth2 hsa hri hrri ⊢
  obtain ⟨w, hw⟩ : ∃ w, w = riF o r := ⟨_, rfl⟩
  rw [← hw] at hri hrri
  refine con_j b3 rfl ?_
  sym =>
  simp [Zaa,Zab,Zac,Zad,Zae,Zaf,Zak,Zal,Zam,Zao,Zaz,Za0,Za1,Za2,Za3,Za4,Za5,Za9,Zba,Zbb,Zbc,Zbe,Zbg,Zbt,Zbu,Zbw,Zby,Zb7,Zcx,Zc7,Zc8,Zdc,Zdd,Zde,Zdf,Zdg,Zdh,Zdi,Zdj,Zdk,Zdm,Zdo,Zdp,Zdq,Zdr,Zdt,Zdu,Zdv,Zdw,Zdx,Zdy,Zdz,Zd0,Zd1,Zd2,Zeb,Zec,Zek,Zen,Zeq,Zet,Zev,Zew,Zex,Zez,Ze0,Ze2,Ze3,Ze5,Ze8,Zfc,Zfd,Zfe,Zfh,Zfi,Zfl,Zfn,Zfz,Zf5,Zgr,Zgs,Zgt,Zgv,Zgw,Zgx,Zgz,Zg0,Zhb,Zhc,Zio,Zip,Zi6,Zjw,Zka,Zkv,Zky,Zk0,Zk4,Zla,Zlb,Zle,Zlf,Zlh,Zlj,Zll,Zlm,Zlz,Zl2,Zmt,Zmv,Zmw,Zmx,Zmz,Zm2,Zm5,Zm6,Zm9,Zna,Znb,Zne,Znf,Zng,Zos,Zot,Zo7,Zo8,Zpc,List.append_assoc,List.length_append,eq_self,true_and,and_true,zF_fc,fc_0,fc_17,fc_18,fc_19,fc_20,fc_53,fc_54,fc_55,fs_0,fs_17,fs_18,fs_19,fs_20,fs_53,fs_54,fs_55,fp_1,fp_21,fp_f,rb_1,rb_21,rb_0,fc_len,fc_ok,fc_id,fc_rs,v16,v32,cB_cells,fz_fc,fcF1,flL_fz,callable_7]
  tactic =>
  refine cl none (hfar) trivial ?_
  sym =>
  simp [Zaa,Zab,Zac,Zad,Zae,Zaf,Zak,Zal,Zam,Zao,Zaz,Za0,Za1,Za2,Za3,Za4,Za5,Za9,Zba,Zbb,Zbc,Zbe,Zbg,Zbt,Zbu,Zbw,Zby,Zb7,Zcx,Zc7,Zc8,Zdc,Zdd,Zde,Zdf,Zdg,Zdh,Zdi,Zdj,Zdk,Zdm,Zdo,Zdp,Zdq,Zdr,Zdt,Zdu,Zdv,Zdw,Zdx,Zdy,Zdz,Zd0,Zd1,Zd2,Zeb,Zec,Zek,Zen,Zeq,Zet,Zev,Zew,Zex,Zez,Ze0,Ze2,Ze3,Ze5,Ze8,Zfc,Zfd,Zfe,Zfh,Zfi,Zfl,Zfn,Zfz,Zf5,Zgr,Zgs,Zgt,Zgv,Zgw,Zgx,Zgz,Zg0,Zhb,Zhc,Zio,Zip,Zi6,Zjw,Zka,Zkv,Zky,Zk0,Zk4,Zla,Zlb,Zle,Zlf,Zlh,Zlj,Zll,Zlm,Zlz,Zl2,Zmt,Zmv,Zmw,Zmx,Zmz,Zm2,Zm5,Zm6,Zm9,Zna,Znb,Zne,Znf,Zng,Zos,Zot,Zo7,Zo8,Zpc,List.append_assoc,List.length_append,eq_self,true_and,and_true,zF_fc,fc_0,fc_17,fc_18,fc_19,fc_20,fc_53,fc_54,fc_55,fs_0,fs_17,fs_18,fs_19,fs_20,fs_53,fs_54,fs_55,fp_1,fp_21,fp_f,rb_1,rb_21,rb_0,fc_len,fc_ok,fc_id,fc_rs,v16,v32,cB_cells,fz_fc,fcF1,flL_fz,callable_10]
  tactic =>
  refine cl none (hth) trivial ?_
  sym =>
  simp [Zaa,Zab,Zac,Zad,Zae,Zaf,Zak,Zal,Zam,Zao,Zaz,Za0,Za1,Za2,Za3,Za4,Za5,Za9,Zba,Zbb,Zbc,Zbe,Zbg,Zbt,Zbu,Zbw,Zby,Zb7,Zcx,Zc7,Zc8,Zdc,Zdd,Zde,Zdf,Zdg,Zdh,Zdi,Zdj,Zdk,Zdm,Zdo,Zdp,Zdq,Zdr,Zdt,Zdu,Zdv,Zdw,Zdx,Zdy,Zdz,Zd0,Zd1,Zd2,Zeb,Zec,Zek,Zen,Zeq,Zet,Zev,Zew,Zex,Zez,Ze0,Ze2,Ze3,Ze5,Ze8,Zfc,Zfd,Zfe,Zfh,Zfi,Zfl,Zfn,Zfz,Zf5,Zgr,Zgs,Zgt,Zgv,Zgw,Zgx,Zgz,Zg0,Zhb,Zhc,Zio,Zip,Zi6,Zjw,Zka,Zkv,Zky,Zk0,Zk4,Zla,Zlb,Zle,Zlf,Zlh,Zlj,Zll,Zlm,Zlz,Zl2,Zmt,Zmv,Zmw,Zmx,Zmz,Zm2,Zm5,Zm6,Zm9,Zna,Znb,Zne,Znf,Zng,Zos,Zot,Zo7,Zo8,Zpc,List.append_assoc,List.length_append,eq_self,true_and,and_true,zF_fc,fc_0,fc_17,fc_18,fc_19,fc_20,fc_53,fc_54,fc_55,fs_0,fs_17,fs_18,fs_19,fs_20,fs_53,fs_54,fs_55,fp_1,fp_21,fp_f,rb_1,rb_21,rb_0,fc_len,fc_ok,fc_id,fc_rs,v16,v32,cB_cells,fz_fc,fcF1,flL_fz,callable_9]
  tactic =>
  refine cl none (hlay) trivial ?_
  sym =>
  simp [Zaa,Zab,Zac,Zad,Zae,Zaf,Zak,Zal,Zam,Zao,Zaz,Za0,Za1,Za2,Za3,Za4,Za5,Za9,Zba,Zbb,Zbc,Zbe,Zbg,Zbt,Zbu,Zbw,Zby,Zb7,Zcx,Zc7,Zc8,Zdc,Zdd,Zde,Zdf,Zdg,Zdh,Zdi,Zdj,Zdk,Zdm,Zdo,Zdp,Zdq,Zdr,Zdt,Zdu,Zdv,Zdw,Zdx,Zdy,Zdz,Zd0,Zd1,Zd2,Zeb,Zec,Zek,Zen,Zeq,Zet,Zev,Zew,Zex,Zez,Ze0,Ze2,Ze3,Ze5,Ze8,Zfc,Zfd,Zfe,Zfh,Zfi,Zfl,Zfn,Zfz,Zf5,Zgr,Zgs,Zgt,Zgv,Zgw,Zgx,Zgz,Zg0,Zhb,Zhc,Zio,Zip,Zi6,Zjw,Zka,Zkv,Zky,Zk0,Zk4,Zla,Zlb,Zle,Zlf,Zlh,Zlj,Zll,Zlm,Zlz,Zl2,Zmt,Zmv,Zmw,Zmx,Zmz,Zm2,Zm5,Zm6,Zm9,Zna,Znb,Zne,Znf,Zng,Zos,Zot,Zo7,Zo8,Zpc,List.append_assoc,List.length_append,eq_self,true_and,and_true,zF_fc,fc_0,fc_17,fc_18,fc_19,fc_20,fc_53,fc_54,fc_55,fs_0,fs_17,fs_18,fs_19,fs_20,fs_53,fs_54,fs_55,fp_1,fp_21,fp_f,rb_1,rb_21,rb_0,fc_len,fc_ok,fc_id,fc_rs,v16,v32,cB_cells,fz_fc,fcF1,flL_fz,callable_11]
  tactic =>
  refine cl none (hrlay) trivial ?_
  sym =>
  simp [Zaa,Zab,Zac,Zad,Zae,Zaf,Zak,Zal,Zam,Zao,Zaz,Za0,Za1,Za2,Za3,Za4,Za5,Za9,Zba,Zbb,Zbc,Zbe,Zbg,Zbt,Zbu,Zbw,Zby,Zb7,Zcx,Zc7,Zc8,Zdc,Zdd,Zde,Zdf,Zdg,Zdh,Zdi,Zdj,Zdk,Zdm,Zdo,Zdp,Zdq,Zdr,Zdt,Zdu,Zdv,Zdw,Zdx,Zdy,Zdz,Zd0,Zd1,Zd2,Zeb,Zec,Zek,Zen,Zeq,Zet,Zev,Zew,Zex,Zez,Ze0,Ze2,Ze3,Ze5,Ze8,Zfc,Zfd,Zfe,Zfh,Zfi,Zfl,Zfn,Zfz,Zf5,Zgr,Zgs,Zgt,Zgv,Zgw,Zgx,Zgz,Zg0,Zhb,Zhc,Zio,Zip,Zi6,Zjw,Zka,Zkv,Zky,Zk0,Zk4,Zla,Zlb,Zle,Zlf,Zlh,Zlj,Zll,Zlm,Zlz,Zl2,Zmt,Zmv,Zmw,Zmx,Zmz,Zm2,Zm5,Zm6,Zm9,Zna,Znb,Zne,Znf,Zng,Zos,Zot,Zo7,Zo8,Zpc,List.append_assoc,List.length_append,eq_self,true_and,and_true,zF_fc,fc_0,fc_17,fc_18,fc_19,fc_20,fc_53,fc_54,fc_55,fs_0,fs_17,fs_18,fs_19,fs_20,fs_53,fs_54,fs_55,fp_1,fp_21,fp_f,rb_1,rb_21,rb_0,fc_len,fc_ok,fc_id,fc_rs,v16,v32,cB_cells,fz_fc,fcF1,flL_fz,callable_12]
  tactic =>
  refine cl none (hns) trivial ?_
  sym =>
  simp [Zaa,Zab,Zac,Zad,Zae,Zaf,Zak,Zal,Zam,Zao,Zaz,Za0,Za1,Za2,Za3,Za4,Za5,Za9,Zba,Zbb,Zbc,Zbe,Zbg,Zbt,Zbu,Zbw,Zby,Zb7,Zcx,Zc7,Zc8,Zdc,Zdd,Zde,Zdf,Zdg,Zdh,Zdi,Zdj,Zdk,Zdm,Zdo,Zdp,Zdq,Zdr,Zdt,Zdu,Zdv,Zdw,Zdx,Zdy,Zdz,Zd0,Zd1,Zd2,Zeb,Zec,Zek,Zen,Zeq,Zet,Zev,Zew,Zex,Zez,Ze0,Ze2,Ze3,Ze5,Ze8,Zfc,Zfd,Zfe,Zfh,Zfi,Zfl,Zfn,Zfz,Zf5,Zgr,Zgs,Zgt,Zgv,Zgw,Zgx,Zgz,Zg0,Zhb,Zhc,Zio,Zip,Zi6,Zjw,Zka,Zkv,Zky,Zk0,Zk4,Zla,Zlb,Zle,Zlf,Zlh,Zlj,Zll,Zlm,Zlz,Zl2,Zmt,Zmv,Zmw,Zmx,Zmz,Zm2,Zm5,Zm6,Zm9,Zna,Znb,Zne,Znf,Zng,Zos,Zot,Zo7,Zo8,Zpc,List.append_assoc,List.length_append,eq_self,true_and,and_true,zF_fc,fc_0,fc_17,fc_18,fc_19,fc_20,fc_53,fc_54,fc_55,fs_0,fs_17,fs_18,fs_19,fs_20,fs_53,fs_54,fs_55,fp_1,fp_21,fp_f,rb_1,rb_21,rb_0,fc_len,fc_ok,fc_id,fc_rs,v16,v32,cB_cells,fz_fc,fcF1,flL_fz,callable_10]
  tactic =>
  refine cl none (hth) trivial ?_
  sym =>
  simp [Zaa,Zab,Zac,Zad,Zae,Zaf,Zak,Zal,Zam,Zao,Zaz,Za0,Za1,Za2,Za3,Za4,Za5,Za9,Zba,Zbb,Zbc,Zbe,Zbg,Zbt,Zbu,Zbw,Zby,Zb7,Zcx,Zc7,Zc8,Zdc,Zdd,Zde,Zdf,Zdg,Zdh,Zdi,Zdj,Zdk,Zdm,Zdo,Zdp,Zdq,Zdr,Zdt,Zdu,Zdv,Zdw,Zdx,Zdy,Zdz,Zd0,Zd1,Zd2,Zeb,Zec,Zek,Zen,Zeq,Zet,Zev,Zew,Zex,Zez,Ze0,Ze2,Ze3,Ze5,Ze8,Zfc,Zfd,Zfe,Zfh,Zfi,Zfl,Zfn,Zfz,Zf5,Zgr,Zgs,Zgt,Zgv,Zgw,Zgx,Zgz,Zg0,Zhb,Zhc,Zio,Zip,Zi6,Zjw,Zka,Zkv,Zky,Zk0,Zk4,Zla,Zlb,Zle,Zlf,Zlh,Zlj,Zll,Zlm,Zlz,Zl2,Zmt,Zmv,Zmw,Zmx,Zmz,Zm2,Zm5,Zm6,Zm9,Zna,Znb,Zne,Znf,Zng,Zos,Zot,Zo7,Zo8,Zpc,List.append_assoc,List.length_append,eq_self,true_and,and_true,zF_fc,fc_0,fc_17,fc_18,fc_19,fc_20,fc_53,fc_54,fc_55,fs_0,fs_17,fs_18,fs_19,fs_20,fs_53,fs_54,fs_55,fp_1,fp_21,fp_f,rb_1,rb_21,rb_0,fc_len,fc_ok,fc_id,fc_rs,v16,v32,cB_cells,fz_fc,fcF1,flL_fz,callable_14]
  tactic =>
  refine cl none (hba) trivial ?_
  sym =>
  simp [Zaa,Zab,Zac,Zad,Zae,Zaf,Zak,Zal,Zam,Zao,Zaz,Za0,Za1,Za2,Za3,Za4,Za5,Za9,Zba,Zbb,Zbc,Zbe,Zbg,Zbt,Zbu,Zbw,Zby,Zb7,Zcx,Zc7,Zc8,Zdc,Zdd,Zde,Zdf,Zdg,Zdh,Zdi,Zdj,Zdk,Zdm,Zdo,Zdp,Zdq,Zdr,Zdt,Zdu,Zdv,Zdw,Zdx,Zdy,Zdz,Zd0,Zd1,Zd2,Zeb,Zec,Zek,Zen,Zeq,Zet,Zev,Zew,Zex,Zez,Ze0,Ze2,Ze3,Ze5,Ze8,Zfc,Zfd,Zfe,Zfh,Zfi,Zfl,Zfn,Zfz,Zf5,Zgr,Zgs,Zgt,Zgv,Zgw,Zgx,Zgz,Zg0,Zhb,Zhc,Zio,Zip,Zi6,Zjw,Zka,Zkv,Zky,Zk0,Zk4,Zla,Zlb,Zle,Zlf,Zlh,Zlj,Zll,Zlm,Zlz,Zl2,Zmt,Zmv,Zmw,Zmx,Zmz,Zm2,Zm5,Zm6,Zm9,Zna,Znb,Zne,Znf,Zng,Zos,Zot,Zo7,Zo8,Zpc,List.append_assoc,List.length_append,eq_self,true_and,and_true,zF_fc,fc_0,fc_17,fc_18,fc_19,fc_20,fc_53,fc_54,fc_55,fs_0,fs_17,fs_18,fs_19,fs_20,fs_53,fs_54,fs_55,fp_1,fp_21,fp_f,rb_1,rb_21,rb_0,fc_len,fc_ok,fc_id,fc_rs,v16,v32,cB_cells,fz_fc,fcF1,flL_fz,callable_15]
  tactic =>
  refine cl none (hrba) trivial ?_
  sym =>
  simp [Zaa,Zab,Zac,Zad,Zae,Zaf,Zak,Zal,Zam,Zao,Zaz,Za0,Za1,Za2,Za3,Za4,Za5,Za9,Zba,Zbb,Zbc,Zbe,Zbg,Zbt,Zbu,Zbw,Zby,Zb7,Zcx,Zc7,Zc8,Zdc,Zdd,Zde,Zdf,Zdg,Zdh,Zdi,Zdj,Zdk,Zdm,Zdo,Zdp,Zdq,Zdr,Zdt,Zdu,Zdv,Zdw,Zdx,Zdy,Zdz,Zd0,Zd1,Zd2,Zeb,Zec,Zek,Zen,Zeq,Zet,Zev,Zew,Zex,Zez,Ze0,Ze2,Ze3,Ze5,Ze8,Zfc,Zfd,Zfe,Zfh,Zfi,Zfl,Zfn,Zfz,Zf5,Zgr,Zgs,Zgt,Zgv,Zgw,Zgx,Zgz,Zg0,Zhb,Zhc,Zio,Zip,Zi6,Zjw,Zka,Zkv,Zky,Zk0,Zk4,Zla,Zlb,Zle,Zlf,Zlh,Zlj,Zll,Zlm,Zlz,Zl2,Zmt,Zmv,Zmw,Zmx,Zmz,Zm2,Zm5,Zm6,Zm9,Zna,Znb,Zne,Znf,Zng,Zos,Zot,Zo7,Zo8,Zpc,List.append_assoc,List.length_append,eq_self,true_and,and_true,zF_fc,fc_0,fc_17,fc_18,fc_19,fc_20,fc_53,fc_54,fc_55,fs_0,fs_17,fs_18,fs_19,fs_20,fs_53,fs_54,fs_55,fp_1,fp_21,fp_f,rb_1,rb_21,rb_0,fc_len,fc_ok,fc_id,fc_rs,v16,v32,cB_cells,fz_fc,fcF1,flL_fz,callable_10]
  tactic =>
  refine cl none (hth2) trivial ?_
  sym =>
  simp [Zaa,Zab,Zac,Zad,Zae,Zaf,Zak,Zal,Zam,Zao,Zaz,Za0,Za1,Za2,Za3,Za4,Za5,Za9,Zba,Zbb,Zbc,Zbe,Zbg,Zbt,Zbu,Zbw,Zby,Zb7,Zcx,Zc7,Zc8,Zdc,Zdd,Zde,Zdf,Zdg,Zdh,Zdi,Zdj,Zdk,Zdm,Zdo,Zdp,Zdq,Zdr,Zdt,Zdu,Zdv,Zdw,Zdx,Zdy,Zdz,Zd0,Zd1,Zd2,Zeb,Zec,Zek,Zen,Zeq,Zet,Zev,Zew,Zex,Zez,Ze0,Ze2,Ze3,Ze5,Ze8,Zfc,Zfd,Zfe,Zfh,Zfi,Zfl,Zfn,Zfz,Zf5,Zgr,Zgs,Zgt,Zgv,Zgw,Zgx,Zgz,Zg0,Zhb,Zhc,Zio,Zip,Zi6,Zjw,Zka,Zkv,Zky,Zk0,Zk4,Zla,Zlb,Zle,Zlf,Zlh,Zlj,Zll,Zlm,Zlz,Zl2,Zmt,Zmv,Zmw,Zmx,Zmz,Zm2,Zm5,Zm6,Zm9,Zna,Znb,Zne,Znf,Zng,Zos,Zot,Zo7,Zo8,Zpc,List.append_assoc,List.length_append,eq_self,true_and,and_true,zF_fc,fc_0,fc_17,fc_18,fc_19,fc_20,fc_53,fc_54,fc_55,fs_0,fs_17,fs_18,fs_19,fs_20,fs_53,fs_54,fs_55,fp_1,fp_21,fp_f,rb_1,rb_21,rb_0,fc_len,fc_ok,fc_id,fc_rs,v16,v32,cB_cells,fz_fc,fcF1,flL_fz,callable_13]
  tactic =>
  refine cl none (hsa) trivial ?_
  sym =>
  simp [Zaa,Zab,Zac,Zad,Zae,Zaf,Zak,Zal,Zam,Zao,Zaz,Za0,Za1,Za2,Za3,Za4,Za5,Za9,Zba,Zbb,Zbc,Zbe,Zbg,Zbt,Zbu,Zbw,Zby,Zb7,Zcx,Zc7,Zc8,Zdc,Zdd,Zde,Zdf,Zdg,Zdh,Zdi,Zdj,Zdk,Zdm,Zdo,Zdp,Zdq,Zdr,Zdt,Zdu,Zdv,Zdw,Zdx,Zdy,Zdz,Zd0,Zd1,Zd2,Zeb,Zec,Zek,Zen,Zeq,Zet,Zev,Zew,Zex,Zez,Ze0,Ze2,Ze3,Ze5,Ze8,Zfc,Zfd,Zfe,Zfh,Zfi,Zfl,Zfn,Zfz,Zf5,Zgr,Zgs,Zgt,Zgv,Zgw,Zgx,Zgz,Zg0,Zhb,Zhc,Zio,Zip,Zi6,Zjw,Zka,Zkv,Zky,Zk0,Zk4,Zla,Zlb,Zle,Zlf,Zlh,Zlj,Zll,Zlm,Zlz,Zl2,Zmt,Zmv,Zmw,Zmx,Zmz,Zm2,Zm5,Zm6,Zm9,Zna,Znb,Zne,Znf,Zng,Zos,Zot,Zo7,Zo8,Zpc,List.append_assoc,List.length_append,eq_self,true_and,and_true,zF_fc,fc_0,fc_17,fc_18,fc_19,fc_20,fc_53,fc_54,fc_55,fs_0,fs_17,fs_18,fs_19,fs_20,fs_53,fs_54,fs_55,fp_1,fp_21,fp_f,rb_1,rb_21,rb_0,fc_len,fc_ok,fc_id,fc_rs,v16,v32,cB_cells,fz_fc,fcF1,flL_fz,callable_10]
  tactic =>
  refine cl none (hth) trivial ?_
  sym =>
  simp [Zaa,Zab,Zac,Zad,Zae,Zaf,Zak,Zal,Zam,Zao,Zaz,Za0,Za1,Za2,Za3,Za4,Za5,Za9,Zba,Zbb,Zbc,Zbe,Zbg,Zbt,Zbu,Zbw,Zby,Zb7,Zcx,Zc7,Zc8,Zdc,Zdd,Zde,Zdf,Zdg,Zdh,Zdi,Zdj,Zdk,Zdm,Zdo,Zdp,Zdq,Zdr,Zdt,Zdu,Zdv,Zdw,Zdx,Zdy,Zdz,Zd0,Zd1,Zd2,Zeb,Zec,Zek,Zen,Zeq,Zet,Zev,Zew,Zex,Zez,Ze0,Ze2,Ze3,Ze5,Ze8,Zfc,Zfd,Zfe,Zfh,Zfi,Zfl,Zfn,Zfz,Zf5,Zgr,Zgs,Zgt,Zgv,Zgw,Zgx,Zgz,Zg0,Zhb,Zhc,Zio,Zip,Zi6,Zjw,Zka,Zkv,Zky,Zk0,Zk4,Zla,Zlb,Zle,Zlf,Zlh,Zlj,Zll,Zlm,Zlz,Zl2,Zmt,Zmv,Zmw,Zmx,Zmz,Zm2,Zm5,Zm6,Zm9,Zna,Znb,Zne,Znf,Zng,Zos,Zot,Zo7,Zo8,Zpc,List.append_assoc,List.length_append,eq_self,true_and,and_true,zF_fc,fc_0,fc_17,fc_18,fc_19,fc_20,fc_53,fc_54,fc_55,fs_0,fs_17,fs_18,fs_19,fs_20,fs_53,fs_54,fs_55,fp_1,fp_21,fp_f,rb_1,rb_21,rb_0,fc_len,fc_ok,fc_id,fc_rs,v16,v32,cB_cells,fz_fc,fcF1,flL_fz,callable_16]
  tactic =>
  refine cl none (hri) trivial ?_
  sym =>
  simp [Zaa,Zab,Zac,Zad,Zae,Zaf,Zak,Zal,Zam,Zao,Zaz,Za0,Za1,Za2,Za3,Za4,Za5,Za9,Zba,Zbb,Zbc,Zbe,Zbg,Zbt,Zbu,Zbw,Zby,Zb7,Zcx,Zc7,Zc8,Zdc,Zdd,Zde,Zdf,Zdg,Zdh,Zdi,Zdj,Zdk,Zdm,Zdo,Zdp,Zdq,Zdr,Zdt,Zdu,Zdv,Zdw,Zdx,Zdy,Zdz,Zd0,Zd1,Zd2,Zeb,Zec,Zek,Zen,Zeq,Zet,Zev,Zew,Zex,Zez,Ze0,Ze2,Ze3,Ze5,Ze8,Zfc,Zfd,Zfe,Zfh,Zfi,Zfl,Zfn,Zfz,Zf5,Zgr,Zgs,Zgt,Zgv,Zgw,Zgx,Zgz,Zg0,Zhb,Zhc,Zio,Zip,Zi6,Zjw,Zka,Zkv,Zky,Zk0,Zk4,Zla,Zlb,Zle,Zlf,Zlh,Zlj,Zll,Zlm,Zlz,Zl2,Zmt,Zmv,Zmw,Zmx,Zmz,Zm2,Zm5,Zm6,Zm9,Zna,Znb,Zne,Znf,Zng,Zos,Zot,Zo7,Zo8,Zpc,List.append_assoc,List.length_append,eq_self,true_and,and_true,zF_fc,fc_0,fc_17,fc_18,fc_19,fc_20,fc_53,fc_54,fc_55,fs_0,fs_17,fs_18,fs_19,fs_20,fs_53,fs_54,fs_55,fp_1,fp_21,fp_f,rb_1,rb_21,rb_0,fc_len,fc_ok,fc_id,fc_rs,v16,v32,cB_cells,fz_fc,fcF1,flL_fz,callable_17]
  tactic =>
  refine cl none (hrri) trivial ?_
  have hww : (w == w) = true := by cases w <;> rfl
  sym =>
  simp [Zaa,Zab,Zac,Zad,Zae,Zaf,Zak,Zal,Zam,Zao,Zaz,Za0,Za1,Za2,Za3,Za4,Za5,Za9,Zba,Zbb,Zbc,Zbe,Zbg,Zbt,Zbu,Zbw,Zby,Zb7,Zcx,Zc7,Zc8,Zdc,Zdd,Zde,Zdf,Zdg,Zdh,Zdi,Zdj,Zdk,Zdm,Zdo,Zdp,Zdq,Zdr,Zdt,Zdu,Zdv,Zdw,Zdx,Zdy,Zdz,Zd0,Zd1,Zd2,Zeb,Zec,Zek,Zen,Zeq,Zet,Zev,Zew,Zex,Zez,Ze0,Ze2,Ze3,Ze5,Ze8,Zfc,Zfd,Zfe,Zfh,Zfi,Zfl,Zfn,Zfz,Zf5,Zgr,Zgs,Zgt,Zgv,Zgw,Zgx,Zgz,Zg0,Zhb,Zhc,Zio,Zip,Zi6,Zjw,Zka,Zkv,Zky,Zk0,Zk4,Zla,Zlb,Zle,Zlf,Zlh,Zlj,Zll,Zlm,Zlz,Zl2,Zmt,Zmv,Zmw,Zmx,Zmz,Zm2,Zm5,Zm6,Zm9,Zna,Znb,Zne,Znf,Zng,Zos,Zot,Zo7,Zo8,Zpc,List.append_assoc,List.length_append,eq_self,true_and,and_true,hww,callable_8]
  tactic =>
  refine cl none (alive_con) trivial ?_
  sym =>
  simp [Zaa,Zab,Zac,Zad,Zae,Zaf,Zak,Zal,Zam,Zao,Zaz,Za0,Za1,Za2,Za3,Za4,Za5,Za9,Zba,Zbb,Zbc,Zbe,Zbg,Zbt,Zbu,Zbw,Zby,Zb7,Zcx,Zc7,Zc8,Zdc,Zdd,Zde,Zdf,Zdg,Zdh,Zdi,Zdj,Zdk,Zdm,Zdo,Zdp,Zdq,Zdr,Zdt,Zdu,Zdv,Zdw,Zdx,Zdy,Zdz,Zd0,Zd1,Zd2,Zeb,Zec,Zek,Zen,Zeq,Zet,Zev,Zew,Zex,Zez,Ze0,Ze2,Ze3,Ze5,Ze8,Zfc,Zfd,Zfe,Zfh,Zfi,Zfl,Zfn,Zfz,Zf5,Zgr,Zgs,Zgt,Zgv,Zgw,Zgx,Zgz,Zg0,Zhb,Zhc,Zio,Zip,Zi6,Zjw,Zka,Zkv,Zky,Zk0,Zk4,Zla,Zlb,Zle,Zlf,Zlh,Zlj,Zll,Zlm,Zlz,Zl2,Zmt,Zmv,Zmw,Zmx,Zmz,Zm2,Zm5,Zm6,Zm9,Zna,Znb,Zne,Znf,Zng,Zos,Zot,Zo7,Zo8,Zpc,List.append_assoc,List.length_append,eq_self,true_and,and_true]
  tactic =>
  refine endA ?_
  sym =>
  simp [Zaa,Zab,Zac,Zad,Zae,Zaf,Zak,Zal,Zam,Zao,Zaz,Za0,Za1,Za2,Za3,Za4,Za5,Za9,Zba,Zbb,Zbc,Zbe,Zbg,Zbt,Zbu,Zbw,Zby,Zb7,Zcx,Zc7,Zc8,Zdc,Zdd,Zde,Zdf,Zdg,Zdh,Zdi,Zdj,Zdk,Zdm,Zdo,Zdp,Zdq,Zdr,Zdt,Zdu,Zdv,Zdw,Zdx,Zdy,Zdz,Zd0,Zd1,Zd2,Zeb,Zec,Zek,Zen,Zeq,Zet,Zev,Zew,Zex,Zez,Ze0,Ze2,Ze3,Ze5,Ze8,Zfc,Zfd,Zfe,Zfh,Zfi,Zfl,Zfn,Zfz,Zf5,Zgr,Zgs,Zgt,Zgv,Zgw,Zgx,Zgz,Zg0,Zhb,Zhc,Zio,Zip,Zi6,Zjw,Zka,Zkv,Zky,Zk0,Zk4,Zla,Zlb,Zle,Zlf,Zlh,Zlj,Zll,Zlm,Zlz,Zl2,Zmt,Zmv,Zmw,Zmx,Zmz,Zm2,Zm5,Zm6,Zm9,Zna,Znb,Zne,Znf,Zng,Zos,Zot,Zo7,Zo8,Zpc,List.append_assoc,List.length_append,eq_self,true_and,and_true]
end Go.Proofs.Ythhccabdlajngaa.FrmW
