import Derived.Test.YthhccabdlajngaaFrmV
import Derived.Test.YthhccabdlajngaaCodB
namespace Go.Proofs.Ythhccabdlajngaa.FrmW
open Go Go.Sim Go.Sim.E Go.RowKit Go.Proofs Go.Proofs.Ythhccabdlajngaa.Cod Go.Proofs.Ythhccabdlajngaa.Tab Go.Proofs.Ythhccabdlajngaa.Bse Go.Proofs.Ythhccabdlajngaa.Krc Go.Proofs.Ythhccabdlajngaa.FrmA Go.Proofs.Ythhccabdlajngaa.FrmB Go.Proofs.Ythhccabdlajngaa.FrmC Go.Proofs.Ythhccabdlajngaa.FrmD Go.Proofs.Ythhccabdlajngaa.FrmE Go.Proofs.Ythhccabdlajngaa.FrmF Go.Proofs.Ythhccabdlajngaa.FrmN Go.Proofs.Ythhccabdlajngaa.FrmO Go.Proofs.Ythhccabdlajngaa.FrmO Go.Proofs.Ythhccabdlajngaa.FrmP Go.Proofs.Ythhccabdlajngaa.FrmQ Go.Proofs.Ythhccabdlajngaa.FrmR Go.Proofs.Ythhccabdlajngaa.FrmS Go.Proofs.Ythhccabdlajngaa.FrmT Go.Proofs.Ythhccabdlajngaa.FrmU Go.Proofs.Ythhccabdlajngaa.FrmV
set_option linter.unusedVariables false
set_option linter.unusedSimpArgs false
set_option maxRecDepth 100000
set_option maxHeartbeats 4000000
theorem psF_byt {b : List Int} (hb : byt8 b) : byt8 (psF b).1.d ∧ (psF b).1.d.length ≤ b.length ∧ (psF b).1.r.length ≤ b.length := by
  have hob := opF_byt hb
  have hol := opF_le b
  have hz : byt8 zFm.d := fun x hx => by cases hx
  have h0 : zFm.d.length ≤ b.length ∧ zFm.r.length ≤ b.length := ⟨Nat.zero_le _, Nat.zero_le _⟩
  unfold psF
  split
  · unfold ps1
    obtain ⟨c, hc⟩ : ∃ c, c = (opF b).1 := ⟨_, rfl⟩
    rw [← hc] at hob hol ⊢
    have key : ∀ k t es er, byt8 (fdE k t es er (c.drop 28)).1.d ∧ (fdE k t es er (c.drop 28)).1.d.length ≤ b.length ∧ (fdE k t es er (c.drop 28)).1.r.length ≤ b.length := by
      intro k t es er
      have hl := fdP_len k t es er (c.drop 28)
      rw [List.length_drop] at hl
      have hb1 := tkF_byt2 (byt8_drop hob 28) false 8
      have hn : byt8 [] := fun x hx => by cases hx
      unfold fdE
      split
      · exact ⟨hz, h0⟩
      · split
        · exact ⟨hz, h0⟩
        · refine ⟨?_, by simp only; omega, by simp only; omega⟩
          show byt8 (fdP k t es er (c.drop 28)).1.d
          unfold fdP
          repeat' split
          all_goals first
            | exact hn
            | exact hb1
    repeat' split
    all_goals first
      | exact ⟨hz, h0⟩
      | exact key _ _ _ _
  · exact ⟨hz, h0⟩
theorem law4 (b : List Int) (z : Bool) (hb : byt8 b) : Con Try.prog 4 [] [fB b, Bo z] [] (Bo true) := by
  by_cases h : 1000 < b.length
  · have h' : IN b.length > (1000 : Int) := by simp only [IN]; omega
    refine con_j b4 rfl ?_
    sym =>
    simp [Zaa,Zab,Zac,Zad,Zae,Zaf,Zak,Zal,Zam,Zao,Zaz,Za0,Za1,Za2,Za3,Za4,Za5,Za9,Zba,Zbb,Zbc,Zbe,Zbf,Zbg,Zbu,Zb7,Zcn,Zcv,Zc3,Zc7,Zc8,Zdc,Zdd,Zde,Zdf,Zdg,Zdh,Zdi,Zdj,Zdk,Zdm,Zdo,Zdp,Zdq,Zdr,Zdt,Zdu,Zdv,Zdw,Zdx,Zdy,Zdz,Zd0,Zd1,Zd2,Zec,Zek,Zen,Zeq,Zet,Zev,Zew,Zex,Zez,Ze0,Ze1,Ze2,Ze3,Ze5,Ze8,Zfc,Zfd,Zfe,Zfh,Zfi,Zfl,Zfn,Zfz,Zf3,Zgr,Zgs,Zgt,Zhb,Zhc,Zh6,Zh7,Zin,Ziu,Ziv,Ziw,Zi6,Zjh,Zji,Zjw,Zj7,Zkb,Zkv,Zky,Zk0,Zk1,Zla,Zlb,Zle,Zlf,Zlh,Zll,Zlm,Zlz,Zl2,Zmt,Zmv,Zmw,Zmx,Zmz,Zm2,Zm5,Zm9,Zna,Znb,Zne,Znf,Zng,Zos,Zot,Zo7,Zo8,Zo9,Zpc,eq_self,true_and,and_true,h',callable_8]
    tactic =>
    refine cl none (alive_con) trivial ?_
    sym =>
    simp [Zaa,Zab,Zac,Zad,Zae,Zaf,Zak,Zal,Zam,Zao,Zaz,Za0,Za1,Za2,Za3,Za4,Za5,Za9,Zba,Zbb,Zbc,Zbe,Zbf,Zbg,Zbu,Zb7,Zcn,Zcv,Zc3,Zc7,Zc8,Zdc,Zdd,Zde,Zdf,Zdg,Zdh,Zdi,Zdj,Zdk,Zdm,Zdo,Zdp,Zdq,Zdr,Zdt,Zdu,Zdv,Zdw,Zdx,Zdy,Zdz,Zd0,Zd1,Zd2,Zec,Zek,Zen,Zeq,Zet,Zev,Zew,Zex,Zez,Ze0,Ze1,Ze2,Ze3,Ze5,Ze8,Zfc,Zfd,Zfe,Zfh,Zfi,Zfl,Zfn,Zfz,Zf3,Zgr,Zgs,Zgt,Zhb,Zhc,Zh6,Zh7,Zin,Ziu,Ziv,Ziw,Zi6,Zjh,Zji,Zjw,Zj7,Zkb,Zkv,Zky,Zk0,Zk1,Zla,Zlb,Zle,Zlf,Zlh,Zll,Zlm,Zlz,Zl2,Zmt,Zmv,Zmw,Zmx,Zmz,Zm2,Zm5,Zm9,Zna,Znb,Zne,Znf,Zng,Zos,Zot,Zo7,Zo8,Zo9,Zpc,eq_self,true_and,and_true]
    tactic =>
    refine endA ?_
    sym =>
    simp [Zaa,Zab,Zac,Zad,Zae,Zaf,Zak,Zal,Zam,Zao,Zaz,Za0,Za1,Za2,Za3,Za4,Za5,Za9,Zba,Zbb,Zbc,Zbe,Zbf,Zbg,Zbu,Zb7,Zcn,Zcv,Zc3,Zc7,Zc8,Zdc,Zdd,Zde,Zdf,Zdg,Zdh,Zdi,Zdj,Zdk,Zdm,Zdo,Zdp,Zdq,Zdr,Zdt,Zdu,Zdv,Zdw,Zdx,Zdy,Zdz,Zd0,Zd1,Zd2,Zec,Zek,Zen,Zeq,Zet,Zev,Zew,Zex,Zez,Ze0,Ze1,Ze2,Ze3,Ze5,Ze8,Zfc,Zfd,Zfe,Zfh,Zfi,Zfl,Zfn,Zfz,Zf3,Zgr,Zgs,Zgt,Zhb,Zhc,Zh6,Zh7,Zin,Ziu,Ziv,Ziw,Zi6,Zjh,Zji,Zjw,Zj7,Zkb,Zkv,Zky,Zk0,Zk1,Zla,Zlb,Zle,Zlf,Zlh,Zll,Zlm,Zlz,Zl2,Zmt,Zmv,Zmw,Zmx,Zmz,Zm2,Zm5,Zm9,Zna,Znb,Zne,Znf,Zng,Zos,Zot,Zo7,Zo8,Zo9,Zpc,eq_self,true_and,and_true]
  have h' : ¬ IN b.length > (1000 : Int) := by simp only [IN]; omega
  have main : ∀ y : List Int, byt8 y → y.length ≤ 1004 → Con Try.prog 19 [] [fB y] [] (.tu [.ag (fr (psF y).1), I (psF y).2]) ∧ Con Try.prog 20 [] [fB y] [] (.tu [.ag (fr (psF y).1), I (psF y).2]) ∧ Con Try.prog 10 [] [.ag (fr (psF y).1)] [] (.ag (fr (psF y).1)) ∧ Con Try.prog 13 [] [.ag (fr (psF y).1), .ag (fr (psF y).1)] [] (Bo true) := by
    intro y hy hyl
    obtain ⟨g1, g2, g3⟩ := psF_byt hy
    have hsa := same_con (psF y).1 (psF y).1 (by omega) g1 g1
    rw [saF_self] at hsa
    exact ⟨fparse_con y hy (by omega), rparse_con y hy (by omega), theirs_con _ (by omega), hsa⟩
  rcases z with _ | _
  · obtain ⟨y, hy⟩ : ∃ y, y = b := ⟨_, rfl⟩
    subst hy
    obtain ⟨m1, m2, m3, m4⟩ := main y hb (by omega)
    refine con_j b4 rfl ?_
    sym =>
    simp [Zaa,Zab,Zac,Zad,Zae,Zaf,Zak,Zal,Zam,Zao,Zaz,Za0,Za1,Za2,Za3,Za4,Za5,Za9,Zba,Zbb,Zbc,Zbe,Zbf,Zbg,Zbu,Zb7,Zcn,Zcv,Zc3,Zc7,Zc8,Zdc,Zdd,Zde,Zdf,Zdg,Zdh,Zdi,Zdj,Zdk,Zdm,Zdo,Zdp,Zdq,Zdr,Zdt,Zdu,Zdv,Zdw,Zdx,Zdy,Zdz,Zd0,Zd1,Zd2,Zec,Zek,Zen,Zeq,Zet,Zev,Zew,Zex,Zez,Ze0,Ze1,Ze2,Ze3,Ze5,Ze8,Zfc,Zfd,Zfe,Zfh,Zfi,Zfl,Zfn,Zfz,Zf3,Zgr,Zgs,Zgt,Zhb,Zhc,Zh6,Zh7,Zin,Ziu,Ziv,Ziw,Zi6,Zjh,Zji,Zjw,Zj7,Zkb,Zkv,Zky,Zk0,Zk1,Zla,Zlb,Zle,Zlf,Zlh,Zll,Zlm,Zlz,Zl2,Zmt,Zmv,Zmw,Zmx,Zmz,Zm2,Zm5,Zm9,Zna,Znb,Zne,Znf,Zng,Zos,Zot,Zo7,Zo8,Zo9,Zpc,eq_self,true_and,and_true,h']
    tactic =>
    obtain ⟨f, hf⟩ : ∃ f, f = (psF y).1 := ⟨_, rfl⟩
    rw [← hf] at m1 m2 m3 m4
    obtain ⟨e, he⟩ : ∃ e, e = (psF y).2 := ⟨_, rfl⟩
    rw [← he] at m1 m2
    obtain ⟨k, t, es, er, o, n, su, d, r, c⟩ := f
    simp only [fr] at m1 m2 m3 m4
    sym =>
    simp [Zaa,Zab,Zac,Zad,Zae,Zaf,Zak,Zal,Zam,Zao,Zaz,Za0,Za1,Za2,Za3,Za4,Za5,Za9,Zba,Zbb,Zbc,Zbe,Zbf,Zbg,Zbu,Zb7,Zcn,Zcv,Zc3,Zc7,Zc8,Zdc,Zdd,Zde,Zdf,Zdg,Zdh,Zdi,Zdj,Zdk,Zdm,Zdo,Zdp,Zdq,Zdr,Zdt,Zdu,Zdv,Zdw,Zdx,Zdy,Zdz,Zd0,Zd1,Zd2,Zec,Zek,Zen,Zeq,Zet,Zev,Zew,Zex,Zez,Ze0,Ze1,Ze2,Ze3,Ze5,Ze8,Zfc,Zfd,Zfe,Zfh,Zfi,Zfl,Zfn,Zfz,Zf3,Zgr,Zgs,Zgt,Zhb,Zhc,Zh6,Zh7,Zin,Ziu,Ziv,Ziw,Zi6,Zjh,Zji,Zjw,Zj7,Zkb,Zkv,Zky,Zk0,Zk1,Zla,Zlb,Zle,Zlf,Zlh,Zll,Zlm,Zlz,Zl2,Zmt,Zmv,Zmw,Zmx,Zmz,Zm2,Zm5,Zm9,Zna,Znb,Zne,Znf,Zng,Zos,Zot,Zo7,Zo8,Zo9,Zpc,eq_self,true_and,and_true,zF_fc,fc_0,fc_17,fc_18,fc_19,fc_20,fc_53,fc_54,fc_55,fs_0,fs_17,fs_18,fs_19,fs_20,fs_53,fs_54,fs_55,fp_1,fp_21,fp_f,rb_1,rb_21,rb_0,fc_len,fc_ok,fc_id,fc_rs,v16,v32,cB_cells,fz_fc,fcF1,flL_fz,callable_19]
    tactic =>
    refine cl none (m1) trivial ?_
    sym =>
    simp [Zaa,Zab,Zac,Zad,Zae,Zaf,Zak,Zal,Zam,Zao,Zaz,Za0,Za1,Za2,Za3,Za4,Za5,Za9,Zba,Zbb,Zbc,Zbe,Zbf,Zbg,Zbu,Zb7,Zcn,Zcv,Zc3,Zc7,Zc8,Zdc,Zdd,Zde,Zdf,Zdg,Zdh,Zdi,Zdj,Zdk,Zdm,Zdo,Zdp,Zdq,Zdr,Zdt,Zdu,Zdv,Zdw,Zdx,Zdy,Zdz,Zd0,Zd1,Zd2,Zec,Zek,Zen,Zeq,Zet,Zev,Zew,Zex,Zez,Ze0,Ze1,Ze2,Ze3,Ze5,Ze8,Zfc,Zfd,Zfe,Zfh,Zfi,Zfl,Zfn,Zfz,Zf3,Zgr,Zgs,Zgt,Zhb,Zhc,Zh6,Zh7,Zin,Ziu,Ziv,Ziw,Zi6,Zjh,Zji,Zjw,Zj7,Zkb,Zkv,Zky,Zk0,Zk1,Zla,Zlb,Zle,Zlf,Zlh,Zll,Zlm,Zlz,Zl2,Zmt,Zmv,Zmw,Zmx,Zmz,Zm2,Zm5,Zm9,Zna,Znb,Zne,Znf,Zng,Zos,Zot,Zo7,Zo8,Zo9,Zpc,eq_self,true_and,and_true,zF_fc,fc_0,fc_17,fc_18,fc_19,fc_20,fc_53,fc_54,fc_55,fs_0,fs_17,fs_18,fs_19,fs_20,fs_53,fs_54,fs_55,fp_1,fp_21,fp_f,rb_1,rb_21,rb_0,fc_len,fc_ok,fc_id,fc_rs,v16,v32,cB_cells,fz_fc,fcF1,flL_fz,callable_20]
    tactic =>
    refine cl none (m2) trivial ?_
    sym =>
    simp [Zaa,Zab,Zac,Zad,Zae,Zaf,Zak,Zal,Zam,Zao,Zaz,Za0,Za1,Za2,Za3,Za4,Za5,Za9,Zba,Zbb,Zbc,Zbe,Zbf,Zbg,Zbu,Zb7,Zcn,Zcv,Zc3,Zc7,Zc8,Zdc,Zdd,Zde,Zdf,Zdg,Zdh,Zdi,Zdj,Zdk,Zdm,Zdo,Zdp,Zdq,Zdr,Zdt,Zdu,Zdv,Zdw,Zdx,Zdy,Zdz,Zd0,Zd1,Zd2,Zec,Zek,Zen,Zeq,Zet,Zev,Zew,Zex,Zez,Ze0,Ze1,Ze2,Ze3,Ze5,Ze8,Zfc,Zfd,Zfe,Zfh,Zfi,Zfl,Zfn,Zfz,Zf3,Zgr,Zgs,Zgt,Zhb,Zhc,Zh6,Zh7,Zin,Ziu,Ziv,Ziw,Zi6,Zjh,Zji,Zjw,Zj7,Zkb,Zkv,Zky,Zk0,Zk1,Zla,Zlb,Zle,Zlf,Zlh,Zll,Zlm,Zlz,Zl2,Zmt,Zmv,Zmw,Zmx,Zmz,Zm2,Zm5,Zm9,Zna,Znb,Zne,Znf,Zng,Zos,Zot,Zo7,Zo8,Zo9,Zpc,eq_self,true_and,and_true,zF_fc,fc_0,fc_17,fc_18,fc_19,fc_20,fc_53,fc_54,fc_55,fs_0,fs_17,fs_18,fs_19,fs_20,fs_53,fs_54,fs_55,fp_1,fp_21,fp_f,rb_1,rb_21,rb_0,fc_len,fc_ok,fc_id,fc_rs,v16,v32,cB_cells,fz_fc,fcF1,flL_fz,callable_10]
    tactic =>
    refine cl none (m3) trivial ?_
    sym =>
    simp [Zaa,Zab,Zac,Zad,Zae,Zaf,Zak,Zal,Zam,Zao,Zaz,Za0,Za1,Za2,Za3,Za4,Za5,Za9,Zba,Zbb,Zbc,Zbe,Zbf,Zbg,Zbu,Zb7,Zcn,Zcv,Zc3,Zc7,Zc8,Zdc,Zdd,Zde,Zdf,Zdg,Zdh,Zdi,Zdj,Zdk,Zdm,Zdo,Zdp,Zdq,Zdr,Zdt,Zdu,Zdv,Zdw,Zdx,Zdy,Zdz,Zd0,Zd1,Zd2,Zec,Zek,Zen,Zeq,Zet,Zev,Zew,Zex,Zez,Ze0,Ze1,Ze2,Ze3,Ze5,Ze8,Zfc,Zfd,Zfe,Zfh,Zfi,Zfl,Zfn,Zfz,Zf3,Zgr,Zgs,Zgt,Zhb,Zhc,Zh6,Zh7,Zin,Ziu,Ziv,Ziw,Zi6,Zjh,Zji,Zjw,Zj7,Zkb,Zkv,Zky,Zk0,Zk1,Zla,Zlb,Zle,Zlf,Zlh,Zll,Zlm,Zlz,Zl2,Zmt,Zmv,Zmw,Zmx,Zmz,Zm2,Zm5,Zm9,Zna,Znb,Zne,Znf,Zng,Zos,Zot,Zo7,Zo8,Zo9,Zpc,eq_self,true_and,and_true,zF_fc,fc_0,fc_17,fc_18,fc_19,fc_20,fc_53,fc_54,fc_55,fs_0,fs_17,fs_18,fs_19,fs_20,fs_53,fs_54,fs_55,fp_1,fp_21,fp_f,rb_1,rb_21,rb_0,fc_len,fc_ok,fc_id,fc_rs,v16,v32,cB_cells,fz_fc,fcF1,flL_fz,callable_13]
    tactic =>
    refine cl none (m4) trivial ?_
    sym =>
    simp [Zaa,Zab,Zac,Zad,Zae,Zaf,Zak,Zal,Zam,Zao,Zaz,Za0,Za1,Za2,Za3,Za4,Za5,Za9,Zba,Zbb,Zbc,Zbe,Zbf,Zbg,Zbu,Zb7,Zcn,Zcv,Zc3,Zc7,Zc8,Zdc,Zdd,Zde,Zdf,Zdg,Zdh,Zdi,Zdj,Zdk,Zdm,Zdo,Zdp,Zdq,Zdr,Zdt,Zdu,Zdv,Zdw,Zdx,Zdy,Zdz,Zd0,Zd1,Zd2,Zec,Zek,Zen,Zeq,Zet,Zev,Zew,Zex,Zez,Ze0,Ze1,Ze2,Ze3,Ze5,Ze8,Zfc,Zfd,Zfe,Zfh,Zfi,Zfl,Zfn,Zfz,Zf3,Zgr,Zgs,Zgt,Zhb,Zhc,Zh6,Zh7,Zin,Ziu,Ziv,Ziw,Zi6,Zjh,Zji,Zjw,Zj7,Zkb,Zkv,Zky,Zk0,Zk1,Zla,Zlb,Zle,Zlf,Zlh,Zll,Zlm,Zlz,Zl2,Zmt,Zmv,Zmw,Zmx,Zmz,Zm2,Zm5,Zm9,Zna,Znb,Zne,Znf,Zng,Zos,Zot,Zo7,Zo8,Zo9,Zpc,eq_self,true_and,and_true,callable_8]
    tactic =>
    refine cl none (alive_con) trivial ?_
    sym =>
    simp [Zaa,Zab,Zac,Zad,Zae,Zaf,Zak,Zal,Zam,Zao,Zaz,Za0,Za1,Za2,Za3,Za4,Za5,Za9,Zba,Zbb,Zbc,Zbe,Zbf,Zbg,Zbu,Zb7,Zcn,Zcv,Zc3,Zc7,Zc8,Zdc,Zdd,Zde,Zdf,Zdg,Zdh,Zdi,Zdj,Zdk,Zdm,Zdo,Zdp,Zdq,Zdr,Zdt,Zdu,Zdv,Zdw,Zdx,Zdy,Zdz,Zd0,Zd1,Zd2,Zec,Zek,Zen,Zeq,Zet,Zev,Zew,Zex,Zez,Ze0,Ze1,Ze2,Ze3,Ze5,Ze8,Zfc,Zfd,Zfe,Zfh,Zfi,Zfl,Zfn,Zfz,Zf3,Zgr,Zgs,Zgt,Zhb,Zhc,Zh6,Zh7,Zin,Ziu,Ziv,Ziw,Zi6,Zjh,Zji,Zjw,Zj7,Zkb,Zkv,Zky,Zk0,Zk1,Zla,Zlb,Zle,Zlf,Zlh,Zll,Zlm,Zlz,Zl2,Zmt,Zmv,Zmw,Zmx,Zmz,Zm2,Zm5,Zm9,Zna,Znb,Zne,Znf,Zng,Zos,Zot,Zo7,Zo8,Zo9,Zpc,eq_self,true_and,and_true]
    tactic =>
    refine endA ?_
    sym =>
    simp [Zaa,Zab,Zac,Zad,Zae,Zaf,Zak,Zal,Zam,Zao,Zaz,Za0,Za1,Za2,Za3,Za4,Za5,Za9,Zba,Zbb,Zbc,Zbe,Zbf,Zbg,Zbu,Zb7,Zcn,Zcv,Zc3,Zc7,Zc8,Zdc,Zdd,Zde,Zdf,Zdg,Zdh,Zdi,Zdj,Zdk,Zdm,Zdo,Zdp,Zdq,Zdr,Zdt,Zdu,Zdv,Zdw,Zdx,Zdy,Zdz,Zd0,Zd1,Zd2,Zec,Zek,Zen,Zeq,Zet,Zev,Zew,Zex,Zez,Ze0,Ze1,Ze2,Ze3,Ze5,Ze8,Zfc,Zfd,Zfe,Zfh,Zfi,Zfl,Zfn,Zfz,Zf3,Zgr,Zgs,Zgt,Zhb,Zhc,Zh6,Zh7,Zin,Ziu,Ziv,Ziw,Zi6,Zjh,Zji,Zjw,Zj7,Zkb,Zkv,Zky,Zk0,Zk1,Zla,Zlb,Zle,Zlf,Zlh,Zll,Zlm,Zlz,Zl2,Zmt,Zmv,Zmw,Zmx,Zmz,Zm2,Zm5,Zm9,Zna,Znb,Zne,Znf,Zng,Zos,Zot,Zo7,Zo8,Zo9,Zpc,eq_self,true_and,and_true]
  · have hse := rseal_con b hb (by omega)
    obtain ⟨m1, m2, m3, m4⟩ := main (slB b) (byt8_app hb (le4_byt _)) (by rw [slB_length]; omega)
    obtain ⟨y, hy⟩ : ∃ y, y = slB b := ⟨_, rfl⟩
    rw [← hy] at hse m1 m2 m3 m4
    refine con_j b4 rfl ?_
    sym =>
    simp [Zaa,Zab,Zac,Zad,Zae,Zaf,Zak,Zal,Zam,Zao,Zaz,Za0,Za1,Za2,Za3,Za4,Za5,Za9,Zba,Zbb,Zbc,Zbe,Zbf,Zbg,Zbu,Zb7,Zcn,Zcv,Zc3,Zc7,Zc8,Zdc,Zdd,Zde,Zdf,Zdg,Zdh,Zdi,Zdj,Zdk,Zdm,Zdo,Zdp,Zdq,Zdr,Zdt,Zdu,Zdv,Zdw,Zdx,Zdy,Zdz,Zd0,Zd1,Zd2,Zec,Zek,Zen,Zeq,Zet,Zev,Zew,Zex,Zez,Ze0,Ze1,Ze2,Ze3,Ze5,Ze8,Zfc,Zfd,Zfe,Zfh,Zfi,Zfl,Zfn,Zfz,Zf3,Zgr,Zgs,Zgt,Zhb,Zhc,Zh6,Zh7,Zin,Ziu,Ziv,Ziw,Zi6,Zjh,Zji,Zjw,Zj7,Zkb,Zkv,Zky,Zk0,Zk1,Zla,Zlb,Zle,Zlf,Zlh,Zll,Zlm,Zlz,Zl2,Zmt,Zmv,Zmw,Zmx,Zmz,Zm2,Zm5,Zm9,Zna,Znb,Zne,Znf,Zng,Zos,Zot,Zo7,Zo8,Zo9,Zpc,eq_self,true_and,and_true,h',callable_18]
    tactic =>
    refine cl none (hse) trivial ?_
    obtain ⟨f, hf⟩ : ∃ f, f = (psF y).1 := ⟨_, rfl⟩
    rw [← hf] at m1 m2 m3 m4
    obtain ⟨e, he⟩ : ∃ e, e = (psF y).2 := ⟨_, rfl⟩
    rw [← he] at m1 m2
    obtain ⟨k, t, es, er, o, n, su, d, r, c⟩ := f
    simp only [fr] at m1 m2 m3 m4
    sym =>
    simp [Zaa,Zab,Zac,Zad,Zae,Zaf,Zak,Zal,Zam,Zao,Zaz,Za0,Za1,Za2,Za3,Za4,Za5,Za9,Zba,Zbb,Zbc,Zbe,Zbf,Zbg,Zbu,Zb7,Zcn,Zcv,Zc3,Zc7,Zc8,Zdc,Zdd,Zde,Zdf,Zdg,Zdh,Zdi,Zdj,Zdk,Zdm,Zdo,Zdp,Zdq,Zdr,Zdt,Zdu,Zdv,Zdw,Zdx,Zdy,Zdz,Zd0,Zd1,Zd2,Zec,Zek,Zen,Zeq,Zet,Zev,Zew,Zex,Zez,Ze0,Ze1,Ze2,Ze3,Ze5,Ze8,Zfc,Zfd,Zfe,Zfh,Zfi,Zfl,Zfn,Zfz,Zf3,Zgr,Zgs,Zgt,Zhb,Zhc,Zh6,Zh7,Zin,Ziu,Ziv,Ziw,Zi6,Zjh,Zji,Zjw,Zj7,Zkb,Zkv,Zky,Zk0,Zk1,Zla,Zlb,Zle,Zlf,Zlh,Zll,Zlm,Zlz,Zl2,Zmt,Zmv,Zmw,Zmx,Zmz,Zm2,Zm5,Zm9,Zna,Znb,Zne,Znf,Zng,Zos,Zot,Zo7,Zo8,Zo9,Zpc,eq_self,true_and,and_true,zF_fc,fc_0,fc_17,fc_18,fc_19,fc_20,fc_53,fc_54,fc_55,fs_0,fs_17,fs_18,fs_19,fs_20,fs_53,fs_54,fs_55,fp_1,fp_21,fp_f,rb_1,rb_21,rb_0,fc_len,fc_ok,fc_id,fc_rs,v16,v32,cB_cells,fz_fc,fcF1,flL_fz,callable_19]
    tactic =>
    refine cl none (m1) trivial ?_
    sym =>
    simp [Zaa,Zab,Zac,Zad,Zae,Zaf,Zak,Zal,Zam,Zao,Zaz,Za0,Za1,Za2,Za3,Za4,Za5,Za9,Zba,Zbb,Zbc,Zbe,Zbf,Zbg,Zbu,Zb7,Zcn,Zcv,Zc3,Zc7,Zc8,Zdc,Zdd,Zde,Zdf,Zdg,Zdh,Zdi,Zdj,Zdk,Zdm,Zdo,Zdp,Zdq,Zdr,Zdt,Zdu,Zdv,Zdw,Zdx,Zdy,Zdz,Zd0,Zd1,Zd2,Zec,Zek,Zen,Zeq,Zet,Zev,Zew,Zex,Zez,Ze0,Ze1,Ze2,Ze3,Ze5,Ze8,Zfc,Zfd,Zfe,Zfh,Zfi,Zfl,Zfn,Zfz,Zf3,Zgr,Zgs,Zgt,Zhb,Zhc,Zh6,Zh7,Zin,Ziu,Ziv,Ziw,Zi6,Zjh,Zji,Zjw,Zj7,Zkb,Zkv,Zky,Zk0,Zk1,Zla,Zlb,Zle,Zlf,Zlh,Zll,Zlm,Zlz,Zl2,Zmt,Zmv,Zmw,Zmx,Zmz,Zm2,Zm5,Zm9,Zna,Znb,Zne,Znf,Zng,Zos,Zot,Zo7,Zo8,Zo9,Zpc,eq_self,true_and,and_true,zF_fc,fc_0,fc_17,fc_18,fc_19,fc_20,fc_53,fc_54,fc_55,fs_0,fs_17,fs_18,fs_19,fs_20,fs_53,fs_54,fs_55,fp_1,fp_21,fp_f,rb_1,rb_21,rb_0,fc_len,fc_ok,fc_id,fc_rs,v16,v32,cB_cells,fz_fc,fcF1,flL_fz,callable_20]
    tactic =>
    refine cl none (m2) trivial ?_
    sym =>
    simp [Zaa,Zab,Zac,Zad,Zae,Zaf,Zak,Zal,Zam,Zao,Zaz,Za0,Za1,Za2,Za3,Za4,Za5,Za9,Zba,Zbb,Zbc,Zbe,Zbf,Zbg,Zbu,Zb7,Zcn,Zcv,Zc3,Zc7,Zc8,Zdc,Zdd,Zde,Zdf,Zdg,Zdh,Zdi,Zdj,Zdk,Zdm,Zdo,Zdp,Zdq,Zdr,Zdt,Zdu,Zdv,Zdw,Zdx,Zdy,Zdz,Zd0,Zd1,Zd2,Zec,Zek,Zen,Zeq,Zet,Zev,Zew,Zex,Zez,Ze0,Ze1,Ze2,Ze3,Ze5,Ze8,Zfc,Zfd,Zfe,Zfh,Zfi,Zfl,Zfn,Zfz,Zf3,Zgr,Zgs,Zgt,Zhb,Zhc,Zh6,Zh7,Zin,Ziu,Ziv,Ziw,Zi6,Zjh,Zji,Zjw,Zj7,Zkb,Zkv,Zky,Zk0,Zk1,Zla,Zlb,Zle,Zlf,Zlh,Zll,Zlm,Zlz,Zl2,Zmt,Zmv,Zmw,Zmx,Zmz,Zm2,Zm5,Zm9,Zna,Znb,Zne,Znf,Zng,Zos,Zot,Zo7,Zo8,Zo9,Zpc,eq_self,true_and,and_true,zF_fc,fc_0,fc_17,fc_18,fc_19,fc_20,fc_53,fc_54,fc_55,fs_0,fs_17,fs_18,fs_19,fs_20,fs_53,fs_54,fs_55,fp_1,fp_21,fp_f,rb_1,rb_21,rb_0,fc_len,fc_ok,fc_id,fc_rs,v16,v32,cB_cells,fz_fc,fcF1,flL_fz,callable_10]
    tactic =>
    refine cl none (m3) trivial ?_
    sym =>
    simp [Zaa,Zab,Zac,Zad,Zae,Zaf,Zak,Zal,Zam,Zao,Zaz,Za0,Za1,Za2,Za3,Za4,Za5,Za9,Zba,Zbb,Zbc,Zbe,Zbf,Zbg,Zbu,Zb7,Zcn,Zcv,Zc3,Zc7,Zc8,Zdc,Zdd,Zde,Zdf,Zdg,Zdh,Zdi,Zdj,Zdk,Zdm,Zdo,Zdp,Zdq,Zdr,Zdt,Zdu,Zdv,Zdw,Zdx,Zdy,Zdz,Zd0,Zd1,Zd2,Zec,Zek,Zen,Zeq,Zet,Zev,Zew,Zex,Zez,Ze0,Ze1,Ze2,Ze3,Ze5,Ze8,Zfc,Zfd,Zfe,Zfh,Zfi,Zfl,Zfn,Zfz,Zf3,Zgr,Zgs,Zgt,Zhb,Zhc,Zh6,Zh7,Zin,Ziu,Ziv,Ziw,Zi6,Zjh,Zji,Zjw,Zj7,Zkb,Zkv,Zky,Zk0,Zk1,Zla,Zlb,Zle,Zlf,Zlh,Zll,Zlm,Zlz,Zl2,Zmt,Zmv,Zmw,Zmx,Zmz,Zm2,Zm5,Zm9,Zna,Znb,Zne,Znf,Zng,Zos,Zot,Zo7,Zo8,Zo9,Zpc,eq_self,true_and,and_true,zF_fc,fc_0,fc_17,fc_18,fc_19,fc_20,fc_53,fc_54,fc_55,fs_0,fs_17,fs_18,fs_19,fs_20,fs_53,fs_54,fs_55,fp_1,fp_21,fp_f,rb_1,rb_21,rb_0,fc_len,fc_ok,fc_id,fc_rs,v16,v32,cB_cells,fz_fc,fcF1,flL_fz,callable_13]
    tactic =>
    refine cl none (m4) trivial ?_
    sym =>
    simp [Zaa,Zab,Zac,Zad,Zae,Zaf,Zak,Zal,Zam,Zao,Zaz,Za0,Za1,Za2,Za3,Za4,Za5,Za9,Zba,Zbb,Zbc,Zbe,Zbf,Zbg,Zbu,Zb7,Zcn,Zcv,Zc3,Zc7,Zc8,Zdc,Zdd,Zde,Zdf,Zdg,Zdh,Zdi,Zdj,Zdk,Zdm,Zdo,Zdp,Zdq,Zdr,Zdt,Zdu,Zdv,Zdw,Zdx,Zdy,Zdz,Zd0,Zd1,Zd2,Zec,Zek,Zen,Zeq,Zet,Zev,Zew,Zex,Zez,Ze0,Ze1,Ze2,Ze3,Ze5,Ze8,Zfc,Zfd,Zfe,Zfh,Zfi,Zfl,Zfn,Zfz,Zf3,Zgr,Zgs,Zgt,Zhb,Zhc,Zh6,Zh7,Zin,Ziu,Ziv,Ziw,Zi6,Zjh,Zji,Zjw,Zj7,Zkb,Zkv,Zky,Zk0,Zk1,Zla,Zlb,Zle,Zlf,Zlh,Zll,Zlm,Zlz,Zl2,Zmt,Zmv,Zmw,Zmx,Zmz,Zm2,Zm5,Zm9,Zna,Znb,Zne,Znf,Zng,Zos,Zot,Zo7,Zo8,Zo9,Zpc,eq_self,true_and,and_true,callable_8]
    tactic =>
    refine cl none (alive_con) trivial ?_
    sym =>
    simp [Zaa,Zab,Zac,Zad,Zae,Zaf,Zak,Zal,Zam,Zao,Zaz,Za0,Za1,Za2,Za3,Za4,Za5,Za9,Zba,Zbb,Zbc,Zbe,Zbf,Zbg,Zbu,Zb7,Zcn,Zcv,Zc3,Zc7,Zc8,Zdc,Zdd,Zde,Zdf,Zdg,Zdh,Zdi,Zdj,Zdk,Zdm,Zdo,Zdp,Zdq,Zdr,Zdt,Zdu,Zdv,Zdw,Zdx,Zdy,Zdz,Zd0,Zd1,Zd2,Zec,Zek,Zen,Zeq,Zet,Zev,Zew,Zex,Zez,Ze0,Ze1,Ze2,Ze3,Ze5,Ze8,Zfc,Zfd,Zfe,Zfh,Zfi,Zfl,Zfn,Zfz,Zf3,Zgr,Zgs,Zgt,Zhb,Zhc,Zh6,Zh7,Zin,Ziu,Ziv,Ziw,Zi6,Zjh,Zji,Zjw,Zj7,Zkb,Zkv,Zky,Zk0,Zk1,Zla,Zlb,Zle,Zlf,Zlh,Zll,Zlm,Zlz,Zl2,Zmt,Zmv,Zmw,Zmx,Zmz,Zm2,Zm5,Zm9,Zna,Znb,Zne,Znf,Zng,Zos,Zot,Zo7,Zo8,Zo9,Zpc,eq_self,true_and,and_true]
    tactic =>
    refine endA ?_
    sym =>
    simp [Zaa,Zab,Zac,Zad,Zae,Zaf,Zak,Zal,Zam,Zao,Zaz,Za0,Za1,Za2,Za3,Za4,Za5,Za9,Zba,Zbb,Zbc,Zbe,Zbf,Zbg,Zbu,Zb7,Zcn,Zcv,Zc3,Zc7,Zc8,Zdc,Zdd,Zde,Zdf,Zdg,Zdh,Zdi,Zdj,Zdk,Zdm,Zdo,Zdp,Zdq,Zdr,Zdt,Zdu,Zdv,Zdw,Zdx,Zdy,Zdz,Zd0,Zd1,Zd2,Zec,Zek,Zen,Zeq,Zet,Zev,Zew,Zex,Zez,Ze0,Ze1,Ze2,Ze3,Ze5,Ze8,Zfc,Zfd,Zfe,Zfh,Zfi,Zfl,Zfn,Zfz,Zf3,Zgr,Zgs,Zgt,Zhb,Zhc,Zh6,Zh7,Zin,Ziu,Ziv,Ziw,Zi6,Zjh,Zji,Zjw,Zj7,Zkb,Zkv,Zky,Zk0,Zk1,Zla,Zlb,Zle,Zlf,Zlh,Zll,Zlm,Zlz,Zl2,Zmt,Zmv,Zmw,Zmx,Zmz,Zm2,Zm5,Zm9,Zna,Znb,Zne,Znf,Zng,Zos,Zot,Zo7,Zo8,Zo9,Zpc,eq_self,true_and,and_true]
end Go.Proofs.Ythhccabdlajngaa.FrmW
