import Derived.Test.YthhccabdlajngaaFrmV
import Derived.Test.YthhccabdlajngaaCodB
namespace Go.Proofs.Ythhccabdlajngaa.FrmW
open Go Go.Sim Go.Sim.E Go.RowKit Go.Proofs Go.Proofs.Ythhccabdlajngaa.Cod Go.Proofs.Ythhccabdlajngaa.Tab Go.Proofs.Ythhccabdlajngaa.Bse Go.Proofs.Ythhccabdlajngaa.Krc Go.Proofs.Ythhccabdlajngaa.FrmA Go.Proofs.Ythhccabdlajngaa.FrmB Go.Proofs.Ythhccabdlajngaa.FrmC Go.Proofs.Ythhccabdlajngaa.FrmD Go.Proofs.Ythhccabdlajngaa.FrmE Go.Proofs.Ythhccabdlajngaa.FrmF Go.Proofs.Ythhccabdlajngaa.FrmN Go.Proofs.Ythhccabdlajngaa.FrmO Go.Proofs.Ythhccabdlajngaa.FrmO Go.Proofs.Ythhccabdlajngaa.FrmP Go.Proofs.Ythhccabdlajngaa.FrmQ Go.Proofs.Ythhccabdlajngaa.FrmR Go.Proofs.Ythhccabdlajngaa.FrmS Go.Proofs.Ythhccabdlajngaa.FrmT Go.Proofs.Ythhccabdlajngaa.FrmU Go.Proofs.Ythhccabdlajngaa.FrmV
set_option linter.unusedVariables false
set_option linter.unusedSimpArgs false
set_option maxRecDepth 100000
set_option maxHeartbeats 4000000
theorem far_le {f : Fm} (h : farF f = false) : f.d.length ≤ 600 ∧ f.r.length ≤ 20 := by
  unfold farF at h
  by_cases h1 : 600 < f.d.length
  · rw [if_pos h1] at h; cases h
  · rw [if_neg h1] at h
    have := of_decide_eq_false h
    omega
theorem psF_byt {b : List Int} (hb : byt8 b) : byt8 (psF b).1.d ∧ (psF b).1.d.length ≤ b.length ∧ (psF b).1.r.length ≤ b.length := by
  have hob := opF_byt hb
  have hol := opF_le b
  have hz : byt8 zFm.d := fun x hx => by cases hx
  have h0 : zFm.d.length ≤ b.length ∧ zFm.r.length ≤ b.length := ⟨Nat.zero_le _, Nat.zero_le _⟩
  unfold psF
  split
  · unfold ps1
    obtain ⟨c, hc⟩ : ∃ c, c = (opF b).1 := ⟨_, rfl⟩
    rw [← hc] at hob hol ⊢
    have key : ∀ k t es er, byt8 (fdE k t es er (c.drop 28)).1.d ∧ (fdE k t es er (c.drop 28)).1.d.length ≤ b.length ∧ (fdE k t es er (c.drop 28)).1.r.length ≤ b.length := by
      intro k t es er
      have hl := fdP_len k t es er (c.drop 28)
      rw [List.length_drop] at hl
      have hb1 := tkF_byt2 (byt8_drop hob 28) false 8
      have hn : byt8 [] := fun x hx => by cases hx
      unfold fdE
      split
      · exact ⟨hz, h0⟩
      · split
        · exact ⟨hz, h0⟩
        · refine ⟨?_, by simp only; omega, by simp only; omega⟩
          show byt8 (fdP k t es er (c.drop 28)).1.d
          unfold fdP
          repeat' split
          all_goals first
            | exact hn
            | exact hb1
    repeat' split
    all_goals first
      | exact ⟨hz, h0⟩
      | exact key _ _ _ _
  · exact ⟨hz, h0⟩
theorem fdE_keeps (k : Int) (t : V 16) (es er : Int) (b : List Int) (hb : byt8 b) (ht : byt8 t.1) (h1 : 0 ≤ es ∧ es < 4294967296) (h2 : 0 ≤ er ∧ er < 4294967296) :
    byt8 (fdE k t es er b).1.t.1 ∧ byt8 (fdE k t es er b).1.su.1 ∧ (0 ≤ (fdE k t es er b).1.es ∧ (fdE k t es er b).1.es < 4294967296) ∧ (0 ≤ (fdE k t es er b).1.er ∧ (fdE k t es er b).1.er < 4294967296) := by
  have hz : byt8 zFm.t.1 ∧ byt8 zFm.su.1 ∧ (0 ≤ zFm.es ∧ zFm.es < 4294967296) ∧ (0 ≤ zFm.er ∧ zFm.er < 4294967296) := ⟨z16_byt, z32_byt, by decide, by decide⟩
  have hs : ∀ m, byt8 (s32 (tkF b false 8).2.1 m).1 := fun m => tkF_byt (tkF_byt2 hb false 8) m 32
  unfold fdE
  split
  · exact hz
  · split
    · exact hz
    · show byt8 (fdP k t es er b).1.t.1 ∧ byt8 (fdP k t es er b).1.su.1 ∧ (0 ≤ (fdP k t es er b).1.es ∧ (fdP k t es er b).1.es < 4294967296) ∧ (0 ≤ (fdP k t es er b).1.er ∧ (fdP k t es er b).1.er < 4294967296)
      unfold fdP
      repeat' split
      all_goals first
        | exact ⟨ht, hs _, h1, h2⟩
        | exact ⟨ht, z32_byt, h1, h2⟩
theorem psF_keeps {b : List Int} (hb : byt8 b) : byt8 (psF b).1.t.1 ∧ byt8 (psF b).1.su.1 ∧ (0 ≤ (psF b).1.es ∧ (psF b).1.es < 4294967296) ∧ (0 ≤ (psF b).1.er ∧ (psF b).1.er < 4294967296) := by
  have hz : byt8 zFm.t.1 ∧ byt8 zFm.su.1 ∧ (0 ≤ zFm.es ∧ zFm.es < 4294967296) ∧ (0 ≤ zFm.er ∧ zFm.er < 4294967296) := ⟨z16_byt, z32_byt, by decide, by decide⟩
  have hob := opF_byt hb
  unfold psF
  split
  · unfold ps1
    obtain ⟨c, hc⟩ : ∃ c, c = (opF b).1 := ⟨_, rfl⟩
    rw [← hc] at hob ⊢
    have q1 : 0 ≤ S4 c 20 ∧ S4 c 20 < 4294967296 := ofN4 (byt8_take (byt8_drop hob _) _)
    have q2 : 0 ≤ S4 c 24 ∧ S4 c 24 < 4294967296 := ofN4 (byt8_take (byt8_drop hob _) _)
    have key := fdE_keeps (c.getD 2 0) (s16 (c.drop 4) false) (S4 c 20) (S4 c 24) (c.drop 28) (byt8_drop hob _) (tkF_byt (byt8_drop hob 4) false 16) q1 q2
    repeat' split
    all_goals first
      | exact hz
      | exact key
  · exact hz
theorem layF_len (f : Fm) (hd : f.d.length ≤ 600) (hr : f.r.length ≤ 20) : (layF f).1.length ≤ 1100 := by
  have := bodyF_len (bare f)
  have hbl := bare_len f
  unfold layF
  split
  · rw [slB_length, List.length_append]
    have : (hdB f).length = 28 := by simp [hdB, beN_length, f.t.2]
    omega
  · simp
theorem layF_byt (f : Fm) (hf : fok f) : byt8 (layF f).1 := by
  unfold layF
  split
  · exact byt8_app (rows_byt f hf) (le4_byt _)
  · intro x hx; cases hx
theorem law5 (f g : Fm) (b : List Int) (hf : fok f) (hg : fok g) (hb : byt8 b) : Con Try.prog 5 [] [.ag (fr f), .ag (fr g), fB b] [] (Bo true) := by
  have hfar := far_con f
  have gfar := far_con g
  by_cases h : farF f = true
  · rw [h] at hfar
    obtain ⟨k, t, es, er, o, n, su, d, r, c⟩ := f
    obtain ⟨k', t', es', er', o', n', su', d', r', c'⟩ := g
    simp only [fr] at hfar ⊢
    clear hf hg
    refine con_j b5 rfl ?_
    sym =>
    simp [Zaa,Zab,Zac,Zad,Zae,Zaf,Zak,Zal,Zam,Zao,Zaz,Za0,Za1,Za2,Za3,Za4,Za5,Za6,Za7,Za8,Za9,Zba,Zbb,Zbc,Zbd,Zbe,Zbf,Zbg,Zbk,Zbt,Zbu,Zb7,Zb9,Zcn,Zcv,Zcx,Zc3,Zc7,Zc8,Zdc,Zdd,Zde,Zdf,Zdg,Zdh,Zdi,Zdj,Zdk,Zdm,Zdo,Zdp,Zdq,Zdr,Zdt,Zdu,Zdv,Zdw,Zdx,Zdy,Zdz,Zd0,Zd1,Zd2,Zec,Zek,Zen,Zeq,Zet,Zev,Zew,Zex,Zez,Ze0,Ze1,Ze2,Ze3,Ze5,Ze8,Zfc,Zfd,Zfe,Zfh,Zfi,Zfj,Zfl,Zfn,Zfz,Zf0,Zf3,Zf6,Zgd,Zgg,Zgr,Zgs,Zgt,Zhb,Zhc,Zhd,Zhe,Zhf,Zh6,Zh7,Zin,Zio,Zip,Ziu,Ziv,Ziw,Zi6,Zjh,Zji,Zjw,Zj7,Zka,Zkv,Zky,Zk0,Zk1,Zk4,Zla,Zlb,Zle,Zlf,Zlh,Zll,Zlm,Zls,Zlz,Zl2,Zmt,Zmv,Zmw,Zmx,Zmz,Zm2,Zm5,Zm9,Zna,Znb,Zne,Znf,Zng,Zos,Zot,Zo3,Zo4,Zo6,Zo7,Zo8,Zo9,Zpc,eq_self,true_and,and_true,zF_fc,fc_0,fc_17,fc_18,fc_19,fc_20,fc_53,fc_54,fc_55,fs_0,fs_17,fs_18,fs_19,fs_20,fs_53,fs_54,fs_55,fp_1,fp_21,fp_f,rb_1,rb_21,rb_0,fc_len,fc_ok,fc_id,fc_rs,v16,v32,cB_cells,fz_fc,fcF1,flL_fz,callable_7]
    tactic =>
    refine cl none (hfar) trivial ?_
    sym =>
    simp [Zaa,Zab,Zac,Zad,Zae,Zaf,Zak,Zal,Zam,Zao,Zaz,Za0,Za1,Za2,Za3,Za4,Za5,Za6,Za7,Za8,Za9,Zba,Zbb,Zbc,Zbd,Zbe,Zbf,Zbg,Zbk,Zbt,Zbu,Zb7,Zb9,Zcn,Zcv,Zcx,Zc3,Zc7,Zc8,Zdc,Zdd,Zde,Zdf,Zdg,Zdh,Zdi,Zdj,Zdk,Zdm,Zdo,Zdp,Zdq,Zdr,Zdt,Zdu,Zdv,Zdw,Zdx,Zdy,Zdz,Zd0,Zd1,Zd2,Zec,Zek,Zen,Zeq,Zet,Zev,Zew,Zex,Zez,Ze0,Ze1,Ze2,Ze3,Ze5,Ze8,Zfc,Zfd,Zfe,Zfh,Zfi,Zfj,Zfl,Zfn,Zfz,Zf0,Zf3,Zf6,Zgd,Zgg,Zgr,Zgs,Zgt,Zhb,Zhc,Zhd,Zhe,Zhf,Zh6,Zh7,Zin,Zio,Zip,Ziu,Ziv,Ziw,Zi6,Zjh,Zji,Zjw,Zj7,Zka,Zkv,Zky,Zk0,Zk1,Zk4,Zla,Zlb,Zle,Zlf,Zlh,Zll,Zlm,Zls,Zlz,Zl2,Zmt,Zmv,Zmw,Zmx,Zmz,Zm2,Zm5,Zm9,Zna,Znb,Zne,Znf,Zng,Zos,Zot,Zo3,Zo4,Zo6,Zo7,Zo8,Zo9,Zpc,eq_self,true_and,and_true,callable_8]
    tactic =>
    refine cl none (alive_con) trivial ?_
    sym =>
    simp [Zaa,Zab,Zac,Zad,Zae,Zaf,Zak,Zal,Zam,Zao,Zaz,Za0,Za1,Za2,Za3,Za4,Za5,Za6,Za7,Za8,Za9,Zba,Zbb,Zbc,Zbd,Zbe,Zbf,Zbg,Zbk,Zbt,Zbu,Zb7,Zb9,Zcn,Zcv,Zcx,Zc3,Zc7,Zc8,Zdc,Zdd,Zde,Zdf,Zdg,Zdh,Zdi,Zdj,Zdk,Zdm,Zdo,Zdp,Zdq,Zdr,Zdt,Zdu,Zdv,Zdw,Zdx,Zdy,Zdz,Zd0,Zd1,Zd2,Zec,Zek,Zen,Zeq,Zet,Zev,Zew,Zex,Zez,Ze0,Ze1,Ze2,Ze3,Ze5,Ze8,Zfc,Zfd,Zfe,Zfh,Zfi,Zfj,Zfl,Zfn,Zfz,Zf0,Zf3,Zf6,Zgd,Zgg,Zgr,Zgs,Zgt,Zhb,Zhc,Zhd,Zhe,Zhf,Zh6,Zh7,Zin,Zio,Zip,Ziu,Ziv,Ziw,Zi6,Zjh,Zji,Zjw,Zj7,Zka,Zkv,Zky,Zk0,Zk1,Zk4,Zla,Zlb,Zle,Zlf,Zlh,Zll,Zlm,Zls,Zlz,Zl2,Zmt,Zmv,Zmw,Zmx,Zmz,Zm2,Zm5,Zm9,Zna,Znb,Zne,Znf,Zng,Zos,Zot,Zo3,Zo4,Zo6,Zo7,Zo8,Zo9,Zpc,eq_self,true_and,and_true]
    tactic =>
    refine endA ?_
    sym =>
    simp [Zaa,Zab,Zac,Zad,Zae,Zaf,Zak,Zal,Zam,Zao,Zaz,Za0,Za1,Za2,Za3,Za4,Za5,Za6,Za7,Za8,Za9,Zba,Zbb,Zbc,Zbd,Zbe,Zbf,Zbg,Zbk,Zbt,Zbu,Zb7,Zb9,Zcn,Zcv,Zcx,Zc3,Zc7,Zc8,Zdc,Zdd,Zde,Zdf,Zdg,Zdh,Zdi,Zdj,Zdk,Zdm,Zdo,Zdp,Zdq,Zdr,Zdt,Zdu,Zdv,Zdw,Zdx,Zdy,Zdz,Zd0,Zd1,Zd2,Zec,Zek,Zen,Zeq,Zet,Zev,Zew,Zex,Zez,Ze0,Ze1,Ze2,Ze3,Ze5,Ze8,Zfc,Zfd,Zfe,Zfh,Zfi,Zfj,Zfl,Zfn,Zfz,Zf0,Zf3,Zf6,Zgd,Zgg,Zgr,Zgs,Zgt,Zhb,Zhc,Zhd,Zhe,Zhf,Zh6,Zh7,Zin,Zio,Zip,Ziu,Ziv,Ziw,Zi6,Zjh,Zji,Zjw,Zj7,Zka,Zkv,Zky,Zk0,Zk1,Zk4,Zla,Zlb,Zle,Zlf,Zlh,Zll,Zlm,Zls,Zlz,Zl2,Zmt,Zmv,Zmw,Zmx,Zmz,Zm2,Zm5,Zm9,Zna,Znb,Zne,Znf,Zng,Zos,Zot,Zo3,Zo4,Zo6,Zo7,Zo8,Zo9,Zpc,eq_self,true_and,and_true]
  have h' : farF f = false := by simpa using h
  obtain ⟨hd, hr⟩ := far_le h'
  rw [h'] at hfar
  clear h h'
  by_cases h : farF g = true
  · rw [h] at gfar
    obtain ⟨k, t, es, er, o, n, su, d, r, c⟩ := f
    obtain ⟨k', t', es', er', o', n', su', d', r', c'⟩ := g
    simp only [fr] at hfar gfar ⊢
    clear hf hg
    refine con_j b5 rfl ?_
    sym =>
    simp [Zaa,Zab,Zac,Zad,Zae,Zaf,Zak,Zal,Zam,Zao,Zaz,Za0,Za1,Za2,Za3,Za4,Za5,Za6,Za7,Za8,Za9,Zba,Zbb,Zbc,Zbd,Zbe,Zbf,Zbg,Zbk,Zbt,Zbu,Zb7,Zb9,Zcn,Zcv,Zcx,Zc3,Zc7,Zc8,Zdc,Zdd,Zde,Zdf,Zdg,Zdh,Zdi,Zdj,Zdk,Zdm,Zdo,Zdp,Zdq,Zdr,Zdt,Zdu,Zdv,Zdw,Zdx,Zdy,Zdz,Zd0,Zd1,Zd2,Zec,Zek,Zen,Zeq,Zet,Zev,Zew,Zex,Zez,Ze0,Ze1,Ze2,Ze3,Ze5,Ze8,Zfc,Zfd,Zfe,Zfh,Zfi,Zfj,Zfl,Zfn,Zfz,Zf0,Zf3,Zf6,Zgd,Zgg,Zgr,Zgs,Zgt,Zhb,Zhc,Zhd,Zhe,Zhf,Zh6,Zh7,Zin,Zio,Zip,Ziu,Ziv,Ziw,Zi6,Zjh,Zji,Zjw,Zj7,Zka,Zkv,Zky,Zk0,Zk1,Zk4,Zla,Zlb,Zle,Zlf,Zlh,Zll,Zlm,Zls,Zlz,Zl2,Zmt,Zmv,Zmw,Zmx,Zmz,Zm2,Zm5,Zm9,Zna,Znb,Zne,Znf,Zng,Zos,Zot,Zo3,Zo4,Zo6,Zo7,Zo8,Zo9,Zpc,eq_self,true_and,and_true,zF_fc,fc_0,fc_17,fc_18,fc_19,fc_20,fc_53,fc_54,fc_55,fs_0,fs_17,fs_18,fs_19,fs_20,fs_53,fs_54,fs_55,fp_1,fp_21,fp_f,rb_1,rb_21,rb_0,fc_len,fc_ok,fc_id,fc_rs,v16,v32,cB_cells,fz_fc,fcF1,flL_fz,callable_7]
    tactic =>
    refine cl none (hfar) trivial ?_
    sym =>
    simp [Zaa,Zab,Zac,Zad,Zae,Zaf,Zak,Zal,Zam,Zao,Zaz,Za0,Za1,Za2,Za3,Za4,Za5,Za6,Za7,Za8,Za9,Zba,Zbb,Zbc,Zbd,Zbe,Zbf,Zbg,Zbk,Zbt,Zbu,Zb7,Zb9,Zcn,Zcv,Zcx,Zc3,Zc7,Zc8,Zdc,Zdd,Zde,Zdf,Zdg,Zdh,Zdi,Zdj,Zdk,Zdm,Zdo,Zdp,Zdq,Zdr,Zdt,Zdu,Zdv,Zdw,Zdx,Zdy,Zdz,Zd0,Zd1,Zd2,Zec,Zek,Zen,Zeq,Zet,Zev,Zew,Zex,Zez,Ze0,Ze1,Ze2,Ze3,Ze5,Ze8,Zfc,Zfd,Zfe,Zfh,Zfi,Zfj,Zfl,Zfn,Zfz,Zf0,Zf3,Zf6,Zgd,Zgg,Zgr,Zgs,Zgt,Zhb,Zhc,Zhd,Zhe,Zhf,Zh6,Zh7,Zin,Zio,Zip,Ziu,Ziv,Ziw,Zi6,Zjh,Zji,Zjw,Zj7,Zka,Zkv,Zky,Zk0,Zk1,Zk4,Zla,Zlb,Zle,Zlf,Zlh,Zll,Zlm,Zls,Zlz,Zl2,Zmt,Zmv,Zmw,Zmx,Zmz,Zm2,Zm5,Zm9,Zna,Znb,Zne,Znf,Zng,Zos,Zot,Zo3,Zo4,Zo6,Zo7,Zo8,Zo9,Zpc,eq_self,true_and,and_true,zF_fc,fc_0,fc_17,fc_18,fc_19,fc_20,fc_53,fc_54,fc_55,fs_0,fs_17,fs_18,fs_19,fs_20,fs_53,fs_54,fs_55,fp_1,fp_21,fp_f,rb_1,rb_21,rb_0,fc_len,fc_ok,fc_id,fc_rs,v16,v32,cB_cells,fz_fc,fcF1,flL_fz,callable_7]
    tactic =>
    refine cl none (gfar) trivial ?_
    sym =>
    simp [Zaa,Zab,Zac,Zad,Zae,Zaf,Zak,Zal,Zam,Zao,Zaz,Za0,Za1,Za2,Za3,Za4,Za5,Za6,Za7,Za8,Za9,Zba,Zbb,Zbc,Zbd,Zbe,Zbf,Zbg,Zbk,Zbt,Zbu,Zb7,Zb9,Zcn,Zcv,Zcx,Zc3,Zc7,Zc8,Zdc,Zdd,Zde,Zdf,Zdg,Zdh,Zdi,Zdj,Zdk,Zdm,Zdo,Zdp,Zdq,Zdr,Zdt,Zdu,Zdv,Zdw,Zdx,Zdy,Zdz,Zd0,Zd1,Zd2,Zec,Zek,Zen,Zeq,Zet,Zev,Zew,Zex,Zez,Ze0,Ze1,Ze2,Ze3,Ze5,Ze8,Zfc,Zfd,Zfe,Zfh,Zfi,Zfj,Zfl,Zfn,Zfz,Zf0,Zf3,Zf6,Zgd,Zgg,Zgr,Zgs,Zgt,Zhb,Zhc,Zhd,Zhe,Zhf,Zh6,Zh7,Zin,Zio,Zip,Ziu,Ziv,Ziw,Zi6,Zjh,Zji,Zjw,Zj7,Zka,Zkv,Zky,Zk0,Zk1,Zk4,Zla,Zlb,Zle,Zlf,Zlh,Zll,Zlm,Zls,Zlz,Zl2,Zmt,Zmv,Zmw,Zmx,Zmz,Zm2,Zm5,Zm9,Zna,Znb,Zne,Znf,Zng,Zos,Zot,Zo3,Zo4,Zo6,Zo7,Zo8,Zo9,Zpc,eq_self,true_and,and_true,callable_8]
    tactic =>
    refine cl none (alive_con) trivial ?_
    sym =>
    simp [Zaa,Zab,Zac,Zad,Zae,Zaf,Zak,Zal,Zam,Zao,Zaz,Za0,Za1,Za2,Za3,Za4,Za5,Za6,Za7,Za8,Za9,Zba,Zbb,Zbc,Zbd,Zbe,Zbf,Zbg,Zbk,Zbt,Zbu,Zb7,Zb9,Zcn,Zcv,Zcx,Zc3,Zc7,Zc8,Zdc,Zdd,Zde,Zdf,Zdg,Zdh,Zdi,Zdj,Zdk,Zdm,Zdo,Zdp,Zdq,Zdr,Zdt,Zdu,Zdv,Zdw,Zdx,Zdy,Zdz,Zd0,Zd1,Zd2,Zec,Zek,Zen,Zeq,Zet,Zev,Zew,Zex,Zez,Ze0,Ze1,Ze2,Ze3,Ze5,Ze8,Zfc,Zfd,Zfe,Zfh,Zfi,Zfj,Zfl,Zfn,Zfz,Zf0,Zf3,Zf6,Zgd,Zgg,Zgr,Zgs,Zgt,Zhb,Zhc,Zhd,Zhe,Zhf,Zh6,Zh7,Zin,Zio,Zip,Ziu,Ziv,Ziw,Zi6,Zjh,Zji,Zjw,Zj7,Zka,Zkv,Zky,Zk0,Zk1,Zk4,Zla,Zlb,Zle,Zlf,Zlh,Zll,Zlm,Zls,Zlz,Zl2,Zmt,Zmv,Zmw,Zmx,Zmz,Zm2,Zm5,Zm9,Zna,Znb,Zne,Znf,Zng,Zos,Zot,Zo3,Zo4,Zo6,Zo7,Zo8,Zo9,Zpc,eq_self,true_and,and_true]
    tactic =>
    refine endA ?_
    sym =>
    simp [Zaa,Zab,Zac,Zad,Zae,Zaf,Zak,Zal,Zam,Zao,Zaz,Za0,Za1,Za2,Za3,Za4,Za5,Za6,Za7,Za8,Za9,Zba,Zbb,Zbc,Zbd,Zbe,Zbf,Zbg,Zbk,Zbt,Zbu,Zb7,Zb9,Zcn,Zcv,Zcx,Zc3,Zc7,Zc8,Zdc,Zdd,Zde,Zdf,Zdg,Zdh,Zdi,Zdj,Zdk,Zdm,Zdo,Zdp,Zdq,Zdr,Zdt,Zdu,Zdv,Zdw,Zdx,Zdy,Zdz,Zd0,Zd1,Zd2,Zec,Zek,Zen,Zeq,Zet,Zev,Zew,Zex,Zez,Ze0,Ze1,Ze2,Ze3,Ze5,Ze8,Zfc,Zfd,Zfe,Zfh,Zfi,Zfj,Zfl,Zfn,Zfz,Zf0,Zf3,Zf6,Zgd,Zgg,Zgr,Zgs,Zgt,Zhb,Zhc,Zhd,Zhe,Zhf,Zh6,Zh7,Zin,Zio,Zip,Ziu,Ziv,Ziw,Zi6,Zjh,Zji,Zjw,Zj7,Zka,Zkv,Zky,Zk0,Zk1,Zk4,Zla,Zlb,Zle,Zlf,Zlh,Zll,Zlm,Zls,Zlz,Zl2,Zmt,Zmv,Zmw,Zmx,Zmz,Zm2,Zm5,Zm9,Zna,Znb,Zne,Znf,Zng,Zos,Zot,Zo3,Zo4,Zo6,Zo7,Zo8,Zo9,Zpc,eq_self,true_and,and_true]
  have h' : farF g = false := by simpa using h
  obtain ⟨gd, gr⟩ := far_le h'
  rw [h'] at gfar
  clear h h'
  by_cases hbl : 1000 < b.length
  · have hbl' : IN b.length > (1000 : Int) := by simp only [IN]; omega
    obtain ⟨k, t, es, er, o, n, su, d, r, c⟩ := f
    obtain ⟨k', t', es', er', o', n', su', d', r', c'⟩ := g
    simp only [fr] at hfar gfar ⊢
    clear hf hg
    refine con_j b5 rfl ?_
    sym =>
    simp [Zaa,Zab,Zac,Zad,Zae,Zaf,Zak,Zal,Zam,Zao,Zaz,Za0,Za1,Za2,Za3,Za4,Za5,Za6,Za7,Za8,Za9,Zba,Zbb,Zbc,Zbd,Zbe,Zbf,Zbg,Zbk,Zbt,Zbu,Zb7,Zb9,Zcn,Zcv,Zcx,Zc3,Zc7,Zc8,Zdc,Zdd,Zde,Zdf,Zdg,Zdh,Zdi,Zdj,Zdk,Zdm,Zdo,Zdp,Zdq,Zdr,Zdt,Zdu,Zdv,Zdw,Zdx,Zdy,Zdz,Zd0,Zd1,Zd2,Zec,Zek,Zen,Zeq,Zet,Zev,Zew,Zex,Zez,Ze0,Ze1,Ze2,Ze3,Ze5,Ze8,Zfc,Zfd,Zfe,Zfh,Zfi,Zfj,Zfl,Zfn,Zfz,Zf0,Zf3,Zf6,Zgd,Zgg,Zgr,Zgs,Zgt,Zhb,Zhc,Zhd,Zhe,Zhf,Zh6,Zh7,Zin,Zio,Zip,Ziu,Ziv,Ziw,Zi6,Zjh,Zji,Zjw,Zj7,Zka,Zkv,Zky,Zk0,Zk1,Zk4,Zla,Zlb,Zle,Zlf,Zlh,Zll,Zlm,Zls,Zlz,Zl2,Zmt,Zmv,Zmw,Zmx,Zmz,Zm2,Zm5,Zm9,Zna,Znb,Zne,Znf,Zng,Zos,Zot,Zo3,Zo4,Zo6,Zo7,Zo8,Zo9,Zpc,eq_self,true_and,and_true,zF_fc,fc_0,fc_17,fc_18,fc_19,fc_20,fc_53,fc_54,fc_55,fs_0,fs_17,fs_18,fs_19,fs_20,fs_53,fs_54,fs_55,fp_1,fp_21,fp_f,rb_1,rb_21,rb_0,fc_len,fc_ok,fc_id,fc_rs,v16,v32,cB_cells,fz_fc,fcF1,flL_fz,callable_7]
    tactic =>
    refine cl none (hfar) trivial ?_
    sym =>
    simp [Zaa,Zab,Zac,Zad,Zae,Zaf,Zak,Zal,Zam,Zao,Zaz,Za0,Za1,Za2,Za3,Za4,Za5,Za6,Za7,Za8,Za9,Zba,Zbb,Zbc,Zbd,Zbe,Zbf,Zbg,Zbk,Zbt,Zbu,Zb7,Zb9,Zcn,Zcv,Zcx,Zc3,Zc7,Zc8,Zdc,Zdd,Zde,Zdf,Zdg,Zdh,Zdi,Zdj,Zdk,Zdm,Zdo,Zdp,Zdq,Zdr,Zdt,Zdu,Zdv,Zdw,Zdx,Zdy,Zdz,Zd0,Zd1,Zd2,Zec,Zek,Zen,Zeq,Zet,Zev,Zew,Zex,Zez,Ze0,Ze1,Ze2,Ze3,Ze5,Ze8,Zfc,Zfd,Zfe,Zfh,Zfi,Zfj,Zfl,Zfn,Zfz,Zf0,Zf3,Zf6,Zgd,Zgg,Zgr,Zgs,Zgt,Zhb,Zhc,Zhd,Zhe,Zhf,Zh6,Zh7,Zin,Zio,Zip,Ziu,Ziv,Ziw,Zi6,Zjh,Zji,Zjw,Zj7,Zka,Zkv,Zky,Zk0,Zk1,Zk4,Zla,Zlb,Zle,Zlf,Zlh,Zll,Zlm,Zls,Zlz,Zl2,Zmt,Zmv,Zmw,Zmx,Zmz,Zm2,Zm5,Zm9,Zna,Znb,Zne,Znf,Zng,Zos,Zot,Zo3,Zo4,Zo6,Zo7,Zo8,Zo9,Zpc,eq_self,true_and,and_true,zF_fc,fc_0,fc_17,fc_18,fc_19,fc_20,fc_53,fc_54,fc_55,fs_0,fs_17,fs_18,fs_19,fs_20,fs_53,fs_54,fs_55,fp_1,fp_21,fp_f,rb_1,rb_21,rb_0,fc_len,fc_ok,fc_id,fc_rs,v16,v32,cB_cells,fz_fc,fcF1,flL_fz,callable_7]
    tactic =>
    refine cl none (gfar) trivial ?_
    sym =>
    simp [Zaa,Zab,Zac,Zad,Zae,Zaf,Zak,Zal,Zam,Zao,Zaz,Za0,Za1,Za2,Za3,Za4,Za5,Za6,Za7,Za8,Za9,Zba,Zbb,Zbc,Zbd,Zbe,Zbf,Zbg,Zbk,Zbt,Zbu,Zb7,Zb9,Zcn,Zcv,Zcx,Zc3,Zc7,Zc8,Zdc,Zdd,Zde,Zdf,Zdg,Zdh,Zdi,Zdj,Zdk,Zdm,Zdo,Zdp,Zdq,Zdr,Zdt,Zdu,Zdv,Zdw,Zdx,Zdy,Zdz,Zd0,Zd1,Zd2,Zec,Zek,Zen,Zeq,Zet,Zev,Zew,Zex,Zez,Ze0,Ze1,Ze2,Ze3,Ze5,Ze8,Zfc,Zfd,Zfe,Zfh,Zfi,Zfj,Zfl,Zfn,Zfz,Zf0,Zf3,Zf6,Zgd,Zgg,Zgr,Zgs,Zgt,Zhb,Zhc,Zhd,Zhe,Zhf,Zh6,Zh7,Zin,Zio,Zip,Ziu,Ziv,Ziw,Zi6,Zjh,Zji,Zjw,Zj7,Zka,Zkv,Zky,Zk0,Zk1,Zk4,Zla,Zlb,Zle,Zlf,Zlh,Zll,Zlm,Zls,Zlz,Zl2,Zmt,Zmv,Zmw,Zmx,Zmz,Zm2,Zm5,Zm9,Zna,Znb,Zne,Znf,Zng,Zos,Zot,Zo3,Zo4,Zo6,Zo7,Zo8,Zo9,Zpc,eq_self,true_and,and_true,hbl',callable_8]
    tactic =>
    refine cl none (alive_con) trivial ?_
    sym =>
    simp [Zaa,Zab,Zac,Zad,Zae,Zaf,Zak,Zal,Zam,Zao,Zaz,Za0,Za1,Za2,Za3,Za4,Za5,Za6,Za7,Za8,Za9,Zba,Zbb,Zbc,Zbd,Zbe,Zbf,Zbg,Zbk,Zbt,Zbu,Zb7,Zb9,Zcn,Zcv,Zcx,Zc3,Zc7,Zc8,Zdc,Zdd,Zde,Zdf,Zdg,Zdh,Zdi,Zdj,Zdk,Zdm,Zdo,Zdp,Zdq,Zdr,Zdt,Zdu,Zdv,Zdw,Zdx,Zdy,Zdz,Zd0,Zd1,Zd2,Zec,Zek,Zen,Zeq,Zet,Zev,Zew,Zex,Zez,Ze0,Ze1,Ze2,Ze3,Ze5,Ze8,Zfc,Zfd,Zfe,Zfh,Zfi,Zfj,Zfl,Zfn,Zfz,Zf0,Zf3,Zf6,Zgd,Zgg,Zgr,Zgs,Zgt,Zhb,Zhc,Zhd,Zhe,Zhf,Zh6,Zh7,Zin,Zio,Zip,Ziu,Ziv,Ziw,Zi6,Zjh,Zji,Zjw,Zj7,Zka,Zkv,Zky,Zk0,Zk1,Zk4,Zla,Zlb,Zle,Zlf,Zlh,Zll,Zlm,Zls,Zlz,Zl2,Zmt,Zmv,Zmw,Zmx,Zmz,Zm2,Zm5,Zm9,Zna,Znb,Zne,Znf,Zng,Zos,Zot,Zo3,Zo4,Zo6,Zo7,Zo8,Zo9,Zpc,eq_self,true_and,and_true]
    tactic =>
    refine endA ?_
    sym =>
    simp [Zaa,Zab,Zac,Zad,Zae,Zaf,Zak,Zal,Zam,Zao,Zaz,Za0,Za1,Za2,Za3,Za4,Za5,Za6,Za7,Za8,Za9,Zba,Zbb,Zbc,Zbd,Zbe,Zbf,Zbg,Zbk,Zbt,Zbu,Zb7,Zb9,Zcn,Zcv,Zcx,Zc3,Zc7,Zc8,Zdc,Zdd,Zde,Zdf,Zdg,Zdh,Zdi,Zdj,Zdk,Zdm,Zdo,Zdp,Zdq,Zdr,Zdt,Zdu,Zdv,Zdw,Zdx,Zdy,Zdz,Zd0,Zd1,Zd2,Zec,Zek,Zen,Zeq,Zet,Zev,Zew,Zex,Zez,Ze0,Ze1,Ze2,Ze3,Ze5,Ze8,Zfc,Zfd,Zfe,Zfh,Zfi,Zfj,Zfl,Zfn,Zfz,Zf0,Zf3,Zf6,Zgd,Zgg,Zgr,Zgs,Zgt,Zhb,Zhc,Zhd,Zhe,Zhf,Zh6,Zh7,Zin,Zio,Zip,Ziu,Ziv,Ziw,Zi6,Zjh,Zji,Zjw,Zj7,Zka,Zkv,Zky,Zk0,Zk1,Zk4,Zla,Zlb,Zle,Zlf,Zlh,Zll,Zlm,Zls,Zlz,Zl2,Zmt,Zmv,Zmw,Zmx,Zmz,Zm2,Zm5,Zm9,Zna,Znb,Zne,Znf,Zng,Zos,Zot,Zo3,Zo4,Zo6,Zo7,Zo8,Zo9,Zpc,eq_self,true_and,and_true]
  have hbl' : ¬ IN b.length > (1000 : Int) := by simp only [IN]; omega
  have hth := theirs_con f (by omega)
  have gth := theirs_con g (by omega)
  have hsa := same_con f g (by omega) hf.2.2.1 hg.2.2.1
  have hrsa := rsame_con f g (by omega) (by omega)
  have hlay := flay_con f (by omega) (by omega) hf.1 hf.2.1 hf.2.2.1 hf.2.2.2.1 hf.2.2.2.2.1
  have hba := bare_con f (by omega) (by omega)
  have hbb := bare_byt f hf.2.1 hf.2.2.1
  have hbl2 := bare_len f
  have hsb := same_con (bare f) (bare f) (by omega) hbb.2 hbb.2
  rw [saF_self] at hsb
  have hpl := fparse_con (layF f).1 (layF_byt f hf) (Nat.le_trans (layF_len f hd hr) (by decide))
  have hb1 := back1 f hf
  have h2e : (layF f).2 = mayF f := by
    unfold layF
    split
    · rename_i h; exact h.symm
    · rfl
  obtain ⟨P1, P2, P3⟩ := psF_byt hb
  obtain ⟨K1, K2, K3, K4⟩ := psF_keeps hb
  have mp := fparse_con b hb (by omega)
  have mz := ps_err b
  have mzs := same_con (psF b).1 zFm (by omega) P1 (fun x hx => by cases hx)
  have mb : (psF b).2 = 0 → Con Try.prog 9 [] [.ag (fr (psF b).1)] [] (.tu [fB b, I 0]) := by
    intro he
    have := flay_con (psF b).1 (by omega) (by omega) K1 K2 P1 K3 K4
    rw [back2 b hb he] at this
    exact this
  have mns := nsame_con b b (by omega)
  rw [decide_eq_true rfl] at mns
  have mzz : (psF b).2 ≠ 0 → Con Try.prog 13 [] [.ag (fr (psF b).1), .ag (fr zFm)] [] (Bo true) := by
    intro he
    rw [mz he, saF_self] at mzs
    rw [mz he]
    exact mzs
  clear mz mzs
  obtain ⟨p, hp⟩ : ∃ p, p = (psF b).1 := ⟨_, rfl⟩
  obtain ⟨e, hee⟩ : ∃ e, e = (psF b).2 := ⟨_, rfl⟩
  rw [← hp, ← hee] at mp mzz mb
  clear hp hee P1 P2 P3 K1 K2 K3 K4 hf hg hbb hbl2
  rw [h2e] at hlay
  obtain ⟨M, hM⟩ : ∃ M, M = mayF f := ⟨_, rfl⟩
  rw [← hM] at hlay hb1
  obtain ⟨l, hl⟩ : ∃ l, l = (layF f).1 := ⟨_, rfl⟩
  rw [← hl] at hlay hpl hb1
  obtain ⟨G, hG⟩ : ∃ G, G = bare f := ⟨_, rfl⟩
  rw [← hG] at hba hsb hb1
  obtain ⟨w, hw⟩ : ∃ w, w = saF f g := ⟨_, rfl⟩
  rw [← hw] at hsa hrsa
  clear h2e hM hl hG hw
  have hww : (w == w) = true := by cases w <;> rfl
  by_cases h0 : M = 0
  · subst h0
    rw [hb1 rfl] at hpl
    simp only at hpl
    clear hb1
    obtain ⟨k, t, es, er, o, n, su, d, r, c⟩ := f
    obtain ⟨k', t', es', er', o', n', su', d', r', c'⟩ := g
    obtain ⟨k2, t2, es2, er2, o2, n2, su2, d2, r2, c2⟩ := G
    obtain ⟨k3, t3, es3, er3, o3, n3, su3, d3, r3, c3⟩ := p
    simp only [fr, zFm] at hfar gfar hth gth hsa hrsa hlay hpl hba hsb mp mzz mb ⊢
    refine con_j b5 rfl ?_
    sym =>
    simp [Zaa,Zab,Zac,Zad,Zae,Zaf,Zak,Zal,Zam,Zao,Zaz,Za0,Za1,Za2,Za3,Za4,Za5,Za6,Za7,Za8,Za9,Zba,Zbb,Zbc,Zbd,Zbe,Zbf,Zbg,Zbk,Zbt,Zbu,Zb7,Zb9,Zcn,Zcv,Zcx,Zc3,Zc7,Zc8,Zdc,Zdd,Zde,Zdf,Zdg,Zdh,Zdi,Zdj,Zdk,Zdm,Zdo,Zdp,Zdq,Zdr,Zdt,Zdu,Zdv,Zdw,Zdx,Zdy,Zdz,Zd0,Zd1,Zd2,Zec,Zek,Zen,Zeq,Zet,Zev,Zew,Zex,Zez,Ze0,Ze1,Ze2,Ze3,Ze5,Ze8,Zfc,Zfd,Zfe,Zfh,Zfi,Zfj,Zfl,Zfn,Zfz,Zf0,Zf3,Zf6,Zgd,Zgg,Zgr,Zgs,Zgt,Zhb,Zhc,Zhd,Zhe,Zhf,Zh6,Zh7,Zin,Zio,Zip,Ziu,Ziv,Ziw,Zi6,Zjh,Zji,Zjw,Zj7,Zka,Zkv,Zky,Zk0,Zk1,Zk4,Zla,Zlb,Zle,Zlf,Zlh,Zll,Zlm,Zls,Zlz,Zl2,Zmt,Zmv,Zmw,Zmx,Zmz,Zm2,Zm5,Zm9,Zna,Znb,Zne,Znf,Zng,Zos,Zot,Zo3,Zo4,Zo6,Zo7,Zo8,Zo9,Zpc,eq_self,true_and,and_true,zF_fc,fc_0,fc_17,fc_18,fc_19,fc_20,fc_53,fc_54,fc_55,fs_0,fs_17,fs_18,fs_19,fs_20,fs_53,fs_54,fs_55,fp_1,fp_21,fp_f,rb_1,rb_21,rb_0,fc_len,fc_ok,fc_id,fc_rs,v16,v32,cB_cells,fz_fc,fcF1,flL_fz,callable_7]
    tactic =>
    refine cl none (hfar) trivial ?_
    sym =>
    simp [Zaa,Zab,Zac,Zad,Zae,Zaf,Zak,Zal,Zam,Zao,Zaz,Za0,Za1,Za2,Za3,Za4,Za5,Za6,Za7,Za8,Za9,Zba,Zbb,Zbc,Zbd,Zbe,Zbf,Zbg,Zbk,Zbt,Zbu,Zb7,Zb9,Zcn,Zcv,Zcx,Zc3,Zc7,Zc8,Zdc,Zdd,Zde,Zdf,Zdg,Zdh,Zdi,Zdj,Zdk,Zdm,Zdo,Zdp,Zdq,Zdr,Zdt,Zdu,Zdv,Zdw,Zdx,Zdy,Zdz,Zd0,Zd1,Zd2,Zec,Zek,Zen,Zeq,Zet,Zev,Zew,Zex,Zez,Ze0,Ze1,Ze2,Ze3,Ze5,Ze8,Zfc,Zfd,Zfe,Zfh,Zfi,Zfj,Zfl,Zfn,Zfz,Zf0,Zf3,Zf6,Zgd,Zgg,Zgr,Zgs,Zgt,Zhb,Zhc,Zhd,Zhe,Zhf,Zh6,Zh7,Zin,Zio,Zip,Ziu,Ziv,Ziw,Zi6,Zjh,Zji,Zjw,Zj7,Zka,Zkv,Zky,Zk0,Zk1,Zk4,Zla,Zlb,Zle,Zlf,Zlh,Zll,Zlm,Zls,Zlz,Zl2,Zmt,Zmv,Zmw,Zmx,Zmz,Zm2,Zm5,Zm9,Zna,Znb,Zne,Znf,Zng,Zos,Zot,Zo3,Zo4,Zo6,Zo7,Zo8,Zo9,Zpc,eq_self,true_and,and_true,zF_fc,fc_0,fc_17,fc_18,fc_19,fc_20,fc_53,fc_54,fc_55,fs_0,fs_17,fs_18,fs_19,fs_20,fs_53,fs_54,fs_55,fp_1,fp_21,fp_f,rb_1,rb_21,rb_0,fc_len,fc_ok,fc_id,fc_rs,v16,v32,cB_cells,fz_fc,fcF1,flL_fz,callable_7]
    tactic =>
    refine cl none (gfar) trivial ?_
    sym =>
    simp [Zaa,Zab,Zac,Zad,Zae,Zaf,Zak,Zal,Zam,Zao,Zaz,Za0,Za1,Za2,Za3,Za4,Za5,Za6,Za7,Za8,Za9,Zba,Zbb,Zbc,Zbd,Zbe,Zbf,Zbg,Zbk,Zbt,Zbu,Zb7,Zb9,Zcn,Zcv,Zcx,Zc3,Zc7,Zc8,Zdc,Zdd,Zde,Zdf,Zdg,Zdh,Zdi,Zdj,Zdk,Zdm,Zdo,Zdp,Zdq,Zdr,Zdt,Zdu,Zdv,Zdw,Zdx,Zdy,Zdz,Zd0,Zd1,Zd2,Zec,Zek,Zen,Zeq,Zet,Zev,Zew,Zex,Zez,Ze0,Ze1,Ze2,Ze3,Ze5,Ze8,Zfc,Zfd,Zfe,Zfh,Zfi,Zfj,Zfl,Zfn,Zfz,Zf0,Zf3,Zf6,Zgd,Zgg,Zgr,Zgs,Zgt,Zhb,Zhc,Zhd,Zhe,Zhf,Zh6,Zh7,Zin,Zio,Zip,Ziu,Ziv,Ziw,Zi6,Zjh,Zji,Zjw,Zj7,Zka,Zkv,Zky,Zk0,Zk1,Zk4,Zla,Zlb,Zle,Zlf,Zlh,Zll,Zlm,Zls,Zlz,Zl2,Zmt,Zmv,Zmw,Zmx,Zmz,Zm2,Zm5,Zm9,Zna,Znb,Zne,Znf,Zng,Zos,Zot,Zo3,Zo4,Zo6,Zo7,Zo8,Zo9,Zpc,eq_self,true_and,and_true,zF_fc,fc_0,fc_17,fc_18,fc_19,fc_20,fc_53,fc_54,fc_55,fs_0,fs_17,fs_18,fs_19,fs_20,fs_53,fs_54,fs_55,fp_1,fp_21,fp_f,rb_1,rb_21,rb_0,fc_len,fc_ok,fc_id,fc_rs,v16,v32,cB_cells,fz_fc,fcF1,flL_fz,hbl',callable_10]
    tactic =>
    refine cl none (hth) trivial ?_
    sym =>
    simp [Zaa,Zab,Zac,Zad,Zae,Zaf,Zak,Zal,Zam,Zao,Zaz,Za0,Za1,Za2,Za3,Za4,Za5,Za6,Za7,Za8,Za9,Zba,Zbb,Zbc,Zbd,Zbe,Zbf,Zbg,Zbk,Zbt,Zbu,Zb7,Zb9,Zcn,Zcv,Zcx,Zc3,Zc7,Zc8,Zdc,Zdd,Zde,Zdf,Zdg,Zdh,Zdi,Zdj,Zdk,Zdm,Zdo,Zdp,Zdq,Zdr,Zdt,Zdu,Zdv,Zdw,Zdx,Zdy,Zdz,Zd0,Zd1,Zd2,Zec,Zek,Zen,Zeq,Zet,Zev,Zew,Zex,Zez,Ze0,Ze1,Ze2,Ze3,Ze5,Ze8,Zfc,Zfd,Zfe,Zfh,Zfi,Zfj,Zfl,Zfn,Zfz,Zf0,Zf3,Zf6,Zgd,Zgg,Zgr,Zgs,Zgt,Zhb,Zhc,Zhd,Zhe,Zhf,Zh6,Zh7,Zin,Zio,Zip,Ziu,Ziv,Ziw,Zi6,Zjh,Zji,Zjw,Zj7,Zka,Zkv,Zky,Zk0,Zk1,Zk4,Zla,Zlb,Zle,Zlf,Zlh,Zll,Zlm,Zls,Zlz,Zl2,Zmt,Zmv,Zmw,Zmx,Zmz,Zm2,Zm5,Zm9,Zna,Znb,Zne,Znf,Zng,Zos,Zot,Zo3,Zo4,Zo6,Zo7,Zo8,Zo9,Zpc,eq_self,true_and,and_true,zF_fc,fc_0,fc_17,fc_18,fc_19,fc_20,fc_53,fc_54,fc_55,fs_0,fs_17,fs_18,fs_19,fs_20,fs_53,fs_54,fs_55,fp_1,fp_21,fp_f,rb_1,rb_21,rb_0,fc_len,fc_ok,fc_id,fc_rs,v16,v32,cB_cells,fz_fc,fcF1,flL_fz,callable_10]
    tactic =>
    refine cl none (gth) trivial ?_
    sym =>
    simp [Zaa,Zab,Zac,Zad,Zae,Zaf,Zak,Zal,Zam,Zao,Zaz,Za0,Za1,Za2,Za3,Za4,Za5,Za6,Za7,Za8,Za9,Zba,Zbb,Zbc,Zbd,Zbe,Zbf,Zbg,Zbk,Zbt,Zbu,Zb7,Zb9,Zcn,Zcv,Zcx,Zc3,Zc7,Zc8,Zdc,Zdd,Zde,Zdf,Zdg,Zdh,Zdi,Zdj,Zdk,Zdm,Zdo,Zdp,Zdq,Zdr,Zdt,Zdu,Zdv,Zdw,Zdx,Zdy,Zdz,Zd0,Zd1,Zd2,Zec,Zek,Zen,Zeq,Zet,Zev,Zew,Zex,Zez,Ze0,Ze1,Ze2,Ze3,Ze5,Ze8,Zfc,Zfd,Zfe,Zfh,Zfi,Zfj,Zfl,Zfn,Zfz,Zf0,Zf3,Zf6,Zgd,Zgg,Zgr,Zgs,Zgt,Zhb,Zhc,Zhd,Zhe,Zhf,Zh6,Zh7,Zin,Zio,Zip,Ziu,Ziv,Ziw,Zi6,Zjh,Zji,Zjw,Zj7,Zka,Zkv,Zky,Zk0,Zk1,Zk4,Zla,Zlb,Zle,Zlf,Zlh,Zll,Zlm,Zls,Zlz,Zl2,Zmt,Zmv,Zmw,Zmx,Zmz,Zm2,Zm5,Zm9,Zna,Znb,Zne,Znf,Zng,Zos,Zot,Zo3,Zo4,Zo6,Zo7,Zo8,Zo9,Zpc,eq_self,true_and,and_true,zF_fc,fc_0,fc_17,fc_18,fc_19,fc_20,fc_53,fc_54,fc_55,fs_0,fs_17,fs_18,fs_19,fs_20,fs_53,fs_54,fs_55,fp_1,fp_21,fp_f,rb_1,rb_21,rb_0,fc_len,fc_ok,fc_id,fc_rs,v16,v32,cB_cells,fz_fc,fcF1,flL_fz,callable_13]
    tactic =>
    refine cl none (hsa) trivial ?_
    sym =>
    simp [Zaa,Zab,Zac,Zad,Zae,Zaf,Zak,Zal,Zam,Zao,Zaz,Za0,Za1,Za2,Za3,Za4,Za5,Za6,Za7,Za8,Za9,Zba,Zbb,Zbc,Zbd,Zbe,Zbf,Zbg,Zbk,Zbt,Zbu,Zb7,Zb9,Zcn,Zcv,Zcx,Zc3,Zc7,Zc8,Zdc,Zdd,Zde,Zdf,Zdg,Zdh,Zdi,Zdj,Zdk,Zdm,Zdo,Zdp,Zdq,Zdr,Zdt,Zdu,Zdv,Zdw,Zdx,Zdy,Zdz,Zd0,Zd1,Zd2,Zec,Zek,Zen,Zeq,Zet,Zev,Zew,Zex,Zez,Ze0,Ze1,Ze2,Ze3,Ze5,Ze8,Zfc,Zfd,Zfe,Zfh,Zfi,Zfj,Zfl,Zfn,Zfz,Zf0,Zf3,Zf6,Zgd,Zgg,Zgr,Zgs,Zgt,Zhb,Zhc,Zhd,Zhe,Zhf,Zh6,Zh7,Zin,Zio,Zip,Ziu,Ziv,Ziw,Zi6,Zjh,Zji,Zjw,Zj7,Zka,Zkv,Zky,Zk0,Zk1,Zk4,Zla,Zlb,Zle,Zlf,Zlh,Zll,Zlm,Zls,Zlz,Zl2,Zmt,Zmv,Zmw,Zmx,Zmz,Zm2,Zm5,Zm9,Zna,Znb,Zne,Znf,Zng,Zos,Zot,Zo3,Zo4,Zo6,Zo7,Zo8,Zo9,Zpc,eq_self,true_and,and_true,zF_fc,fc_0,fc_17,fc_18,fc_19,fc_20,fc_53,fc_54,fc_55,fs_0,fs_17,fs_18,fs_19,fs_20,fs_53,fs_54,fs_55,fp_1,fp_21,fp_f,rb_1,rb_21,rb_0,fc_len,fc_ok,fc_id,fc_rs,v16,v32,cB_cells,fz_fc,fcF1,flL_fz,callable_21]
    tactic =>
    refine cl none (hrsa) trivial ?_
    sym =>
    simp [Zaa,Zab,Zac,Zad,Zae,Zaf,Zak,Zal,Zam,Zao,Zaz,Za0,Za1,Za2,Za3,Za4,Za5,Za6,Za7,Za8,Za9,Zba,Zbb,Zbc,Zbd,Zbe,Zbf,Zbg,Zbk,Zbt,Zbu,Zb7,Zb9,Zcn,Zcv,Zcx,Zc3,Zc7,Zc8,Zdc,Zdd,Zde,Zdf,Zdg,Zdh,Zdi,Zdj,Zdk,Zdm,Zdo,Zdp,Zdq,Zdr,Zdt,Zdu,Zdv,Zdw,Zdx,Zdy,Zdz,Zd0,Zd1,Zd2,Zec,Zek,Zen,Zeq,Zet,Zev,Zew,Zex,Zez,Ze0,Ze1,Ze2,Ze3,Ze5,Ze8,Zfc,Zfd,Zfe,Zfh,Zfi,Zfj,Zfl,Zfn,Zfz,Zf0,Zf3,Zf6,Zgd,Zgg,Zgr,Zgs,Zgt,Zhb,Zhc,Zhd,Zhe,Zhf,Zh6,Zh7,Zin,Zio,Zip,Ziu,Ziv,Ziw,Zi6,Zjh,Zji,Zjw,Zj7,Zka,Zkv,Zky,Zk0,Zk1,Zk4,Zla,Zlb,Zle,Zlf,Zlh,Zll,Zlm,Zls,Zlz,Zl2,Zmt,Zmv,Zmw,Zmx,Zmz,Zm2,Zm5,Zm9,Zna,Znb,Zne,Znf,Zng,Zos,Zot,Zo3,Zo4,Zo6,Zo7,Zo8,Zo9,Zpc,eq_self,true_and,and_true,zF_fc,fc_0,fc_17,fc_18,fc_19,fc_20,fc_53,fc_54,fc_55,fs_0,fs_17,fs_18,fs_19,fs_20,fs_53,fs_54,fs_55,fp_1,fp_21,fp_f,rb_1,rb_21,rb_0,fc_len,fc_ok,fc_id,fc_rs,v16,v32,cB_cells,fz_fc,fcF1,flL_fz,hww,callable_10]
    tactic =>
    refine cl none (hth) trivial ?_
    sym =>
    simp [Zaa,Zab,Zac,Zad,Zae,Zaf,Zak,Zal,Zam,Zao,Zaz,Za0,Za1,Za2,Za3,Za4,Za5,Za6,Za7,Za8,Za9,Zba,Zbb,Zbc,Zbd,Zbe,Zbf,Zbg,Zbk,Zbt,Zbu,Zb7,Zb9,Zcn,Zcv,Zcx,Zc3,Zc7,Zc8,Zdc,Zdd,Zde,Zdf,Zdg,Zdh,Zdi,Zdj,Zdk,Zdm,Zdo,Zdp,Zdq,Zdr,Zdt,Zdu,Zdv,Zdw,Zdx,Zdy,Zdz,Zd0,Zd1,Zd2,Zec,Zek,Zen,Zeq,Zet,Zev,Zew,Zex,Zez,Ze0,Ze1,Ze2,Ze3,Ze5,Ze8,Zfc,Zfd,Zfe,Zfh,Zfi,Zfj,Zfl,Zfn,Zfz,Zf0,Zf3,Zf6,Zgd,Zgg,Zgr,Zgs,Zgt,Zhb,Zhc,Zhd,Zhe,Zhf,Zh6,Zh7,Zin,Zio,Zip,Ziu,Ziv,Ziw,Zi6,Zjh,Zji,Zjw,Zj7,Zka,Zkv,Zky,Zk0,Zk1,Zk4,Zla,Zlb,Zle,Zlf,Zlh,Zll,Zlm,Zls,Zlz,Zl2,Zmt,Zmv,Zmw,Zmx,Zmz,Zm2,Zm5,Zm9,Zna,Znb,Zne,Znf,Zng,Zos,Zot,Zo3,Zo4,Zo6,Zo7,Zo8,Zo9,Zpc,eq_self,true_and,and_true,zF_fc,fc_0,fc_17,fc_18,fc_19,fc_20,fc_53,fc_54,fc_55,fs_0,fs_17,fs_18,fs_19,fs_20,fs_53,fs_54,fs_55,fp_1,fp_21,fp_f,rb_1,rb_21,rb_0,fc_len,fc_ok,fc_id,fc_rs,v16,v32,cB_cells,fz_fc,fcF1,flL_fz,callable_9]
    tactic =>
    refine cl none (hlay) trivial ?_
    sym =>
    simp [Zaa,Zab,Zac,Zad,Zae,Zaf,Zak,Zal,Zam,Zao,Zaz,Za0,Za1,Za2,Za3,Za4,Za5,Za6,Za7,Za8,Za9,Zba,Zbb,Zbc,Zbd,Zbe,Zbf,Zbg,Zbk,Zbt,Zbu,Zb7,Zb9,Zcn,Zcv,Zcx,Zc3,Zc7,Zc8,Zdc,Zdd,Zde,Zdf,Zdg,Zdh,Zdi,Zdj,Zdk,Zdm,Zdo,Zdp,Zdq,Zdr,Zdt,Zdu,Zdv,Zdw,Zdx,Zdy,Zdz,Zd0,Zd1,Zd2,Zec,Zek,Zen,Zeq,Zet,Zev,Zew,Zex,Zez,Ze0,Ze1,Ze2,Ze3,Ze5,Ze8,Zfc,Zfd,Zfe,Zfh,Zfi,Zfj,Zfl,Zfn,Zfz,Zf0,Zf3,Zf6,Zgd,Zgg,Zgr,Zgs,Zgt,Zhb,Zhc,Zhd,Zhe,Zhf,Zh6,Zh7,Zin,Zio,Zip,Ziu,Ziv,Ziw,Zi6,Zjh,Zji,Zjw,Zj7,Zka,Zkv,Zky,Zk0,Zk1,Zk4,Zla,Zlb,Zle,Zlf,Zlh,Zll,Zlm,Zls,Zlz,Zl2,Zmt,Zmv,Zmw,Zmx,Zmz,Zm2,Zm5,Zm9,Zna,Znb,Zne,Znf,Zng,Zos,Zot,Zo3,Zo4,Zo6,Zo7,Zo8,Zo9,Zpc,eq_self,true_and,and_true,zF_fc,fc_0,fc_17,fc_18,fc_19,fc_20,fc_53,fc_54,fc_55,fs_0,fs_17,fs_18,fs_19,fs_20,fs_53,fs_54,fs_55,fp_1,fp_21,fp_f,rb_1,rb_21,rb_0,fc_len,fc_ok,fc_id,fc_rs,v16,v32,cB_cells,fz_fc,fcF1,flL_fz,callable_19]
    tactic =>
    refine cl none (hpl) trivial ?_
    sym =>
    simp [Zaa,Zab,Zac,Zad,Zae,Zaf,Zak,Zal,Zam,Zao,Zaz,Za0,Za1,Za2,Za3,Za4,Za5,Za6,Za7,Za8,Za9,Zba,Zbb,Zbc,Zbd,Zbe,Zbf,Zbg,Zbk,Zbt,Zbu,Zb7,Zb9,Zcn,Zcv,Zcx,Zc3,Zc7,Zc8,Zdc,Zdd,Zde,Zdf,Zdg,Zdh,Zdi,Zdj,Zdk,Zdm,Zdo,Zdp,Zdq,Zdr,Zdt,Zdu,Zdv,Zdw,Zdx,Zdy,Zdz,Zd0,Zd1,Zd2,Zec,Zek,Zen,Zeq,Zet,Zev,Zew,Zex,Zez,Ze0,Ze1,Ze2,Ze3,Ze5,Ze8,Zfc,Zfd,Zfe,Zfh,Zfi,Zfj,Zfl,Zfn,Zfz,Zf0,Zf3,Zf6,Zgd,Zgg,Zgr,Zgs,Zgt,Zhb,Zhc,Zhd,Zhe,Zhf,Zh6,Zh7,Zin,Zio,Zip,Ziu,Ziv,Ziw,Zi6,Zjh,Zji,Zjw,Zj7,Zka,Zkv,Zky,Zk0,Zk1,Zk4,Zla,Zlb,Zle,Zlf,Zlh,Zll,Zlm,Zls,Zlz,Zl2,Zmt,Zmv,Zmw,Zmx,Zmz,Zm2,Zm5,Zm9,Zna,Znb,Zne,Znf,Zng,Zos,Zot,Zo3,Zo4,Zo6,Zo7,Zo8,Zo9,Zpc,eq_self,true_and,and_true,zF_fc,fc_0,fc_17,fc_18,fc_19,fc_20,fc_53,fc_54,fc_55,fs_0,fs_17,fs_18,fs_19,fs_20,fs_53,fs_54,fs_55,fp_1,fp_21,fp_f,rb_1,rb_21,rb_0,fc_len,fc_ok,fc_id,fc_rs,v16,v32,cB_cells,fz_fc,fcF1,flL_fz,callable_10]
    tactic =>
    refine cl none (hth) trivial ?_
    sym =>
    simp [Zaa,Zab,Zac,Zad,Zae,Zaf,Zak,Zal,Zam,Zao,Zaz,Za0,Za1,Za2,Za3,Za4,Za5,Za6,Za7,Za8,Za9,Zba,Zbb,Zbc,Zbd,Zbe,Zbf,Zbg,Zbk,Zbt,Zbu,Zb7,Zb9,Zcn,Zcv,Zcx,Zc3,Zc7,Zc8,Zdc,Zdd,Zde,Zdf,Zdg,Zdh,Zdi,Zdj,Zdk,Zdm,Zdo,Zdp,Zdq,Zdr,Zdt,Zdu,Zdv,Zdw,Zdx,Zdy,Zdz,Zd0,Zd1,Zd2,Zec,Zek,Zen,Zeq,Zet,Zev,Zew,Zex,Zez,Ze0,Ze1,Ze2,Ze3,Ze5,Ze8,Zfc,Zfd,Zfe,Zfh,Zfi,Zfj,Zfl,Zfn,Zfz,Zf0,Zf3,Zf6,Zgd,Zgg,Zgr,Zgs,Zgt,Zhb,Zhc,Zhd,Zhe,Zhf,Zh6,Zh7,Zin,Zio,Zip,Ziu,Ziv,Ziw,Zi6,Zjh,Zji,Zjw,Zj7,Zka,Zkv,Zky,Zk0,Zk1,Zk4,Zla,Zlb,Zle,Zlf,Zlh,Zll,Zlm,Zls,Zlz,Zl2,Zmt,Zmv,Zmw,Zmx,Zmz,Zm2,Zm5,Zm9,Zna,Znb,Zne,Znf,Zng,Zos,Zot,Zo3,Zo4,Zo6,Zo7,Zo8,Zo9,Zpc,eq_self,true_and,and_true,zF_fc,fc_0,fc_17,fc_18,fc_19,fc_20,fc_53,fc_54,fc_55,fs_0,fs_17,fs_18,fs_19,fs_20,fs_53,fs_54,fs_55,fp_1,fp_21,fp_f,rb_1,rb_21,rb_0,fc_len,fc_ok,fc_id,fc_rs,v16,v32,cB_cells,fz_fc,fcF1,flL_fz,callable_14]
    tactic =>
    refine cl none (hba) trivial ?_
    sym =>
    simp [Zaa,Zab,Zac,Zad,Zae,Zaf,Zak,Zal,Zam,Zao,Zaz,Za0,Za1,Za2,Za3,Za4,Za5,Za6,Za7,Za8,Za9,Zba,Zbb,Zbc,Zbd,Zbe,Zbf,Zbg,Zbk,Zbt,Zbu,Zb7,Zb9,Zcn,Zcv,Zcx,Zc3,Zc7,Zc8,Zdc,Zdd,Zde,Zdf,Zdg,Zdh,Zdi,Zdj,Zdk,Zdm,Zdo,Zdp,Zdq,Zdr,Zdt,Zdu,Zdv,Zdw,Zdx,Zdy,Zdz,Zd0,Zd1,Zd2,Zec,Zek,Zen,Zeq,Zet,Zev,Zew,Zex,Zez,Ze0,Ze1,Ze2,Ze3,Ze5,Ze8,Zfc,Zfd,Zfe,Zfh,Zfi,Zfj,Zfl,Zfn,Zfz,Zf0,Zf3,Zf6,Zgd,Zgg,Zgr,Zgs,Zgt,Zhb,Zhc,Zhd,Zhe,Zhf,Zh6,Zh7,Zin,Zio,Zip,Ziu,Ziv,Ziw,Zi6,Zjh,Zji,Zjw,Zj7,Zka,Zkv,Zky,Zk0,Zk1,Zk4,Zla,Zlb,Zle,Zlf,Zlh,Zll,Zlm,Zls,Zlz,Zl2,Zmt,Zmv,Zmw,Zmx,Zmz,Zm2,Zm5,Zm9,Zna,Znb,Zne,Znf,Zng,Zos,Zot,Zo3,Zo4,Zo6,Zo7,Zo8,Zo9,Zpc,eq_self,true_and,and_true,zF_fc,fc_0,fc_17,fc_18,fc_19,fc_20,fc_53,fc_54,fc_55,fs_0,fs_17,fs_18,fs_19,fs_20,fs_53,fs_54,fs_55,fp_1,fp_21,fp_f,rb_1,rb_21,rb_0,fc_len,fc_ok,fc_id,fc_rs,v16,v32,cB_cells,fz_fc,fcF1,flL_fz,callable_13]
    tactic =>
    refine cl none (hsb) trivial ?_
    sym =>
    simp [Zaa,Zab,Zac,Zad,Zae,Zaf,Zak,Zal,Zam,Zao,Zaz,Za0,Za1,Za2,Za3,Za4,Za5,Za6,Za7,Za8,Za9,Zba,Zbb,Zbc,Zbd,Zbe,Zbf,Zbg,Zbk,Zbt,Zbu,Zb7,Zb9,Zcn,Zcv,Zcx,Zc3,Zc7,Zc8,Zdc,Zdd,Zde,Zdf,Zdg,Zdh,Zdi,Zdj,Zdk,Zdm,Zdo,Zdp,Zdq,Zdr,Zdt,Zdu,Zdv,Zdw,Zdx,Zdy,Zdz,Zd0,Zd1,Zd2,Zec,Zek,Zen,Zeq,Zet,Zev,Zew,Zex,Zez,Ze0,Ze1,Ze2,Ze3,Ze5,Ze8,Zfc,Zfd,Zfe,Zfh,Zfi,Zfj,Zfl,Zfn,Zfz,Zf0,Zf3,Zf6,Zgd,Zgg,Zgr,Zgs,Zgt,Zhb,Zhc,Zhd,Zhe,Zhf,Zh6,Zh7,Zin,Zio,Zip,Ziu,Ziv,Ziw,Zi6,Zjh,Zji,Zjw,Zj7,Zka,Zkv,Zky,Zk0,Zk1,Zk4,Zla,Zlb,Zle,Zlf,Zlh,Zll,Zlm,Zls,Zlz,Zl2,Zmt,Zmv,Zmw,Zmx,Zmz,Zm2,Zm5,Zm9,Zna,Znb,Zne,Znf,Zng,Zos,Zot,Zo3,Zo4,Zo6,Zo7,Zo8,Zo9,Zpc,eq_self,true_and,and_true]
    tactic =>
    sym =>
    simp [Zaa,Zab,Zac,Zad,Zae,Zaf,Zak,Zal,Zam,Zao,Zaz,Za0,Za1,Za2,Za3,Za4,Za5,Za6,Za7,Za8,Za9,Zba,Zbb,Zbc,Zbd,Zbe,Zbf,Zbg,Zbk,Zbt,Zbu,Zb7,Zb9,Zcn,Zcv,Zcx,Zc3,Zc7,Zc8,Zdc,Zdd,Zde,Zdf,Zdg,Zdh,Zdi,Zdj,Zdk,Zdm,Zdo,Zdp,Zdq,Zdr,Zdt,Zdu,Zdv,Zdw,Zdx,Zdy,Zdz,Zd0,Zd1,Zd2,Zec,Zek,Zen,Zeq,Zet,Zev,Zew,Zex,Zez,Ze0,Ze1,Ze2,Ze3,Ze5,Ze8,Zfc,Zfd,Zfe,Zfh,Zfi,Zfj,Zfl,Zfn,Zfz,Zf0,Zf3,Zf6,Zgd,Zgg,Zgr,Zgs,Zgt,Zhb,Zhc,Zhd,Zhe,Zhf,Zh6,Zh7,Zin,Zio,Zip,Ziu,Ziv,Ziw,Zi6,Zjh,Zji,Zjw,Zj7,Zka,Zkv,Zky,Zk0,Zk1,Zk4,Zla,Zlb,Zle,Zlf,Zlh,Zll,Zlm,Zls,Zlz,Zl2,Zmt,Zmv,Zmw,Zmx,Zmz,Zm2,Zm5,Zm9,Zna,Znb,Zne,Znf,Zng,Zos,Zot,Zo3,Zo4,Zo6,Zo7,Zo8,Zo9,Zpc,eq_self,true_and,and_true,zF_fc,fc_0,fc_17,fc_18,fc_19,fc_20,fc_53,fc_54,fc_55,fs_0,fs_17,fs_18,fs_19,fs_20,fs_53,fs_54,fs_55,fp_1,fp_21,fp_f,rb_1,rb_21,rb_0,fc_len,fc_ok,fc_id,fc_rs,v16,v32,cB_cells,fz_fc,fcF1,flL_fz,callable_19]
    tactic =>
    refine cl none (mp) trivial ?_
    by_cases he : e = 0
    rotate_left
    · have hz := mzz he
      sym =>
      simp [Zaa,Zab,Zac,Zad,Zae,Zaf,Zak,Zal,Zam,Zao,Zaz,Za0,Za1,Za2,Za3,Za4,Za5,Za6,Za7,Za8,Za9,Zba,Zbb,Zbc,Zbd,Zbe,Zbf,Zbg,Zbk,Zbt,Zbu,Zb7,Zb9,Zcn,Zcv,Zcx,Zc3,Zc7,Zc8,Zdc,Zdd,Zde,Zdf,Zdg,Zdh,Zdi,Zdj,Zdk,Zdm,Zdo,Zdp,Zdq,Zdr,Zdt,Zdu,Zdv,Zdw,Zdx,Zdy,Zdz,Zd0,Zd1,Zd2,Zec,Zek,Zen,Zeq,Zet,Zev,Zew,Zex,Zez,Ze0,Ze1,Ze2,Ze3,Ze5,Ze8,Zfc,Zfd,Zfe,Zfh,Zfi,Zfj,Zfl,Zfn,Zfz,Zf0,Zf3,Zf6,Zgd,Zgg,Zgr,Zgs,Zgt,Zhb,Zhc,Zhd,Zhe,Zhf,Zh6,Zh7,Zin,Zio,Zip,Ziu,Ziv,Ziw,Zi6,Zjh,Zji,Zjw,Zj7,Zka,Zkv,Zky,Zk0,Zk1,Zk4,Zla,Zlb,Zle,Zlf,Zlh,Zll,Zlm,Zls,Zlz,Zl2,Zmt,Zmv,Zmw,Zmx,Zmz,Zm2,Zm5,Zm9,Zna,Znb,Zne,Znf,Zng,Zos,Zot,Zo3,Zo4,Zo6,Zo7,Zo8,Zo9,Zpc,eq_self,true_and,and_true,zF_fc,fc_0,fc_17,fc_18,fc_19,fc_20,fc_53,fc_54,fc_55,fs_0,fs_17,fs_18,fs_19,fs_20,fs_53,fs_54,fs_55,fp_1,fp_21,fp_f,rb_1,rb_21,rb_0,fc_len,fc_ok,fc_id,fc_rs,v16,v32,cB_cells,fz_fc,fcF1,flL_fz,he,callable_13]
      tactic =>
      refine cl none (hz) trivial ?_
      sym =>
      simp [Zaa,Zab,Zac,Zad,Zae,Zaf,Zak,Zal,Zam,Zao,Zaz,Za0,Za1,Za2,Za3,Za4,Za5,Za6,Za7,Za8,Za9,Zba,Zbb,Zbc,Zbd,Zbe,Zbf,Zbg,Zbk,Zbt,Zbu,Zb7,Zb9,Zcn,Zcv,Zcx,Zc3,Zc7,Zc8,Zdc,Zdd,Zde,Zdf,Zdg,Zdh,Zdi,Zdj,Zdk,Zdm,Zdo,Zdp,Zdq,Zdr,Zdt,Zdu,Zdv,Zdw,Zdx,Zdy,Zdz,Zd0,Zd1,Zd2,Zec,Zek,Zen,Zeq,Zet,Zev,Zew,Zex,Zez,Ze0,Ze1,Ze2,Ze3,Ze5,Ze8,Zfc,Zfd,Zfe,Zfh,Zfi,Zfj,Zfl,Zfn,Zfz,Zf0,Zf3,Zf6,Zgd,Zgg,Zgr,Zgs,Zgt,Zhb,Zhc,Zhd,Zhe,Zhf,Zh6,Zh7,Zin,Zio,Zip,Ziu,Ziv,Ziw,Zi6,Zjh,Zji,Zjw,Zj7,Zka,Zkv,Zky,Zk0,Zk1,Zk4,Zla,Zlb,Zle,Zlf,Zlh,Zll,Zlm,Zls,Zlz,Zl2,Zmt,Zmv,Zmw,Zmx,Zmz,Zm2,Zm5,Zm9,Zna,Znb,Zne,Znf,Zng,Zos,Zot,Zo3,Zo4,Zo6,Zo7,Zo8,Zo9,Zpc,eq_self,true_and,and_true,callable_8]
      tactic =>
      refine cl none (alive_con) trivial ?_
      sym =>
      simp [Zaa,Zab,Zac,Zad,Zae,Zaf,Zak,Zal,Zam,Zao,Zaz,Za0,Za1,Za2,Za3,Za4,Za5,Za6,Za7,Za8,Za9,Zba,Zbb,Zbc,Zbd,Zbe,Zbf,Zbg,Zbk,Zbt,Zbu,Zb7,Zb9,Zcn,Zcv,Zcx,Zc3,Zc7,Zc8,Zdc,Zdd,Zde,Zdf,Zdg,Zdh,Zdi,Zdj,Zdk,Zdm,Zdo,Zdp,Zdq,Zdr,Zdt,Zdu,Zdv,Zdw,Zdx,Zdy,Zdz,Zd0,Zd1,Zd2,Zec,Zek,Zen,Zeq,Zet,Zev,Zew,Zex,Zez,Ze0,Ze1,Ze2,Ze3,Ze5,Ze8,Zfc,Zfd,Zfe,Zfh,Zfi,Zfj,Zfl,Zfn,Zfz,Zf0,Zf3,Zf6,Zgd,Zgg,Zgr,Zgs,Zgt,Zhb,Zhc,Zhd,Zhe,Zhf,Zh6,Zh7,Zin,Zio,Zip,Ziu,Ziv,Ziw,Zi6,Zjh,Zji,Zjw,Zj7,Zka,Zkv,Zky,Zk0,Zk1,Zk4,Zla,Zlb,Zle,Zlf,Zlh,Zll,Zlm,Zls,Zlz,Zl2,Zmt,Zmv,Zmw,Zmx,Zmz,Zm2,Zm5,Zm9,Zna,Znb,Zne,Znf,Zng,Zos,Zot,Zo3,Zo4,Zo6,Zo7,Zo8,Zo9,Zpc,eq_self,true_and,and_true]
      tactic =>
      refine endA ?_
      sym =>
      simp [Zaa,Zab,Zac,Zad,Zae,Zaf,Zak,Zal,Zam,Zao,Zaz,Za0,Za1,Za2,Za3,Za4,Za5,Za6,Za7,Za8,Za9,Zba,Zbb,Zbc,Zbd,Zbe,Zbf,Zbg,Zbk,Zbt,Zbu,Zb7,Zb9,Zcn,Zcv,Zcx,Zc3,Zc7,Zc8,Zdc,Zdd,Zde,Zdf,Zdg,Zdh,Zdi,Zdj,Zdk,Zdm,Zdo,Zdp,Zdq,Zdr,Zdt,Zdu,Zdv,Zdw,Zdx,Zdy,Zdz,Zd0,Zd1,Zd2,Zec,Zek,Zen,Zeq,Zet,Zev,Zew,Zex,Zez,Ze0,Ze1,Ze2,Ze3,Ze5,Ze8,Zfc,Zfd,Zfe,Zfh,Zfi,Zfj,Zfl,Zfn,Zfz,Zf0,Zf3,Zf6,Zgd,Zgg,Zgr,Zgs,Zgt,Zhb,Zhc,Zhd,Zhe,Zhf,Zh6,Zh7,Zin,Zio,Zip,Ziu,Ziv,Ziw,Zi6,Zjh,Zji,Zjw,Zj7,Zka,Zkv,Zky,Zk0,Zk1,Zk4,Zla,Zlb,Zle,Zlf,Zlh,Zll,Zlm,Zls,Zlz,Zl2,Zmt,Zmv,Zmw,Zmx,Zmz,Zm2,Zm5,Zm9,Zna,Znb,Zne,Znf,Zng,Zos,Zot,Zo3,Zo4,Zo6,Zo7,Zo8,Zo9,Zpc,eq_self,true_and,and_true]
    have hb2 := mb he
    sym =>
    simp [Zaa,Zab,Zac,Zad,Zae,Zaf,Zak,Zal,Zam,Zao,Zaz,Za0,Za1,Za2,Za3,Za4,Za5,Za6,Za7,Za8,Za9,Zba,Zbb,Zbc,Zbd,Zbe,Zbf,Zbg,Zbk,Zbt,Zbu,Zb7,Zb9,Zcn,Zcv,Zcx,Zc3,Zc7,Zc8,Zdc,Zdd,Zde,Zdf,Zdg,Zdh,Zdi,Zdj,Zdk,Zdm,Zdo,Zdp,Zdq,Zdr,Zdt,Zdu,Zdv,Zdw,Zdx,Zdy,Zdz,Zd0,Zd1,Zd2,Zec,Zek,Zen,Zeq,Zet,Zev,Zew,Zex,Zez,Ze0,Ze1,Ze2,Ze3,Ze5,Ze8,Zfc,Zfd,Zfe,Zfh,Zfi,Zfj,Zfl,Zfn,Zfz,Zf0,Zf3,Zf6,Zgd,Zgg,Zgr,Zgs,Zgt,Zhb,Zhc,Zhd,Zhe,Zhf,Zh6,Zh7,Zin,Zio,Zip,Ziu,Ziv,Ziw,Zi6,Zjh,Zji,Zjw,Zj7,Zka,Zkv,Zky,Zk0,Zk1,Zk4,Zla,Zlb,Zle,Zlf,Zlh,Zll,Zlm,Zls,Zlz,Zl2,Zmt,Zmv,Zmw,Zmx,Zmz,Zm2,Zm5,Zm9,Zna,Znb,Zne,Znf,Zng,Zos,Zot,Zo3,Zo4,Zo6,Zo7,Zo8,Zo9,Zpc,eq_self,true_and,and_true,zF_fc,fc_0,fc_17,fc_18,fc_19,fc_20,fc_53,fc_54,fc_55,fs_0,fs_17,fs_18,fs_19,fs_20,fs_53,fs_54,fs_55,fp_1,fp_21,fp_f,rb_1,rb_21,rb_0,fc_len,fc_ok,fc_id,fc_rs,v16,v32,cB_cells,fz_fc,fcF1,flL_fz,he,callable_9]
    tactic =>
    refine cl none (hb2) trivial ?_
    sym =>
    simp [Zaa,Zab,Zac,Zad,Zae,Zaf,Zak,Zal,Zam,Zao,Zaz,Za0,Za1,Za2,Za3,Za4,Za5,Za6,Za7,Za8,Za9,Zba,Zbb,Zbc,Zbd,Zbe,Zbf,Zbg,Zbk,Zbt,Zbu,Zb7,Zb9,Zcn,Zcv,Zcx,Zc3,Zc7,Zc8,Zdc,Zdd,Zde,Zdf,Zdg,Zdh,Zdi,Zdj,Zdk,Zdm,Zdo,Zdp,Zdq,Zdr,Zdt,Zdu,Zdv,Zdw,Zdx,Zdy,Zdz,Zd0,Zd1,Zd2,Zec,Zek,Zen,Zeq,Zet,Zev,Zew,Zex,Zez,Ze0,Ze1,Ze2,Ze3,Ze5,Ze8,Zfc,Zfd,Zfe,Zfh,Zfi,Zfj,Zfl,Zfn,Zfz,Zf0,Zf3,Zf6,Zgd,Zgg,Zgr,Zgs,Zgt,Zhb,Zhc,Zhd,Zhe,Zhf,Zh6,Zh7,Zin,Zio,Zip,Ziu,Ziv,Ziw,Zi6,Zjh,Zji,Zjw,Zj7,Zka,Zkv,Zky,Zk0,Zk1,Zk4,Zla,Zlb,Zle,Zlf,Zlh,Zll,Zlm,Zls,Zlz,Zl2,Zmt,Zmv,Zmw,Zmx,Zmz,Zm2,Zm5,Zm9,Zna,Znb,Zne,Znf,Zng,Zos,Zot,Zo3,Zo4,Zo6,Zo7,Zo8,Zo9,Zpc,eq_self,true_and,and_true,zF_fc,fc_0,fc_17,fc_18,fc_19,fc_20,fc_53,fc_54,fc_55,fs_0,fs_17,fs_18,fs_19,fs_20,fs_53,fs_54,fs_55,fp_1,fp_21,fp_f,rb_1,rb_21,rb_0,fc_len,fc_ok,fc_id,fc_rs,v16,v32,cB_cells,callable_12]
    tactic =>
    refine cl none (mns) trivial ?_
    sym =>
    simp [Zaa,Zab,Zac,Zad,Zae,Zaf,Zak,Zal,Zam,Zao,Zaz,Za0,Za1,Za2,Za3,Za4,Za5,Za6,Za7,Za8,Za9,Zba,Zbb,Zbc,Zbd,Zbe,Zbf,Zbg,Zbk,Zbt,Zbu,Zb7,Zb9,Zcn,Zcv,Zcx,Zc3,Zc7,Zc8,Zdc,Zdd,Zde,Zdf,Zdg,Zdh,Zdi,Zdj,Zdk,Zdm,Zdo,Zdp,Zdq,Zdr,Zdt,Zdu,Zdv,Zdw,Zdx,Zdy,Zdz,Zd0,Zd1,Zd2,Zec,Zek,Zen,Zeq,Zet,Zev,Zew,Zex,Zez,Ze0,Ze1,Ze2,Ze3,Ze5,Ze8,Zfc,Zfd,Zfe,Zfh,Zfi,Zfj,Zfl,Zfn,Zfz,Zf0,Zf3,Zf6,Zgd,Zgg,Zgr,Zgs,Zgt,Zhb,Zhc,Zhd,Zhe,Zhf,Zh6,Zh7,Zin,Zio,Zip,Ziu,Ziv,Ziw,Zi6,Zjh,Zji,Zjw,Zj7,Zka,Zkv,Zky,Zk0,Zk1,Zk4,Zla,Zlb,Zle,Zlf,Zlh,Zll,Zlm,Zls,Zlz,Zl2,Zmt,Zmv,Zmw,Zmx,Zmz,Zm2,Zm5,Zm9,Zna,Znb,Zne,Znf,Zng,Zos,Zot,Zo3,Zo4,Zo6,Zo7,Zo8,Zo9,Zpc,eq_self,true_and,and_true,callable_8]
    tactic =>
    refine cl none (alive_con) trivial ?_
    sym =>
    simp [Zaa,Zab,Zac,Zad,Zae,Zaf,Zak,Zal,Zam,Zao,Zaz,Za0,Za1,Za2,Za3,Za4,Za5,Za6,Za7,Za8,Za9,Zba,Zbb,Zbc,Zbd,Zbe,Zbf,Zbg,Zbk,Zbt,Zbu,Zb7,Zb9,Zcn,Zcv,Zcx,Zc3,Zc7,Zc8,Zdc,Zdd,Zde,Zdf,Zdg,Zdh,Zdi,Zdj,Zdk,Zdm,Zdo,Zdp,Zdq,Zdr,Zdt,Zdu,Zdv,Zdw,Zdx,Zdy,Zdz,Zd0,Zd1,Zd2,Zec,Zek,Zen,Zeq,Zet,Zev,Zew,Zex,Zez,Ze0,Ze1,Ze2,Ze3,Ze5,Ze8,Zfc,Zfd,Zfe,Zfh,Zfi,Zfj,Zfl,Zfn,Zfz,Zf0,Zf3,Zf6,Zgd,Zgg,Zgr,Zgs,Zgt,Zhb,Zhc,Zhd,Zhe,Zhf,Zh6,Zh7,Zin,Zio,Zip,Ziu,Ziv,Ziw,Zi6,Zjh,Zji,Zjw,Zj7,Zka,Zkv,Zky,Zk0,Zk1,Zk4,Zla,Zlb,Zle,Zlf,Zlh,Zll,Zlm,Zls,Zlz,Zl2,Zmt,Zmv,Zmw,Zmx,Zmz,Zm2,Zm5,Zm9,Zna,Znb,Zne,Znf,Zng,Zos,Zot,Zo3,Zo4,Zo6,Zo7,Zo8,Zo9,Zpc,eq_self,true_and,and_true]
    tactic =>
    refine endA ?_
    sym =>
    simp [Zaa,Zab,Zac,Zad,Zae,Zaf,Zak,Zal,Zam,Zao,Zaz,Za0,Za1,Za2,Za3,Za4,Za5,Za6,Za7,Za8,Za9,Zba,Zbb,Zbc,Zbd,Zbe,Zbf,Zbg,Zbk,Zbt,Zbu,Zb7,Zb9,Zcn,Zcv,Zcx,Zc3,Zc7,Zc8,Zdc,Zdd,Zde,Zdf,Zdg,Zdh,Zdi,Zdj,Zdk,Zdm,Zdo,Zdp,Zdq,Zdr,Zdt,Zdu,Zdv,Zdw,Zdx,Zdy,Zdz,Zd0,Zd1,Zd2,Zec,Zek,Zen,Zeq,Zet,Zev,Zew,Zex,Zez,Ze0,Ze1,Ze2,Ze3,Ze5,Ze8,Zfc,Zfd,Zfe,Zfh,Zfi,Zfj,Zfl,Zfn,Zfz,Zf0,Zf3,Zf6,Zgd,Zgg,Zgr,Zgs,Zgt,Zhb,Zhc,Zhd,Zhe,Zhf,Zh6,Zh7,Zin,Zio,Zip,Ziu,Ziv,Ziw,Zi6,Zjh,Zji,Zjw,Zj7,Zka,Zkv,Zky,Zk0,Zk1,Zk4,Zla,Zlb,Zle,Zlf,Zlh,Zll,Zlm,Zls,Zlz,Zl2,Zmt,Zmv,Zmw,Zmx,Zmz,Zm2,Zm5,Zm9,Zna,Znb,Zne,Znf,Zng,Zos,Zot,Zo3,Zo4,Zo6,Zo7,Zo8,Zo9,Zpc,eq_self,true_and,and_true]
  · clear hb1
    obtain ⟨k, t, es, er, o, n, su, d, r, c⟩ := f
    obtain ⟨k', t', es', er', o', n', su', d', r', c'⟩ := g
    obtain ⟨k3, t3, es3, er3, o3, n3, su3, d3, r3, c3⟩ := p
    simp only [fr, zFm] at hfar gfar hth gth hsa hrsa hlay mp mzz mb ⊢
    refine con_j b5 rfl ?_
    sym =>
    simp [Zaa,Zab,Zac,Zad,Zae,Zaf,Zak,Zal,Zam,Zao,Zaz,Za0,Za1,Za2,Za3,Za4,Za5,Za6,Za7,Za8,Za9,Zba,Zbb,Zbc,Zbd,Zbe,Zbf,Zbg,Zbk,Zbt,Zbu,Zb7,Zb9,Zcn,Zcv,Zcx,Zc3,Zc7,Zc8,Zdc,Zdd,Zde,Zdf,Zdg,Zdh,Zdi,Zdj,Zdk,Zdm,Zdo,Zdp,Zdq,Zdr,Zdt,Zdu,Zdv,Zdw,Zdx,Zdy,Zdz,Zd0,Zd1,Zd2,Zec,Zek,Zen,Zeq,Zet,Zev,Zew,Zex,Zez,Ze0,Ze1,Ze2,Ze3,Ze5,Ze8,Zfc,Zfd,Zfe,Zfh,Zfi,Zfj,Zfl,Zfn,Zfz,Zf0,Zf3,Zf6,Zgd,Zgg,Zgr,Zgs,Zgt,Zhb,Zhc,Zhd,Zhe,Zhf,Zh6,Zh7,Zin,Zio,Zip,Ziu,Ziv,Ziw,Zi6,Zjh,Zji,Zjw,Zj7,Zka,Zkv,Zky,Zk0,Zk1,Zk4,Zla,Zlb,Zle,Zlf,Zlh,Zll,Zlm,Zls,Zlz,Zl2,Zmt,Zmv,Zmw,Zmx,Zmz,Zm2,Zm5,Zm9,Zna,Znb,Zne,Znf,Zng,Zos,Zot,Zo3,Zo4,Zo6,Zo7,Zo8,Zo9,Zpc,eq_self,true_and,and_true,zF_fc,fc_0,fc_17,fc_18,fc_19,fc_20,fc_53,fc_54,fc_55,fs_0,fs_17,fs_18,fs_19,fs_20,fs_53,fs_54,fs_55,fp_1,fp_21,fp_f,rb_1,rb_21,rb_0,fc_len,fc_ok,fc_id,fc_rs,v16,v32,cB_cells,fz_fc,fcF1,flL_fz,callable_7]
    tactic =>
    refine cl none (hfar) trivial ?_
    sym =>
    simp [Zaa,Zab,Zac,Zad,Zae,Zaf,Zak,Zal,Zam,Zao,Zaz,Za0,Za1,Za2,Za3,Za4,Za5,Za6,Za7,Za8,Za9,Zba,Zbb,Zbc,Zbd,Zbe,Zbf,Zbg,Zbk,Zbt,Zbu,Zb7,Zb9,Zcn,Zcv,Zcx,Zc3,Zc7,Zc8,Zdc,Zdd,Zde,Zdf,Zdg,Zdh,Zdi,Zdj,Zdk,Zdm,Zdo,Zdp,Zdq,Zdr,Zdt,Zdu,Zdv,Zdw,Zdx,Zdy,Zdz,Zd0,Zd1,Zd2,Zec,Zek,Zen,Zeq,Zet,Zev,Zew,Zex,Zez,Ze0,Ze1,Ze2,Ze3,Ze5,Ze8,Zfc,Zfd,Zfe,Zfh,Zfi,Zfj,Zfl,Zfn,Zfz,Zf0,Zf3,Zf6,Zgd,Zgg,Zgr,Zgs,Zgt,Zhb,Zhc,Zhd,Zhe,Zhf,Zh6,Zh7,Zin,Zio,Zip,Ziu,Ziv,Ziw,Zi6,Zjh,Zji,Zjw,Zj7,Zka,Zkv,Zky,Zk0,Zk1,Zk4,Zla,Zlb,Zle,Zlf,Zlh,Zll,Zlm,Zls,Zlz,Zl2,Zmt,Zmv,Zmw,Zmx,Zmz,Zm2,Zm5,Zm9,Zna,Znb,Zne,Znf,Zng,Zos,Zot,Zo3,Zo4,Zo6,Zo7,Zo8,Zo9,Zpc,eq_self,true_and,and_true,zF_fc,fc_0,fc_17,fc_18,fc_19,fc_20,fc_53,fc_54,fc_55,fs_0,fs_17,fs_18,fs_19,fs_20,fs_53,fs_54,fs_55,fp_1,fp_21,fp_f,rb_1,rb_21,rb_0,fc_len,fc_ok,fc_id,fc_rs,v16,v32,cB_cells,fz_fc,fcF1,flL_fz,callable_7]
    tactic =>
    refine cl none (gfar) trivial ?_
    sym =>
    simp [Zaa,Zab,Zac,Zad,Zae,Zaf,Zak,Zal,Zam,Zao,Zaz,Za0,Za1,Za2,Za3,Za4,Za5,Za6,Za7,Za8,Za9,Zba,Zbb,Zbc,Zbd,Zbe,Zbf,Zbg,Zbk,Zbt,Zbu,Zb7,Zb9,Zcn,Zcv,Zcx,Zc3,Zc7,Zc8,Zdc,Zdd,Zde,Zdf,Zdg,Zdh,Zdi,Zdj,Zdk,Zdm,Zdo,Zdp,Zdq,Zdr,Zdt,Zdu,Zdv,Zdw,Zdx,Zdy,Zdz,Zd0,Zd1,Zd2,Zec,Zek,Zen,Zeq,Zet,Zev,Zew,Zex,Zez,Ze0,Ze1,Ze2,Ze3,Ze5,Ze8,Zfc,Zfd,Zfe,Zfh,Zfi,Zfj,Zfl,Zfn,Zfz,Zf0,Zf3,Zf6,Zgd,Zgg,Zgr,Zgs,Zgt,Zhb,Zhc,Zhd,Zhe,Zhf,Zh6,Zh7,Zin,Zio,Zip,Ziu,Ziv,Ziw,Zi6,Zjh,Zji,Zjw,Zj7,Zka,Zkv,Zky,Zk0,Zk1,Zk4,Zla,Zlb,Zle,Zlf,Zlh,Zll,Zlm,Zls,Zlz,Zl2,Zmt,Zmv,Zmw,Zmx,Zmz,Zm2,Zm5,Zm9,Zna,Znb,Zne,Znf,Zng,Zos,Zot,Zo3,Zo4,Zo6,Zo7,Zo8,Zo9,Zpc,eq_self,true_and,and_true,zF_fc,fc_0,fc_17,fc_18,fc_19,fc_20,fc_53,fc_54,fc_55,fs_0,fs_17,fs_18,fs_19,fs_20,fs_53,fs_54,fs_55,fp_1,fp_21,fp_f,rb_1,rb_21,rb_0,fc_len,fc_ok,fc_id,fc_rs,v16,v32,cB_cells,fz_fc,fcF1,flL_fz,hbl',callable_10]
    tactic =>
    refine cl none (hth) trivial ?_
    sym =>
    simp [Zaa,Zab,Zac,Zad,Zae,Zaf,Zak,Zal,Zam,Zao,Zaz,Za0,Za1,Za2,Za3,Za4,Za5,Za6,Za7,Za8,Za9,Zba,Zbb,Zbc,Zbd,Zbe,Zbf,Zbg,Zbk,Zbt,Zbu,Zb7,Zb9,Zcn,Zcv,Zcx,Zc3,Zc7,Zc8,Zdc,Zdd,Zde,Zdf,Zdg,Zdh,Zdi,Zdj,Zdk,Zdm,Zdo,Zdp,Zdq,Zdr,Zdt,Zdu,Zdv,Zdw,Zdx,Zdy,Zdz,Zd0,Zd1,Zd2,Zec,Zek,Zen,Zeq,Zet,Zev,Zew,Zex,Zez,Ze0,Ze1,Ze2,Ze3,Ze5,Ze8,Zfc,Zfd,Zfe,Zfh,Zfi,Zfj,Zfl,Zfn,Zfz,Zf0,Zf3,Zf6,Zgd,Zgg,Zgr,Zgs,Zgt,Zhb,Zhc,Zhd,Zhe,Zhf,Zh6,Zh7,Zin,Zio,Zip,Ziu,Ziv,Ziw,Zi6,Zjh,Zji,Zjw,Zj7,Zka,Zkv,Zky,Zk0,Zk1,Zk4,Zla,Zlb,Zle,Zlf,Zlh,Zll,Zlm,Zls,Zlz,Zl2,Zmt,Zmv,Zmw,Zmx,Zmz,Zm2,Zm5,Zm9,Zna,Znb,Zne,Znf,Zng,Zos,Zot,Zo3,Zo4,Zo6,Zo7,Zo8,Zo9,Zpc,eq_self,true_and,and_true,zF_fc,fc_0,fc_17,fc_18,fc_19,fc_20,fc_53,fc_54,fc_55,fs_0,fs_17,fs_18,fs_19,fs_20,fs_53,fs_54,fs_55,fp_1,fp_21,fp_f,rb_1,rb_21,rb_0,fc_len,fc_ok,fc_id,fc_rs,v16,v32,cB_cells,fz_fc,fcF1,flL_fz,callable_10]
    tactic =>
    refine cl none (gth) trivial ?_
    sym =>
    simp [Zaa,Zab,Zac,Zad,Zae,Zaf,Zak,Zal,Zam,Zao,Zaz,Za0,Za1,Za2,Za3,Za4,Za5,Za6,Za7,Za8,Za9,Zba,Zbb,Zbc,Zbd,Zbe,Zbf,Zbg,Zbk,Zbt,Zbu,Zb7,Zb9,Zcn,Zcv,Zcx,Zc3,Zc7,Zc8,Zdc,Zdd,Zde,Zdf,Zdg,Zdh,Zdi,Zdj,Zdk,Zdm,Zdo,Zdp,Zdq,Zdr,Zdt,Zdu,Zdv,Zdw,Zdx,Zdy,Zdz,Zd0,Zd1,Zd2,Zec,Zek,Zen,Zeq,Zet,Zev,Zew,Zex,Zez,Ze0,Ze1,Ze2,Ze3,Ze5,Ze8,Zfc,Zfd,Zfe,Zfh,Zfi,Zfj,Zfl,Zfn,Zfz,Zf0,Zf3,Zf6,Zgd,Zgg,Zgr,Zgs,Zgt,Zhb,Zhc,Zhd,Zhe,Zhf,Zh6,Zh7,Zin,Zio,Zip,Ziu,Ziv,Ziw,Zi6,Zjh,Zji,Zjw,Zj7,Zka,Zkv,Zky,Zk0,Zk1,Zk4,Zla,Zlb,Zle,Zlf,Zlh,Zll,Zlm,Zls,Zlz,Zl2,Zmt,Zmv,Zmw,Zmx,Zmz,Zm2,Zm5,Zm9,Zna,Znb,Zne,Znf,Zng,Zos,Zot,Zo3,Zo4,Zo6,Zo7,Zo8,Zo9,Zpc,eq_self,true_and,and_true,zF_fc,fc_0,fc_17,fc_18,fc_19,fc_20,fc_53,fc_54,fc_55,fs_0,fs_17,fs_18,fs_19,fs_20,fs_53,fs_54,fs_55,fp_1,fp_21,fp_f,rb_1,rb_21,rb_0,fc_len,fc_ok,fc_id,fc_rs,v16,v32,cB_cells,fz_fc,fcF1,flL_fz,callable_13]
    tactic =>
    refine cl none (hsa) trivial ?_
    sym =>
    simp [Zaa,Zab,Zac,Zad,Zae,Zaf,Zak,Zal,Zam,Zao,Zaz,Za0,Za1,Za2,Za3,Za4,Za5,Za6,Za7,Za8,Za9,Zba,Zbb,Zbc,Zbd,Zbe,Zbf,Zbg,Zbk,Zbt,Zbu,Zb7,Zb9,Zcn,Zcv,Zcx,Zc3,Zc7,Zc8,Zdc,Zdd,Zde,Zdf,Zdg,Zdh,Zdi,Zdj,Zdk,Zdm,Zdo,Zdp,Zdq,Zdr,Zdt,Zdu,Zdv,Zdw,Zdx,Zdy,Zdz,Zd0,Zd1,Zd2,Zec,Zek,Zen,Zeq,Zet,Zev,Zew,Zex,Zez,Ze0,Ze1,Ze2,Ze3,Ze5,Ze8,Zfc,Zfd,Zfe,Zfh,Zfi,Zfj,Zfl,Zfn,Zfz,Zf0,Zf3,Zf6,Zgd,Zgg,Zgr,Zgs,Zgt,Zhb,Zhc,Zhd,Zhe,Zhf,Zh6,Zh7,Zin,Zio,Zip,Ziu,Ziv,Ziw,Zi6,Zjh,Zji,Zjw,Zj7,Zka,Zkv,Zky,Zk0,Zk1,Zk4,Zla,Zlb,Zle,Zlf,Zlh,Zll,Zlm,Zls,Zlz,Zl2,Zmt,Zmv,Zmw,Zmx,Zmz,Zm2,Zm5,Zm9,Zna,Znb,Zne,Znf,Zng,Zos,Zot,Zo3,Zo4,Zo6,Zo7,Zo8,Zo9,Zpc,eq_self,true_and,and_true,zF_fc,fc_0,fc_17,fc_18,fc_19,fc_20,fc_53,fc_54,fc_55,fs_0,fs_17,fs_18,fs_19,fs_20,fs_53,fs_54,fs_55,fp_1,fp_21,fp_f,rb_1,rb_21,rb_0,fc_len,fc_ok,fc_id,fc_rs,v16,v32,cB_cells,fz_fc,fcF1,flL_fz,callable_21]
    tactic =>
    refine cl none (hrsa) trivial ?_
    sym =>
    simp [Zaa,Zab,Zac,Zad,Zae,Zaf,Zak,Zal,Zam,Zao,Zaz,Za0,Za1,Za2,Za3,Za4,Za5,Za6,Za7,Za8,Za9,Zba,Zbb,Zbc,Zbd,Zbe,Zbf,Zbg,Zbk,Zbt,Zbu,Zb7,Zb9,Zcn,Zcv,Zcx,Zc3,Zc7,Zc8,Zdc,Zdd,Zde,Zdf,Zdg,Zdh,Zdi,Zdj,Zdk,Zdm,Zdo,Zdp,Zdq,Zdr,Zdt,Zdu,Zdv,Zdw,Zdx,Zdy,Zdz,Zd0,Zd1,Zd2,Zec,Zek,Zen,Zeq,Zet,Zev,Zew,Zex,Zez,Ze0,Ze1,Ze2,Ze3,Ze5,Ze8,Zfc,Zfd,Zfe,Zfh,Zfi,Zfj,Zfl,Zfn,Zfz,Zf0,Zf3,Zf6,Zgd,Zgg,Zgr,Zgs,Zgt,Zhb,Zhc,Zhd,Zhe,Zhf,Zh6,Zh7,Zin,Zio,Zip,Ziu,Ziv,Ziw,Zi6,Zjh,Zji,Zjw,Zj7,Zka,Zkv,Zky,Zk0,Zk1,Zk4,Zla,Zlb,Zle,Zlf,Zlh,Zll,Zlm,Zls,Zlz,Zl2,Zmt,Zmv,Zmw,Zmx,Zmz,Zm2,Zm5,Zm9,Zna,Znb,Zne,Znf,Zng,Zos,Zot,Zo3,Zo4,Zo6,Zo7,Zo8,Zo9,Zpc,eq_self,true_and,and_true,zF_fc,fc_0,fc_17,fc_18,fc_19,fc_20,fc_53,fc_54,fc_55,fs_0,fs_17,fs_18,fs_19,fs_20,fs_53,fs_54,fs_55,fp_1,fp_21,fp_f,rb_1,rb_21,rb_0,fc_len,fc_ok,fc_id,fc_rs,v16,v32,cB_cells,fz_fc,fcF1,flL_fz,hww,callable_10]
    tactic =>
    refine cl none (hth) trivial ?_
    sym =>
    simp [Zaa,Zab,Zac,Zad,Zae,Zaf,Zak,Zal,Zam,Zao,Zaz,Za0,Za1,Za2,Za3,Za4,Za5,Za6,Za7,Za8,Za9,Zba,Zbb,Zbc,Zbd,Zbe,Zbf,Zbg,Zbk,Zbt,Zbu,Zb7,Zb9,Zcn,Zcv,Zcx,Zc3,Zc7,Zc8,Zdc,Zdd,Zde,Zdf,Zdg,Zdh,Zdi,Zdj,Zdk,Zdm,Zdo,Zdp,Zdq,Zdr,Zdt,Zdu,Zdv,Zdw,Zdx,Zdy,Zdz,Zd0,Zd1,Zd2,Zec,Zek,Zen,Zeq,Zet,Zev,Zew,Zex,Zez,Ze0,Ze1,Ze2,Ze3,Ze5,Ze8,Zfc,Zfd,Zfe,Zfh,Zfi,Zfj,Zfl,Zfn,Zfz,Zf0,Zf3,Zf6,Zgd,Zgg,Zgr,Zgs,Zgt,Zhb,Zhc,Zhd,Zhe,Zhf,Zh6,Zh7,Zin,Zio,Zip,Ziu,Ziv,Ziw,Zi6,Zjh,Zji,Zjw,Zj7,Zka,Zkv,Zky,Zk0,Zk1,Zk4,Zla,Zlb,Zle,Zlf,Zlh,Zll,Zlm,Zls,Zlz,Zl2,Zmt,Zmv,Zmw,Zmx,Zmz,Zm2,Zm5,Zm9,Zna,Znb,Zne,Znf,Zng,Zos,Zot,Zo3,Zo4,Zo6,Zo7,Zo8,Zo9,Zpc,eq_self,true_and,and_true,zF_fc,fc_0,fc_17,fc_18,fc_19,fc_20,fc_53,fc_54,fc_55,fs_0,fs_17,fs_18,fs_19,fs_20,fs_53,fs_54,fs_55,fp_1,fp_21,fp_f,rb_1,rb_21,rb_0,fc_len,fc_ok,fc_id,fc_rs,v16,v32,cB_cells,fz_fc,fcF1,flL_fz,callable_9]
    tactic =>
    refine cl none (hlay) trivial ?_
    sym =>
    simp [Zaa,Zab,Zac,Zad,Zae,Zaf,Zak,Zal,Zam,Zao,Zaz,Za0,Za1,Za2,Za3,Za4,Za5,Za6,Za7,Za8,Za9,Zba,Zbb,Zbc,Zbd,Zbe,Zbf,Zbg,Zbk,Zbt,Zbu,Zb7,Zb9,Zcn,Zcv,Zcx,Zc3,Zc7,Zc8,Zdc,Zdd,Zde,Zdf,Zdg,Zdh,Zdi,Zdj,Zdk,Zdm,Zdo,Zdp,Zdq,Zdr,Zdt,Zdu,Zdv,Zdw,Zdx,Zdy,Zdz,Zd0,Zd1,Zd2,Zec,Zek,Zen,Zeq,Zet,Zev,Zew,Zex,Zez,Ze0,Ze1,Ze2,Ze3,Ze5,Ze8,Zfc,Zfd,Zfe,Zfh,Zfi,Zfj,Zfl,Zfn,Zfz,Zf0,Zf3,Zf6,Zgd,Zgg,Zgr,Zgs,Zgt,Zhb,Zhc,Zhd,Zhe,Zhf,Zh6,Zh7,Zin,Zio,Zip,Ziu,Ziv,Ziw,Zi6,Zjh,Zji,Zjw,Zj7,Zka,Zkv,Zky,Zk0,Zk1,Zk4,Zla,Zlb,Zle,Zlf,Zlh,Zll,Zlm,Zls,Zlz,Zl2,Zmt,Zmv,Zmw,Zmx,Zmz,Zm2,Zm5,Zm9,Zna,Znb,Zne,Znf,Zng,Zos,Zot,Zo3,Zo4,Zo6,Zo7,Zo8,Zo9,Zpc,eq_self,true_and,and_true,h0]
    tactic =>
    sym =>
    simp [Zaa,Zab,Zac,Zad,Zae,Zaf,Zak,Zal,Zam,Zao,Zaz,Za0,Za1,Za2,Za3,Za4,Za5,Za6,Za7,Za8,Za9,Zba,Zbb,Zbc,Zbd,Zbe,Zbf,Zbg,Zbk,Zbt,Zbu,Zb7,Zb9,Zcn,Zcv,Zcx,Zc3,Zc7,Zc8,Zdc,Zdd,Zde,Zdf,Zdg,Zdh,Zdi,Zdj,Zdk,Zdm,Zdo,Zdp,Zdq,Zdr,Zdt,Zdu,Zdv,Zdw,Zdx,Zdy,Zdz,Zd0,Zd1,Zd2,Zec,Zek,Zen,Zeq,Zet,Zev,Zew,Zex,Zez,Ze0,Ze1,Ze2,Ze3,Ze5,Ze8,Zfc,Zfd,Zfe,Zfh,Zfi,Zfj,Zfl,Zfn,Zfz,Zf0,Zf3,Zf6,Zgd,Zgg,Zgr,Zgs,Zgt,Zhb,Zhc,Zhd,Zhe,Zhf,Zh6,Zh7,Zin,Zio,Zip,Ziu,Ziv,Ziw,Zi6,Zjh,Zji,Zjw,Zj7,Zka,Zkv,Zky,Zk0,Zk1,Zk4,Zla,Zlb,Zle,Zlf,Zlh,Zll,Zlm,Zls,Zlz,Zl2,Zmt,Zmv,Zmw,Zmx,Zmz,Zm2,Zm5,Zm9,Zna,Znb,Zne,Znf,Zng,Zos,Zot,Zo3,Zo4,Zo6,Zo7,Zo8,Zo9,Zpc,eq_self,true_and,and_true,zF_fc,fc_0,fc_17,fc_18,fc_19,fc_20,fc_53,fc_54,fc_55,fs_0,fs_17,fs_18,fs_19,fs_20,fs_53,fs_54,fs_55,fp_1,fp_21,fp_f,rb_1,rb_21,rb_0,fc_len,fc_ok,fc_id,fc_rs,v16,v32,cB_cells,fz_fc,fcF1,flL_fz,callable_19]
    tactic =>
    refine cl none (mp) trivial ?_
    by_cases he : e = 0
    rotate_left
    · have hz := mzz he
      sym =>
      simp [Zaa,Zab,Zac,Zad,Zae,Zaf,Zak,Zal,Zam,Zao,Zaz,Za0,Za1,Za2,Za3,Za4,Za5,Za6,Za7,Za8,Za9,Zba,Zbb,Zbc,Zbd,Zbe,Zbf,Zbg,Zbk,Zbt,Zbu,Zb7,Zb9,Zcn,Zcv,Zcx,Zc3,Zc7,Zc8,Zdc,Zdd,Zde,Zdf,Zdg,Zdh,Zdi,Zdj,Zdk,Zdm,Zdo,Zdp,Zdq,Zdr,Zdt,Zdu,Zdv,Zdw,Zdx,Zdy,Zdz,Zd0,Zd1,Zd2,Zec,Zek,Zen,Zeq,Zet,Zev,Zew,Zex,Zez,Ze0,Ze1,Ze2,Ze3,Ze5,Ze8,Zfc,Zfd,Zfe,Zfh,Zfi,Zfj,Zfl,Zfn,Zfz,Zf0,Zf3,Zf6,Zgd,Zgg,Zgr,Zgs,Zgt,Zhb,Zhc,Zhd,Zhe,Zhf,Zh6,Zh7,Zin,Zio,Zip,Ziu,Ziv,Ziw,Zi6,Zjh,Zji,Zjw,Zj7,Zka,Zkv,Zky,Zk0,Zk1,Zk4,Zla,Zlb,Zle,Zlf,Zlh,Zll,Zlm,Zls,Zlz,Zl2,Zmt,Zmv,Zmw,Zmx,Zmz,Zm2,Zm5,Zm9,Zna,Znb,Zne,Znf,Zng,Zos,Zot,Zo3,Zo4,Zo6,Zo7,Zo8,Zo9,Zpc,eq_self,true_and,and_true,zF_fc,fc_0,fc_17,fc_18,fc_19,fc_20,fc_53,fc_54,fc_55,fs_0,fs_17,fs_18,fs_19,fs_20,fs_53,fs_54,fs_55,fp_1,fp_21,fp_f,rb_1,rb_21,rb_0,fc_len,fc_ok,fc_id,fc_rs,v16,v32,cB_cells,fz_fc,fcF1,flL_fz,he,callable_13]
      tactic =>
      refine cl none (hz) trivial ?_
      sym =>
      simp [Zaa,Zab,Zac,Zad,Zae,Zaf,Zak,Zal,Zam,Zao,Zaz,Za0,Za1,Za2,Za3,Za4,Za5,Za6,Za7,Za8,Za9,Zba,Zbb,Zbc,Zbd,Zbe,Zbf,Zbg,Zbk,Zbt,Zbu,Zb7,Zb9,Zcn,Zcv,Zcx,Zc3,Zc7,Zc8,Zdc,Zdd,Zde,Zdf,Zdg,Zdh,Zdi,Zdj,Zdk,Zdm,Zdo,Zdp,Zdq,Zdr,Zdt,Zdu,Zdv,Zdw,Zdx,Zdy,Zdz,Zd0,Zd1,Zd2,Zec,Zek,Zen,Zeq,Zet,Zev,Zew,Zex,Zez,Ze0,Ze1,Ze2,Ze3,Ze5,Ze8,Zfc,Zfd,Zfe,Zfh,Zfi,Zfj,Zfl,Zfn,Zfz,Zf0,Zf3,Zf6,Zgd,Zgg,Zgr,Zgs,Zgt,Zhb,Zhc,Zhd,Zhe,Zhf,Zh6,Zh7,Zin,Zio,Zip,Ziu,Ziv,Ziw,Zi6,Zjh,Zji,Zjw,Zj7,Zka,Zkv,Zky,Zk0,Zk1,Zk4,Zla,Zlb,Zle,Zlf,Zlh,Zll,Zlm,Zls,Zlz,Zl2,Zmt,Zmv,Zmw,Zmx,Zmz,Zm2,Zm5,Zm9,Zna,Znb,Zne,Znf,Zng,Zos,Zot,Zo3,Zo4,Zo6,Zo7,Zo8,Zo9,Zpc,eq_self,true_and,and_true,callable_8]
      tactic =>
      refine cl none (alive_con) trivial ?_
      sym =>
      simp [Zaa,Zab,Zac,Zad,Zae,Zaf,Zak,Zal,Zam,Zao,Zaz,Za0,Za1,Za2,Za3,Za4,Za5,Za6,Za7,Za8,Za9,Zba,Zbb,Zbc,Zbd,Zbe,Zbf,Zbg,Zbk,Zbt,Zbu,Zb7,Zb9,Zcn,Zcv,Zcx,Zc3,Zc7,Zc8,Zdc,Zdd,Zde,Zdf,Zdg,Zdh,Zdi,Zdj,Zdk,Zdm,Zdo,Zdp,Zdq,Zdr,Zdt,Zdu,Zdv,Zdw,Zdx,Zdy,Zdz,Zd0,Zd1,Zd2,Zec,Zek,Zen,Zeq,Zet,Zev,Zew,Zex,Zez,Ze0,Ze1,Ze2,Ze3,Ze5,Ze8,Zfc,Zfd,Zfe,Zfh,Zfi,Zfj,Zfl,Zfn,Zfz,Zf0,Zf3,Zf6,Zgd,Zgg,Zgr,Zgs,Zgt,Zhb,Zhc,Zhd,Zhe,Zhf,Zh6,Zh7,Zin,Zio,Zip,Ziu,Ziv,Ziw,Zi6,Zjh,Zji,Zjw,Zj7,Zka,Zkv,Zky,Zk0,Zk1,Zk4,Zla,Zlb,Zle,Zlf,Zlh,Zll,Zlm,Zls,Zlz,Zl2,Zmt,Zmv,Zmw,Zmx,Zmz,Zm2,Zm5,Zm9,Zna,Znb,Zne,Znf,Zng,Zos,Zot,Zo3,Zo4,Zo6,Zo7,Zo8,Zo9,Zpc,eq_self,true_and,and_true]
      tactic =>
      refine endA ?_
      sym =>
      simp [Zaa,Zab,Zac,Zad,Zae,Zaf,Zak,Zal,Zam,Zao,Zaz,Za0,Za1,Za2,Za3,Za4,Za5,Za6,Za7,Za8,Za9,Zba,Zbb,Zbc,Zbd,Zbe,Zbf,Zbg,Zbk,Zbt,Zbu,Zb7,Zb9,Zcn,Zcv,Zcx,Zc3,Zc7,Zc8,Zdc,Zdd,Zde,Zdf,Zdg,Zdh,Zdi,Zdj,Zdk,Zdm,Zdo,Zdp,Zdq,Zdr,Zdt,Zdu,Zdv,Zdw,Zdx,Zdy,Zdz,Zd0,Zd1,Zd2,Zec,Zek,Zen,Zeq,Zet,Zev,Zew,Zex,Zez,Ze0,Ze1,Ze2,Ze3,Ze5,Ze8,Zfc,Zfd,Zfe,Zfh,Zfi,Zfj,Zfl,Zfn,Zfz,Zf0,Zf3,Zf6,Zgd,Zgg,Zgr,Zgs,Zgt,Zhb,Zhc,Zhd,Zhe,Zhf,Zh6,Zh7,Zin,Zio,Zip,Ziu,Ziv,Ziw,Zi6,Zjh,Zji,Zjw,Zj7,Zka,Zkv,Zky,Zk0,Zk1,Zk4,Zla,Zlb,Zle,Zlf,Zlh,Zll,Zlm,Zls,Zlz,Zl2,Zmt,Zmv,Zmw,Zmx,Zmz,Zm2,Zm5,Zm9,Zna,Znb,Zne,Znf,Zng,Zos,Zot,Zo3,Zo4,Zo6,Zo7,Zo8,Zo9,Zpc,eq_self,true_and,and_true]
    have hb2 := mb he
    sym =>
    simp [Zaa,Zab,Zac,Zad,Zae,Zaf,Zak,Zal,Zam,Zao,Zaz,Za0,Za1,Za2,Za3,Za4,Za5,Za6,Za7,Za8,Za9,Zba,Zbb,Zbc,Zbd,Zbe,Zbf,Zbg,Zbk,Zbt,Zbu,Zb7,Zb9,Zcn,Zcv,Zcx,Zc3,Zc7,Zc8,Zdc,Zdd,Zde,Zdf,Zdg,Zdh,Zdi,Zdj,Zdk,Zdm,Zdo,Zdp,Zdq,Zdr,Zdt,Zdu,Zdv,Zdw,Zdx,Zdy,Zdz,Zd0,Zd1,Zd2,Zec,Zek,Zen,Zeq,Zet,Zev,Zew,Zex,Zez,Ze0,Ze1,Ze2,Ze3,Ze5,Ze8,Zfc,Zfd,Zfe,Zfh,Zfi,Zfj,Zfl,Zfn,Zfz,Zf0,Zf3,Zf6,Zgd,Zgg,Zgr,Zgs,Zgt,Zhb,Zhc,Zhd,Zhe,Zhf,Zh6,Zh7,Zin,Zio,Zip,Ziu,Ziv,Ziw,Zi6,Zjh,Zji,Zjw,Zj7,Zka,Zkv,Zky,Zk0,Zk1,Zk4,Zla,Zlb,Zle,Zlf,Zlh,Zll,Zlm,Zls,Zlz,Zl2,Zmt,Zmv,Zmw,Zmx,Zmz,Zm2,Zm5,Zm9,Zna,Znb,Zne,Znf,Zng,Zos,Zot,Zo3,Zo4,Zo6,Zo7,Zo8,Zo9,Zpc,eq_self,true_and,and_true,zF_fc,fc_0,fc_17,fc_18,fc_19,fc_20,fc_53,fc_54,fc_55,fs_0,fs_17,fs_18,fs_19,fs_20,fs_53,fs_54,fs_55,fp_1,fp_21,fp_f,rb_1,rb_21,rb_0,fc_len,fc_ok,fc_id,fc_rs,v16,v32,cB_cells,fz_fc,fcF1,flL_fz,he,callable_9]
    tactic =>
    refine cl none (hb2) trivial ?_
    sym =>
    simp [Zaa,Zab,Zac,Zad,Zae,Zaf,Zak,Zal,Zam,Zao,Zaz,Za0,Za1,Za2,Za3,Za4,Za5,Za6,Za7,Za8,Za9,Zba,Zbb,Zbc,Zbd,Zbe,Zbf,Zbg,Zbk,Zbt,Zbu,Zb7,Zb9,Zcn,Zcv,Zcx,Zc3,Zc7,Zc8,Zdc,Zdd,Zde,Zdf,Zdg,Zdh,Zdi,Zdj,Zdk,Zdm,Zdo,Zdp,Zdq,Zdr,Zdt,Zdu,Zdv,Zdw,Zdx,Zdy,Zdz,Zd0,Zd1,Zd2,Zec,Zek,Zen,Zeq,Zet,Zev,Zew,Zex,Zez,Ze0,Ze1,Ze2,Ze3,Ze5,Ze8,Zfc,Zfd,Zfe,Zfh,Zfi,Zfj,Zfl,Zfn,Zfz,Zf0,Zf3,Zf6,Zgd,Zgg,Zgr,Zgs,Zgt,Zhb,Zhc,Zhd,Zhe,Zhf,Zh6,Zh7,Zin,Zio,Zip,Ziu,Ziv,Ziw,Zi6,Zjh,Zji,Zjw,Zj7,Zka,Zkv,Zky,Zk0,Zk1,Zk4,Zla,Zlb,Zle,Zlf,Zlh,Zll,Zlm,Zls,Zlz,Zl2,Zmt,Zmv,Zmw,Zmx,Zmz,Zm2,Zm5,Zm9,Zna,Znb,Zne,Znf,Zng,Zos,Zot,Zo3,Zo4,Zo6,Zo7,Zo8,Zo9,Zpc,eq_self,true_and,and_true,zF_fc,fc_0,fc_17,fc_18,fc_19,fc_20,fc_53,fc_54,fc_55,fs_0,fs_17,fs_18,fs_19,fs_20,fs_53,fs_54,fs_55,fp_1,fp_21,fp_f,rb_1,rb_21,rb_0,fc_len,fc_ok,fc_id,fc_rs,v16,v32,cB_cells,callable_12]
    tactic =>
    refine cl none (mns) trivial ?_
    sym =>
    simp [Zaa,Zab,Zac,Zad,Zae,Zaf,Zak,Zal,Zam,Zao,Zaz,Za0,Za1,Za2,Za3,Za4,Za5,Za6,Za7,Za8,Za9,Zba,Zbb,Zbc,Zbd,Zbe,Zbf,Zbg,Zbk,Zbt,Zbu,Zb7,Zb9,Zcn,Zcv,Zcx,Zc3,Zc7,Zc8,Zdc,Zdd,Zde,Zdf,Zdg,Zdh,Zdi,Zdj,Zdk,Zdm,Zdo,Zdp,Zdq,Zdr,Zdt,Zdu,Zdv,Zdw,Zdx,Zdy,Zdz,Zd0,Zd1,Zd2,Zec,Zek,Zen,Zeq,Zet,Zev,Zew,Zex,Zez,Ze0,Ze1,Ze2,Ze3,Ze5,Ze8,Zfc,Zfd,Zfe,Zfh,Zfi,Zfj,Zfl,Zfn,Zfz,Zf0,Zf3,Zf6,Zgd,Zgg,Zgr,Zgs,Zgt,Zhb,Zhc,Zhd,Zhe,Zhf,Zh6,Zh7,Zin,Zio,Zip,Ziu,Ziv,Ziw,Zi6,Zjh,Zji,Zjw,Zj7,Zka,Zkv,Zky,Zk0,Zk1,Zk4,Zla,Zlb,Zle,Zlf,Zlh,Zll,Zlm,Zls,Zlz,Zl2,Zmt,Zmv,Zmw,Zmx,Zmz,Zm2,Zm5,Zm9,Zna,Znb,Zne,Znf,Zng,Zos,Zot,Zo3,Zo4,Zo6,Zo7,Zo8,Zo9,Zpc,eq_self,true_and,and_true,callable_8]
    tactic =>
    refine cl none (alive_con) trivial ?_
    sym =>
    simp [Zaa,Zab,Zac,Zad,Zae,Zaf,Zak,Zal,Zam,Zao,Zaz,Za0,Za1,Za2,Za3,Za4,Za5,Za6,Za7,Za8,Za9,Zba,Zbb,Zbc,Zbd,Zbe,Zbf,Zbg,Zbk,Zbt,Zbu,Zb7,Zb9,Zcn,Zcv,Zcx,Zc3,Zc7,Zc8,Zdc,Zdd,Zde,Zdf,Zdg,Zdh,Zdi,Zdj,Zdk,Zdm,Zdo,Zdp,Zdq,Zdr,Zdt,Zdu,Zdv,Zdw,Zdx,Zdy,Zdz,Zd0,Zd1,Zd2,Zec,Zek,Zen,Zeq,Zet,Zev,Zew,Zex,Zez,Ze0,Ze1,Ze2,Ze3,Ze5,Ze8,Zfc,Zfd,Zfe,Zfh,Zfi,Zfj,Zfl,Zfn,Zfz,Zf0,Zf3,Zf6,Zgd,Zgg,Zgr,Zgs,Zgt,Zhb,Zhc,Zhd,Zhe,Zhf,Zh6,Zh7,Zin,Zio,Zip,Ziu,Ziv,Ziw,Zi6,Zjh,Zji,Zjw,Zj7,Zka,Zkv,Zky,Zk0,Zk1,Zk4,Zla,Zlb,Zle,Zlf,Zlh,Zll,Zlm,Zls,Zlz,Zl2,Zmt,Zmv,Zmw,Zmx,Zmz,Zm2,Zm5,Zm9,Zna,Znb,Zne,Znf,Zng,Zos,Zot,Zo3,Zo4,Zo6,Zo7,Zo8,Zo9,Zpc,eq_self,true_and,and_true]
    tactic =>
    refine endA ?_
    sym =>
    simp [Zaa,Zab,Zac,Zad,Zae,Zaf,Zak,Zal,Zam,Zao,Zaz,Za0,Za1,Za2,Za3,Za4,Za5,Za6,Za7,Za8,Za9,Zba,Zbb,Zbc,Zbd,Zbe,Zbf,Zbg,Zbk,Zbt,Zbu,Zb7,Zb9,Zcn,Zcv,Zcx,Zc3,Zc7,Zc8,Zdc,Zdd,Zde,Zdf,Zdg,Zdh,Zdi,Zdj,Zdk,Zdm,Zdo,Zdp,Zdq,Zdr,Zdt,Zdu,Zdv,Zdw,Zdx,Zdy,Zdz,Zd0,Zd1,Zd2,Zec,Zek,Zen,Zeq,Zet,Zev,Zew,Zex,Zez,Ze0,Ze1,Ze2,Ze3,Ze5,Ze8,Zfc,Zfd,Zfe,Zfh,Zfi,Zfj,Zfl,Zfn,Zfz,Zf0,Zf3,Zf6,Zgd,Zgg,Zgr,Zgs,Zgt,Zhb,Zhc,Zhd,Zhe,Zhf,Zh6,Zh7,Zin,Zio,Zip,Ziu,Ziv,Ziw,Zi6,Zjh,Zji,Zjw,Zj7,Zka,Zkv,Zky,Zk0,Zk1,Zk4,Zla,Zlb,Zle,Zlf,Zlh,Zll,Zlm,Zls,Zlz,Zl2,Zmt,Zmv,Zmw,Zmx,Zmz,Zm2,Zm5,Zm9,Zna,Znb,Zne,Znf,Zng,Zos,Zot,Zo3,Zo4,Zo6,Zo7,Zo8,Zo9,Zpc,eq_self,true_and,and_true]
end Go.Proofs.Ythhccabdlajngaa.FrmW
