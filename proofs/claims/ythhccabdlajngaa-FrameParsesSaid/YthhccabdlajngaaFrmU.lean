import Derived.Test.YthhccabdlajngaaFrmT
namespace Go.Proofs.Ythhccabdlajngaa.FrmU
open Go Go.Sim Go.Sim.E Go.RowKit Go.Proofs Go.Proofs.Ythhccabdlajngaa.Cod Go.Proofs.Ythhccabdlajngaa.Tab Go.Proofs.Ythhccabdlajngaa.Bse Go.Proofs.Ythhccabdlajngaa.Krc Go.Proofs.Ythhccabdlajngaa.FrmA Go.Proofs.Ythhccabdlajngaa.FrmB Go.Proofs.Ythhccabdlajngaa.FrmC Go.Proofs.Ythhccabdlajngaa.FrmD Go.Proofs.Ythhccabdlajngaa.FrmE Go.Proofs.Ythhccabdlajngaa.FrmF Go.Proofs.Ythhccabdlajngaa.FrmN Go.Proofs.Ythhccabdlajngaa.FrmO Go.Proofs.Ythhccabdlajngaa.FrmO Go.Proofs.Ythhccabdlajngaa.FrmP Go.Proofs.Ythhccabdlajngaa.FrmQ Go.Proofs.Ythhccabdlajngaa.FrmR Go.Proofs.Ythhccabdlajngaa.FrmS Go.Proofs.Ythhccabdlajngaa.FrmT
set_option linter.unusedVariables false
set_option linter.unusedSimpArgs false
set_option maxRecDepth 100000
set_option maxHeartbeats 4000000
theorem rfields_con (k : Int) (h1 : 1 ≤ k) (h7 : k ≤ 7) (t : V 16) (es er : Int) (b : List Int) (hb : byt8 b) (hl : b.length ≤ 5000) : Con Try.prog 42 [] [.ag (fc k t es er 0 0 z32 .nl .nl 0), fB b] [] (.tu [.ag (fr (fdE k t es er b).1), I (fdE k t es er b).2]) := by
  have hk : k = 1 ∨ k = 2 ∨ k = 3 ∨ k = 4 ∨ k = 5 ∨ k = 6 ∨ k = 7 := by omega
  rcases hk with rfl | rfl | rfl | rfl | rfl | rfl | rfl
  · exact rfields1 t es er b hb hl
  · exact rfields2 t es er b hb hl
  · exact rfields3 t es er b hb hl
  · exact rfields4 t es er b hb hl
  · exact rfields5 t es er b hb hl
  · exact rfields6 t es er b hb hl
  · exact rfields7 t es er b hb hl
theorem fp_17 (k : Int) (t : V 16) (es er o n : Int) (su : V 32) (d r : AV) (c : Int) (a b : Int) : spl (fc k t es er o n su d r c) 17 [U a, U b] = fc k t a b o n su d r c := by
  have h1 := v16 t
  have := spl_app [U a, U b] [U es, U er] (I k :: cB t.1) (L o :: L n :: (cB su.1 ++ [d, r, I c])) rfl
  have e : (I k :: cB t.1).length = 17 := by simp [h1]
  rw [e] at this
  exact this
theorem tw_iff (c : List Int) (h : 2 ≤ c.length) : c.take 2 = [84, 87] ↔ c.getD 0 0 = 84 ∧ c.getD 1 0 = 87 := by
  rw [take_stepD c 1 (by omega), take_stepD c 0 (by omega)]
  simp
def i20 (c : List Int) (k : Int) (t : V 16) (es er : Int) (m : Nat) (st : St) : Prop := ∃ i : Nat, i + m = 16 ∧ st = ⟨[(0, fB c), (2, .pt 0 0), (5, .pt 1 0), (6, I (IN i))], [(0, ⟨fc 0 z16 0 0 0 0 z32 .nl .nl 0, 1, 0⟩), (1, ⟨fc k (pre16 t z16 i) es er 0 0 z32 .nl .nl 0, 1, 0⟩)], 2⟩
theorem s16_get {b : List Int} (h : 16 ≤ b.length) (i : Nat) (hi : i < 16) : (s16 b false).1.getD i 0 = b.getD i 0 := by
  rw [s16_eq h, getD_take _ _ _ hi]
theorem pre16_full (s z : V 16) : pre16 s z 16 = s := by
  apply Subtype.ext
  show s.1.take 16 ++ z.1.drop 16 = s.1
  rw [List.take_of_length_le (by rw [s.2]; decide), List.drop_of_length_le (by rw [z.2]; decide), List.append_nil]
theorem fc_sh (k : Int) (t : V 16) (es er o n : Int) (su : V 32) (a : Nat) (b : List AV) (a' : Nat) (b' : List AV) (c : Int) : (fc k t es er o n su (.fz a b) (.fz a' b') c).all sh1 = true := by
  refine List.all_eq_true.2 (fun x hx => ?_)
  have := fc_okI k t es er o n su (.fz a b) (.fz a' b') c rfl rfl x hx
  cases x <;> first | rfl | cases this
theorem fc_sg (hd : List Nat) (nid : Nat) (k : Int) (t : V 16) (es er o n : Int) (su : V 32) (a : Nat) (b : List AV) (a' : Nat) (b' : List AV) (c : Int) : (fc k t es er o n su (.fz a b) (.fz a' b') c).map (sg1 hd nid) = fc k t es er o n su (.fz a b) (.fz a' b') c := by
  have : ∀ l : List AV, okI l → l.map (sg1 hd nid) = l := by
    intro l hl
    induction l with
    | nil => rfl
    | cons x l ih =>
      rw [List.map_cons, ih (fun y hy => hl y (List.mem_cons_of_mem _ hy))]
      have hx := hl x (List.mem_cons_self ..)
      cases x <;> first | rfl | cases hx
  exact this _ (fc_okI k t es er o n su (.fz a b) (.fz a' b') c rfl rfl)
theorem rparse_con (b : List Int) (hb : byt8 b) (hl : b.length ≤ 5000) : Con Try.prog 20 [] [fB b] [] (.tu [.ag (fr (psF b).1), I (psF b).2]) := by
  have hop := ropen_con b hb (by omega)
  have hol := opF_le b
  have hob := opF_byt hb
  obtain ⟨R, hR⟩ : ∃ R, R = psF b := ⟨_, rfl⟩
  rw [← hR]
  unfold psF at hR
  obtain ⟨c, hc⟩ : ∃ R, R = (opF b).1 := ⟨_, rfl⟩
  obtain ⟨e, he⟩ : ∃ R, R = (opF b).2 := ⟨_, rfl⟩
  rw [← hc, ← he] at hop hR
  rw [← hc] at hol hob
  refine con_j b20 rfl ?_
  sym =>
  simp [Zaa,Zab,Zac,Zad,Zae,Zaf,Zag,Zah,Zai,Zak,Zal,Zam,Zan,Zao,Zap,Zaq,Zav,Zaw,Zaz,Za0,Za1,Za2,Za3,Za4,Za5,Za6,Za7,Za8,Za9,Zba,Zbb,Zbc,Zbd,Zbf,Zbg,Zbm,Zbt,Zbu,Zbv,Zbw,Zbz,Zb1,Zb2,Zb7,Zb8,Zb9,Zca,Zci,Zcn,Zcv,Zcw,Zc3,Zc4,Zc7,Zc8,Zc9,Zdc,Zdd,Zde,Zdf,Zdg,Zdh,Zdi,Zdj,Zdk,Zdm,Zrk,Zrl,Zrm,Zrn,Zro,Zrq,Zru,Zrx,Zry,Zrz,Zr5,Zr7,Zsf,Zsh,Zsj,Zsm,Zsn,Zso,Zsr,Zs0,Ztf,Ztg,Zdo,Zdp,Zdt,Zdu,Zdv,Zdw,Zdx,Zdy,Zdz,Zd0,Zd1,Zd2,Zd3,Zd6,Zeb,Zec,Zee,Zek,Zen,Zep,Zeq,Zer,Zes,Zet,Zev,Zew,Zex,Zez,Ze0,Ze1,Ze2,Ze3,Ze5,Ze8,Zfc,Zfd,Zfe,Zfh,Zfi,Zfj,Zfl,Zfn,Zfq,Zf0,Zf1,Zf3,Zgh,Zgi,Zgr,Zgs,Zgt,Zgu,Zgv,Zgw,Zgx,Zg1,Zg2,Zg4,Zg6,Zhb,Zhc,Zhd,Zhe,Zhf,Zhg,Zhh,Zhm,Zhn,Zho,Zhs,Zht,Zhu,Zh6,Zh7,Zin,Ziu,Ziv,Ziw,Zi6,Zi7,Zjh,Zji,Zjn,Zjr,Zj2,Zj4,Zj7,Zka,Zky,Zk0,Zk4,Zla,Zlb,Zlc,Zld,Zle,Zlf,Zlh,Zlk,Zll,Zlz,Zl2,Zmt,Zmv,Zmw,Zmx,Zmy,Zmz,Zm0,Zm1,Zm3,Zm5,Zm6,Zm7,Zm9,Zna,Znb,Zne,Znf,Zng,Znn,Zno,Znp,Znr,Zns,Znt,Znu,Znw,Znx,Zn5,Zob,Zof,Zog,Zrd,Zos,Zot,Zov,Zo3,Zo4,Zo6,Zo7,Zo8,Zo9,Zpb,Zpc,Zpd,Zpg,Zpi,Zpu,Zpv,Zp7,Zp9,Zqd,Zqe,Zqf,Zqg,Zqh,Zqi,Zqk,Zql,Zqm,Zqn,Zxa,List.length_drop,eq_self,true_and,and_true,Nat.mul_one,Bool.and_true,zF_fc,fc_0,fc_17,fc_18,fc_19,fc_20,fc_53,fc_54,fc_55,fs_0,fs_17,fs_18,fs_19,fs_20,fs_53,fs_54,fs_55,fp_1,fp_21,fp_f,rb_1,rb_21,rb_0,fc_len,fc_ok,fc_id,fc_rs,v16,v32,cB_cells,callable_40]
  tactic =>
  refine cl none (hop) trivial ?_
  by_cases h0 : e = 0
  rotate_left
  · rw [if_neg h0] at hR
    subst hR
    sym =>
    simp [Zaa,Zab,Zac,Zad,Zae,Zaf,Zag,Zah,Zai,Zak,Zal,Zam,Zan,Zao,Zap,Zaq,Zav,Zaw,Zaz,Za0,Za1,Za2,Za3,Za4,Za5,Za6,Za7,Za8,Za9,Zba,Zbb,Zbc,Zbd,Zbf,Zbg,Zbm,Zbt,Zbu,Zbv,Zbw,Zbz,Zb1,Zb2,Zb7,Zb8,Zb9,Zca,Zci,Zcn,Zcv,Zcw,Zc3,Zc4,Zc7,Zc8,Zc9,Zdc,Zdd,Zde,Zdf,Zdg,Zdh,Zdi,Zdj,Zdk,Zdm,Zrk,Zrl,Zrm,Zrn,Zro,Zrq,Zru,Zrx,Zry,Zrz,Zr5,Zr7,Zsf,Zsh,Zsj,Zsm,Zsn,Zso,Zsr,Zs0,Ztf,Ztg,Zdo,Zdp,Zdt,Zdu,Zdv,Zdw,Zdx,Zdy,Zdz,Zd0,Zd1,Zd2,Zd3,Zd6,Zeb,Zec,Zee,Zek,Zen,Zep,Zeq,Zer,Zes,Zet,Zev,Zew,Zex,Zez,Ze0,Ze1,Ze2,Ze3,Ze5,Ze8,Zfc,Zfd,Zfe,Zfh,Zfi,Zfj,Zfl,Zfn,Zfq,Zf0,Zf1,Zf3,Zgh,Zgi,Zgr,Zgs,Zgt,Zgu,Zgv,Zgw,Zgx,Zg1,Zg2,Zg4,Zg6,Zhb,Zhc,Zhd,Zhe,Zhf,Zhg,Zhh,Zhm,Zhn,Zho,Zhs,Zht,Zhu,Zh6,Zh7,Zin,Ziu,Ziv,Ziw,Zi6,Zi7,Zjh,Zji,Zjn,Zjr,Zj2,Zj4,Zj7,Zka,Zky,Zk0,Zk4,Zla,Zlb,Zlc,Zld,Zle,Zlf,Zlh,Zlk,Zll,Zlz,Zl2,Zmt,Zmv,Zmw,Zmx,Zmy,Zmz,Zm0,Zm1,Zm3,Zm5,Zm6,Zm7,Zm9,Zna,Znb,Zne,Znf,Zng,Znn,Zno,Znp,Znr,Zns,Znt,Znu,Znw,Znx,Zn5,Zob,Zof,Zog,Zrd,Zos,Zot,Zov,Zo3,Zo4,Zo6,Zo7,Zo8,Zo9,Zpb,Zpc,Zpd,Zpg,Zpi,Zpu,Zpv,Zp7,Zp9,Zqd,Zqe,Zqf,Zqg,Zqh,Zqi,Zqk,Zql,Zqm,Zqn,Zxa,List.length_drop,eq_self,true_and,and_true,Nat.mul_one,Bool.and_true,zF_fc,fc_0,fc_17,fc_18,fc_19,fc_20,fc_53,fc_54,fc_55,fs_0,fs_17,fs_18,fs_19,fs_20,fs_53,fs_54,fs_55,fp_1,fp_21,fp_f,rb_1,rb_21,rb_0,fc_len,fc_ok,fc_id,fc_rs,v16,v32,cB_cells,h0]
    tactic =>
    refine endA ?_
    simp only [fr, zFm]
    sym =>
    simp [Zaa,Zab,Zac,Zad,Zae,Zaf,Zag,Zah,Zai,Zak,Zal,Zam,Zan,Zao,Zap,Zaq,Zav,Zaw,Zaz,Za0,Za1,Za2,Za3,Za4,Za5,Za6,Za7,Za8,Za9,Zba,Zbb,Zbc,Zbd,Zbf,Zbg,Zbm,Zbt,Zbu,Zbv,Zbw,Zbz,Zb1,Zb2,Zb7,Zb8,Zb9,Zca,Zci,Zcn,Zcv,Zcw,Zc3,Zc4,Zc7,Zc8,Zc9,Zdc,Zdd,Zde,Zdf,Zdg,Zdh,Zdi,Zdj,Zdk,Zdm,Zrk,Zrl,Zrm,Zrn,Zro,Zrq,Zru,Zrx,Zry,Zrz,Zr5,Zr7,Zsf,Zsh,Zsj,Zsm,Zsn,Zso,Zsr,Zs0,Ztf,Ztg,Zdo,Zdp,Zdt,Zdu,Zdv,Zdw,Zdx,Zdy,Zdz,Zd0,Zd1,Zd2,Zd3,Zd6,Zeb,Zec,Zee,Zek,Zen,Zep,Zeq,Zer,Zes,Zet,Zev,Zew,Zex,Zez,Ze0,Ze1,Ze2,Ze3,Ze5,Ze8,Zfc,Zfd,Zfe,Zfh,Zfi,Zfj,Zfl,Zfn,Zfq,Zf0,Zf1,Zf3,Zgh,Zgi,Zgr,Zgs,Zgt,Zgu,Zgv,Zgw,Zgx,Zg1,Zg2,Zg4,Zg6,Zhb,Zhc,Zhd,Zhe,Zhf,Zhg,Zhh,Zhm,Zhn,Zho,Zhs,Zht,Zhu,Zh6,Zh7,Zin,Ziu,Ziv,Ziw,Zi6,Zi7,Zjh,Zji,Zjn,Zjr,Zj2,Zj4,Zj7,Zka,Zky,Zk0,Zk4,Zla,Zlb,Zlc,Zld,Zle,Zlf,Zlh,Zlk,Zll,Zlz,Zl2,Zmt,Zmv,Zmw,Zmx,Zmy,Zmz,Zm0,Zm1,Zm3,Zm5,Zm6,Zm7,Zm9,Zna,Znb,Zne,Znf,Zng,Znn,Zno,Znp,Znr,Zns,Znt,Znu,Znw,Znx,Zn5,Zob,Zof,Zog,Zrd,Zos,Zot,Zov,Zo3,Zo4,Zo6,Zo7,Zo8,Zo9,Zpb,Zpc,Zpd,Zpg,Zpi,Zpu,Zpv,Zp7,Zp9,Zqd,Zqe,Zqf,Zqg,Zqh,Zqi,Zqk,Zql,Zqm,Zqn,Zxa,List.length_drop,eq_self,true_and,and_true,Nat.mul_one,Bool.and_true,zF_fc,fc_0,fc_17,fc_18,fc_19,fc_20,fc_53,fc_54,fc_55,fs_0,fs_17,fs_18,fs_19,fs_20,fs_53,fs_54,fs_55,fp_1,fp_21,fp_f,rb_1,rb_21,rb_0,fc_len,fc_ok,fc_id,fc_rs,v16,v32,cB_cells]
    tactic =>
    exact ⟨rfl, rfl⟩
  rw [if_pos h0] at hR
  subst h0
  unfold ps1 at hR
  by_cases h28 : c.length < 28
  · rw [if_pos h28] at hR
    subst hR
    have h28' : IN c.length < (28 : Int) := by simp only [IN]; omega
    sym =>
    simp [Zaa,Zab,Zac,Zad,Zae,Zaf,Zag,Zah,Zai,Zak,Zal,Zam,Zan,Zao,Zap,Zaq,Zav,Zaw,Zaz,Za0,Za1,Za2,Za3,Za4,Za5,Za6,Za7,Za8,Za9,Zba,Zbb,Zbc,Zbd,Zbf,Zbg,Zbm,Zbt,Zbu,Zbv,Zbw,Zbz,Zb1,Zb2,Zb7,Zb8,Zb9,Zca,Zci,Zcn,Zcv,Zcw,Zc3,Zc4,Zc7,Zc8,Zc9,Zdc,Zdd,Zde,Zdf,Zdg,Zdh,Zdi,Zdj,Zdk,Zdm,Zrk,Zrl,Zrm,Zrn,Zro,Zrq,Zru,Zrx,Zry,Zrz,Zr5,Zr7,Zsf,Zsh,Zsj,Zsm,Zsn,Zso,Zsr,Zs0,Ztf,Ztg,Zdo,Zdp,Zdt,Zdu,Zdv,Zdw,Zdx,Zdy,Zdz,Zd0,Zd1,Zd2,Zd3,Zd6,Zeb,Zec,Zee,Zek,Zen,Zep,Zeq,Zer,Zes,Zet,Zev,Zew,Zex,Zez,Ze0,Ze1,Ze2,Ze3,Ze5,Ze8,Zfc,Zfd,Zfe,Zfh,Zfi,Zfj,Zfl,Zfn,Zfq,Zf0,Zf1,Zf3,Zgh,Zgi,Zgr,Zgs,Zgt,Zgu,Zgv,Zgw,Zgx,Zg1,Zg2,Zg4,Zg6,Zhb,Zhc,Zhd,Zhe,Zhf,Zhg,Zhh,Zhm,Zhn,Zho,Zhs,Zht,Zhu,Zh6,Zh7,Zin,Ziu,Ziv,Ziw,Zi6,Zi7,Zjh,Zji,Zjn,Zjr,Zj2,Zj4,Zj7,Zka,Zky,Zk0,Zk4,Zla,Zlb,Zlc,Zld,Zle,Zlf,Zlh,Zlk,Zll,Zlz,Zl2,Zmt,Zmv,Zmw,Zmx,Zmy,Zmz,Zm0,Zm1,Zm3,Zm5,Zm6,Zm7,Zm9,Zna,Znb,Zne,Znf,Zng,Znn,Zno,Znp,Znr,Zns,Znt,Znu,Znw,Znx,Zn5,Zob,Zof,Zog,Zrd,Zos,Zot,Zov,Zo3,Zo4,Zo6,Zo7,Zo8,Zo9,Zpb,Zpc,Zpd,Zpg,Zpi,Zpu,Zpv,Zp7,Zp9,Zqd,Zqe,Zqf,Zqg,Zqh,Zqi,Zqk,Zql,Zqm,Zqn,Zxa,List.length_drop,eq_self,true_and,and_true,Nat.mul_one,Bool.and_true,zF_fc,fc_0,fc_17,fc_18,fc_19,fc_20,fc_53,fc_54,fc_55,fs_0,fs_17,fs_18,fs_19,fs_20,fs_53,fs_54,fs_55,fp_1,fp_21,fp_f,rb_1,rb_21,rb_0,fc_len,fc_ok,fc_id,fc_rs,v16,v32,cB_cells,h28']
    tactic =>
    refine endA ?_
    simp only [fr, zFm]
    sym =>
    simp [Zaa,Zab,Zac,Zad,Zae,Zaf,Zag,Zah,Zai,Zak,Zal,Zam,Zan,Zao,Zap,Zaq,Zav,Zaw,Zaz,Za0,Za1,Za2,Za3,Za4,Za5,Za6,Za7,Za8,Za9,Zba,Zbb,Zbc,Zbd,Zbf,Zbg,Zbm,Zbt,Zbu,Zbv,Zbw,Zbz,Zb1,Zb2,Zb7,Zb8,Zb9,Zca,Zci,Zcn,Zcv,Zcw,Zc3,Zc4,Zc7,Zc8,Zc9,Zdc,Zdd,Zde,Zdf,Zdg,Zdh,Zdi,Zdj,Zdk,Zdm,Zrk,Zrl,Zrm,Zrn,Zro,Zrq,Zru,Zrx,Zry,Zrz,Zr5,Zr7,Zsf,Zsh,Zsj,Zsm,Zsn,Zso,Zsr,Zs0,Ztf,Ztg,Zdo,Zdp,Zdt,Zdu,Zdv,Zdw,Zdx,Zdy,Zdz,Zd0,Zd1,Zd2,Zd3,Zd6,Zeb,Zec,Zee,Zek,Zen,Zep,Zeq,Zer,Zes,Zet,Zev,Zew,Zex,Zez,Ze0,Ze1,Ze2,Ze3,Ze5,Ze8,Zfc,Zfd,Zfe,Zfh,Zfi,Zfj,Zfl,Zfn,Zfq,Zf0,Zf1,Zf3,Zgh,Zgi,Zgr,Zgs,Zgt,Zgu,Zgv,Zgw,Zgx,Zg1,Zg2,Zg4,Zg6,Zhb,Zhc,Zhd,Zhe,Zhf,Zhg,Zhh,Zhm,Zhn,Zho,Zhs,Zht,Zhu,Zh6,Zh7,Zin,Ziu,Ziv,Ziw,Zi6,Zi7,Zjh,Zji,Zjn,Zjr,Zj2,Zj4,Zj7,Zka,Zky,Zk0,Zk4,Zla,Zlb,Zlc,Zld,Zle,Zlf,Zlh,Zlk,Zll,Zlz,Zl2,Zmt,Zmv,Zmw,Zmx,Zmy,Zmz,Zm0,Zm1,Zm3,Zm5,Zm6,Zm7,Zm9,Zna,Znb,Zne,Znf,Zng,Znn,Zno,Znp,Znr,Zns,Znt,Znu,Znw,Znx,Zn5,Zob,Zof,Zog,Zrd,Zos,Zot,Zov,Zo3,Zo4,Zo6,Zo7,Zo8,Zo9,Zpb,Zpc,Zpd,Zpg,Zpi,Zpu,Zpv,Zp7,Zp9,Zqd,Zqe,Zqf,Zqg,Zqh,Zqi,Zqk,Zql,Zqm,Zqn,Zxa,List.length_drop,eq_self,true_and,and_true,Nat.mul_one,Bool.and_true,zF_fc,fc_0,fc_17,fc_18,fc_19,fc_20,fc_53,fc_54,fc_55,fs_0,fs_17,fs_18,fs_19,fs_20,fs_53,fs_54,fs_55,fp_1,fp_21,fp_f,rb_1,rb_21,rb_0,fc_len,fc_ok,fc_id,fc_rs,v16,v32,cB_cells]
    tactic =>
    exact ⟨rfl, rfl⟩
  rw [if_neg h28] at hR
  have h28' : ¬ IN c.length < (28 : Int) := by simp only [IN]; omega
  have htw := tw_iff c (by omega)
  have g0 := cB_get c 0 (by omega)
  have g1 := cB_get c 1 (by omega)
  have g2 := cB_get c 2 (by omega)
  have g3 := cB_get c 3 (by omega)
  have b2 := byt8_get hob 2
  have b3 := byt8_get hob 3
  have hq := cB_length c
  have n1 : (1 : Int).toNat = 1 := rfl
  have n2 : (2 : Int).toNat = 2 := rfl
  have n3 : (3 : Int).toNat = 3 := rfl
  obtain ⟨c0, hc0⟩ : ∃ x, x = c.getD 0 0 := ⟨_, rfl⟩
  obtain ⟨c1, hc1⟩ : ∃ x, x = c.getD 1 0 := ⟨_, rfl⟩
  obtain ⟨k, hk⟩ : ∃ x, x = c.getD 2 0 := ⟨_, rfl⟩
  obtain ⟨mk, hmk⟩ : ∃ x, x = c.getD 3 0 := ⟨_, rfl⟩
  rw [← hc0, ← hc1] at htw
  rw [← hc0] at g0
  rw [← hc1] at g1
  rw [← hk] at g2 b2 hR
  rw [← hmk] at g3 b3 hR
  by_cases hp : c.take 2 = [84, 87]
  rotate_left
  · rw [if_neg hp] at hR
    subst hR
    by_cases hp0 : c0 = 84
    · have hp1 : ¬ c1 = 87 := fun h => hp (htw.2 ⟨hp0, h⟩)
      sym =>
      simp [Zaa,Zab,Zac,Zad,Zae,Zaf,Zag,Zah,Zai,Zak,Zal,Zam,Zan,Zao,Zap,Zaq,Zav,Zaw,Zaz,Za0,Za1,Za2,Za3,Za4,Za5,Za6,Za7,Za8,Za9,Zba,Zbb,Zbc,Zbd,Zbf,Zbg,Zbm,Zbt,Zbu,Zbv,Zbw,Zbz,Zb1,Zb2,Zb7,Zb8,Zb9,Zca,Zci,Zcn,Zcv,Zcw,Zc3,Zc4,Zc7,Zc8,Zc9,Zdc,Zdd,Zde,Zdf,Zdg,Zdh,Zdi,Zdj,Zdk,Zdm,Zrk,Zrl,Zrm,Zrn,Zro,Zrq,Zru,Zrx,Zry,Zrz,Zr5,Zr7,Zsf,Zsh,Zsj,Zsm,Zsn,Zso,Zsr,Zs0,Ztf,Ztg,Zdo,Zdp,Zdt,Zdu,Zdv,Zdw,Zdx,Zdy,Zdz,Zd0,Zd1,Zd2,Zd3,Zd6,Zeb,Zec,Zee,Zek,Zen,Zep,Zeq,Zer,Zes,Zet,Zev,Zew,Zex,Zez,Ze0,Ze1,Ze2,Ze3,Ze5,Ze8,Zfc,Zfd,Zfe,Zfh,Zfi,Zfj,Zfl,Zfn,Zfq,Zf0,Zf1,Zf3,Zgh,Zgi,Zgr,Zgs,Zgt,Zgu,Zgv,Zgw,Zgx,Zg1,Zg2,Zg4,Zg6,Zhb,Zhc,Zhd,Zhe,Zhf,Zhg,Zhh,Zhm,Zhn,Zho,Zhs,Zht,Zhu,Zh6,Zh7,Zin,Ziu,Ziv,Ziw,Zi6,Zi7,Zjh,Zji,Zjn,Zjr,Zj2,Zj4,Zj7,Zka,Zky,Zk0,Zk4,Zla,Zlb,Zlc,Zld,Zle,Zlf,Zlh,Zlk,Zll,Zlz,Zl2,Zmt,Zmv,Zmw,Zmx,Zmy,Zmz,Zm0,Zm1,Zm3,Zm5,Zm6,Zm7,Zm9,Zna,Znb,Zne,Znf,Zng,Znn,Zno,Znp,Znr,Zns,Znt,Znu,Znw,Znx,Zn5,Zob,Zof,Zog,Zrd,Zos,Zot,Zov,Zo3,Zo4,Zo6,Zo7,Zo8,Zo9,Zpb,Zpc,Zpd,Zpg,Zpi,Zpu,Zpv,Zp7,Zp9,Zqd,Zqe,Zqf,Zqg,Zqh,Zqi,Zqk,Zql,Zqm,Zqn,Zxa,List.length_drop,eq_self,true_and,and_true,Nat.mul_one,Bool.and_true,zF_fc,fc_0,fc_17,fc_18,fc_19,fc_20,fc_53,fc_54,fc_55,fs_0,fs_17,fs_18,fs_19,fs_20,fs_53,fs_54,fs_55,fp_1,fp_21,fp_f,rb_1,rb_21,rb_0,fc_len,fc_ok,fc_id,fc_rs,v16,v32,cB_cells,h28',g0,g1,hp0,hp1,n1]
      tactic =>
      and_intros <;> try (first | omega | rfl | assumption | simp only [IN]; omega)
      refine endA ?_
      simp only [fr, zFm]
      sym =>
      simp [Zaa,Zab,Zac,Zad,Zae,Zaf,Zag,Zah,Zai,Zak,Zal,Zam,Zan,Zao,Zap,Zaq,Zav,Zaw,Zaz,Za0,Za1,Za2,Za3,Za4,Za5,Za6,Za7,Za8,Za9,Zba,Zbb,Zbc,Zbd,Zbf,Zbg,Zbm,Zbt,Zbu,Zbv,Zbw,Zbz,Zb1,Zb2,Zb7,Zb8,Zb9,Zca,Zci,Zcn,Zcv,Zcw,Zc3,Zc4,Zc7,Zc8,Zc9,Zdc,Zdd,Zde,Zdf,Zdg,Zdh,Zdi,Zdj,Zdk,Zdm,Zrk,Zrl,Zrm,Zrn,Zro,Zrq,Zru,Zrx,Zry,Zrz,Zr5,Zr7,Zsf,Zsh,Zsj,Zsm,Zsn,Zso,Zsr,Zs0,Ztf,Ztg,Zdo,Zdp,Zdt,Zdu,Zdv,Zdw,Zdx,Zdy,Zdz,Zd0,Zd1,Zd2,Zd3,Zd6,Zeb,Zec,Zee,Zek,Zen,Zep,Zeq,Zer,Zes,Zet,Zev,Zew,Zex,Zez,Ze0,Ze1,Ze2,Ze3,Ze5,Ze8,Zfc,Zfd,Zfe,Zfh,Zfi,Zfj,Zfl,Zfn,Zfq,Zf0,Zf1,Zf3,Zgh,Zgi,Zgr,Zgs,Zgt,Zgu,Zgv,Zgw,Zgx,Zg1,Zg2,Zg4,Zg6,Zhb,Zhc,Zhd,Zhe,Zhf,Zhg,Zhh,Zhm,Zhn,Zho,Zhs,Zht,Zhu,Zh6,Zh7,Zin,Ziu,Ziv,Ziw,Zi6,Zi7,Zjh,Zji,Zjn,Zjr,Zj2,Zj4,Zj7,Zka,Zky,Zk0,Zk4,Zla,Zlb,Zlc,Zld,Zle,Zlf,Zlh,Zlk,Zll,Zlz,Zl2,Zmt,Zmv,Zmw,Zmx,Zmy,Zmz,Zm0,Zm1,Zm3,Zm5,Zm6,Zm7,Zm9,Zna,Znb,Zne,Znf,Zng,Znn,Zno,Znp,Znr,Zns,Znt,Znu,Znw,Znx,Zn5,Zob,Zof,Zog,Zrd,Zos,Zot,Zov,Zo3,Zo4,Zo6,Zo7,Zo8,Zo9,Zpb,Zpc,Zpd,Zpg,Zpi,Zpu,Zpv,Zp7,Zp9,Zqd,Zqe,Zqf,Zqg,Zqh,Zqi,Zqk,Zql,Zqm,Zqn,Zxa,List.length_drop,eq_self,true_and,and_true,Nat.mul_one,Bool.and_true,zF_fc,fc_0,fc_17,fc_18,fc_19,fc_20,fc_53,fc_54,fc_55,fs_0,fs_17,fs_18,fs_19,fs_20,fs_53,fs_54,fs_55,fp_1,fp_21,fp_f,rb_1,rb_21,rb_0,fc_len,fc_ok,fc_id,fc_rs,v16,v32,cB_cells]
      tactic =>
      exact ⟨rfl, rfl⟩
    · sym =>
      simp [Zaa,Zab,Zac,Zad,Zae,Zaf,Zag,Zah,Zai,Zak,Zal,Zam,Zan,Zao,Zap,Zaq,Zav,Zaw,Zaz,Za0,Za1,Za2,Za3,Za4,Za5,Za6,Za7,Za8,Za9,Zba,Zbb,Zbc,Zbd,Zbf,Zbg,Zbm,Zbt,Zbu,Zbv,Zbw,Zbz,Zb1,Zb2,Zb7,Zb8,Zb9,Zca,Zci,Zcn,Zcv,Zcw,Zc3,Zc4,Zc7,Zc8,Zc9,Zdc,Zdd,Zde,Zdf,Zdg,Zdh,Zdi,Zdj,Zdk,Zdm,Zrk,Zrl,Zrm,Zrn,Zro,Zrq,Zru,Zrx,Zry,Zrz,Zr5,Zr7,Zsf,Zsh,Zsj,Zsm,Zsn,Zso,Zsr,Zs0,Ztf,Ztg,Zdo,Zdp,Zdt,Zdu,Zdv,Zdw,Zdx,Zdy,Zdz,Zd0,Zd1,Zd2,Zd3,Zd6,Zeb,Zec,Zee,Zek,Zen,Zep,Zeq,Zer,Zes,Zet,Zev,Zew,Zex,Zez,Ze0,Ze1,Ze2,Ze3,Ze5,Ze8,Zfc,Zfd,Zfe,Zfh,Zfi,Zfj,Zfl,Zfn,Zfq,Zf0,Zf1,Zf3,Zgh,Zgi,Zgr,Zgs,Zgt,Zgu,Zgv,Zgw,Zgx,Zg1,Zg2,Zg4,Zg6,Zhb,Zhc,Zhd,Zhe,Zhf,Zhg,Zhh,Zhm,Zhn,Zho,Zhs,Zht,Zhu,Zh6,Zh7,Zin,Ziu,Ziv,Ziw,Zi6,Zi7,Zjh,Zji,Zjn,Zjr,Zj2,Zj4,Zj7,Zka,Zky,Zk0,Zk4,Zla,Zlb,Zlc,Zld,Zle,Zlf,Zlh,Zlk,Zll,Zlz,Zl2,Zmt,Zmv,Zmw,Zmx,Zmy,Zmz,Zm0,Zm1,Zm3,Zm5,Zm6,Zm7,Zm9,Zna,Znb,Zne,Znf,Zng,Znn,Zno,Znp,Znr,Zns,Znt,Znu,Znw,Znx,Zn5,Zob,Zof,Zog,Zrd,Zos,Zot,Zov,Zo3,Zo4,Zo6,Zo7,Zo8,Zo9,Zpb,Zpc,Zpd,Zpg,Zpi,Zpu,Zpv,Zp7,Zp9,Zqd,Zqe,Zqf,Zqg,Zqh,Zqi,Zqk,Zql,Zqm,Zqn,Zxa,List.length_drop,eq_self,true_and,and_true,Nat.mul_one,Bool.and_true,zF_fc,fc_0,fc_17,fc_18,fc_19,fc_20,fc_53,fc_54,fc_55,fs_0,fs_17,fs_18,fs_19,fs_20,fs_53,fs_54,fs_55,fp_1,fp_21,fp_f,rb_1,rb_21,rb_0,fc_len,fc_ok,fc_id,fc_rs,v16,v32,cB_cells,h28',g0,g1,hp0,n1]
      tactic =>
      and_intros <;> try (first | omega | rfl | assumption | simp only [IN]; omega)
      refine endA ?_
      simp only [fr, zFm]
      sym =>
      simp [Zaa,Zab,Zac,Zad,Zae,Zaf,Zag,Zah,Zai,Zak,Zal,Zam,Zan,Zao,Zap,Zaq,Zav,Zaw,Zaz,Za0,Za1,Za2,Za3,Za4,Za5,Za6,Za7,Za8,Za9,Zba,Zbb,Zbc,Zbd,Zbf,Zbg,Zbm,Zbt,Zbu,Zbv,Zbw,Zbz,Zb1,Zb2,Zb7,Zb8,Zb9,Zca,Zci,Zcn,Zcv,Zcw,Zc3,Zc4,Zc7,Zc8,Zc9,Zdc,Zdd,Zde,Zdf,Zdg,Zdh,Zdi,Zdj,Zdk,Zdm,Zrk,Zrl,Zrm,Zrn,Zro,Zrq,Zru,Zrx,Zry,Zrz,Zr5,Zr7,Zsf,Zsh,Zsj,Zsm,Zsn,Zso,Zsr,Zs0,Ztf,Ztg,Zdo,Zdp,Zdt,Zdu,Zdv,Zdw,Zdx,Zdy,Zdz,Zd0,Zd1,Zd2,Zd3,Zd6,Zeb,Zec,Zee,Zek,Zen,Zep,Zeq,Zer,Zes,Zet,Zev,Zew,Zex,Zez,Ze0,Ze1,Ze2,Ze3,Ze5,Ze8,Zfc,Zfd,Zfe,Zfh,Zfi,Zfj,Zfl,Zfn,Zfq,Zf0,Zf1,Zf3,Zgh,Zgi,Zgr,Zgs,Zgt,Zgu,Zgv,Zgw,Zgx,Zg1,Zg2,Zg4,Zg6,Zhb,Zhc,Zhd,Zhe,Zhf,Zhg,Zhh,Zhm,Zhn,Zho,Zhs,Zht,Zhu,Zh6,Zh7,Zin,Ziu,Ziv,Ziw,Zi6,Zi7,Zjh,Zji,Zjn,Zjr,Zj2,Zj4,Zj7,Zka,Zky,Zk0,Zk4,Zla,Zlb,Zlc,Zld,Zle,Zlf,Zlh,Zlk,Zll,Zlz,Zl2,Zmt,Zmv,Zmw,Zmx,Zmy,Zmz,Zm0,Zm1,Zm3,Zm5,Zm6,Zm7,Zm9,Zna,Znb,Zne,Znf,Zng,Znn,Zno,Znp,Znr,Zns,Znt,Znu,Znw,Znx,Zn5,Zob,Zof,Zog,Zrd,Zos,Zot,Zov,Zo3,Zo4,Zo6,Zo7,Zo8,Zo9,Zpb,Zpc,Zpd,Zpg,Zpi,Zpu,Zpv,Zp7,Zp9,Zqd,Zqe,Zqf,Zqg,Zqh,Zqi,Zqk,Zql,Zqm,Zqn,Zxa,List.length_drop,eq_self,true_and,and_true,Nat.mul_one,Bool.and_true,zF_fc,fc_0,fc_17,fc_18,fc_19,fc_20,fc_53,fc_54,fc_55,fs_0,fs_17,fs_18,fs_19,fs_20,fs_53,fs_54,fs_55,fp_1,fp_21,fp_f,rb_1,rb_21,rb_0,fc_len,fc_ok,fc_id,fc_rs,v16,v32,cB_cells]
      tactic =>
      exact ⟨rfl, rfl⟩
  rw [if_pos hp] at hR
  obtain ⟨hp0, hp1⟩ := htw.1 hp
  have q1 : 0 ≤ S4 c 20 ∧ S4 c 20 < 4294967296 := ofN4 (byt8_take (byt8_drop hob _) _)
  have q2 : 0 ≤ S4 c 24 ∧ S4 c 24 < 4294967296 := ofN4 (byt8_take (byt8_drop hob _) _)
  have s1 : List.take 4 (List.drop 20 (cB c)) = cB ((c.drop 20).take 4) := by rw [cB_take, cB_drop]
  have s2 : List.take 4 (List.drop 24 (cB c)) = cB ((c.drop 24).take 4) := by rw [cB_take, cB_drop]
  have hx1 : Con Try.prog 41 [] [.fz 4 (cB ((c.drop 20).take 4))] [] (L (S4 c 20)) := of8 (byt8_take (byt8_drop hob 20) 4) 4 (by rw [List.length_take, List.length_drop]; omega) (by decide)
  have hx2 : Con Try.prog 41 [] [.fz 4 (cB ((c.drop 24).take 4))] [] (L (S4 c 24)) := of8 (byt8_take (byt8_drop hob 24) 4) 4 (by rw [List.length_take, List.length_drop]; omega) (by decide)
  obtain ⟨es, hes⟩ : ∃ k, k = S4 c 20 := ⟨_, rfl⟩
  obtain ⟨er, her⟩ : ∃ k, k = S4 c 24 := ⟨_, rfl⟩
  rw [← hes] at q1 hx1 hR
  rw [← her] at q2 hx2 hR
  have cm := rmark_con es er q1 q2
  have hwk : IntKind.i64.wrap k = k := w64 _ (by omega)
  have hws : IntKind.u32.wrap es = es := by rw [w32u]; omega
  have hwr : IntKind.u32.wrap er = er := by rw [w32u]; omega
  have l20 : 20 ≤ c.length := by omega
  have l24 : 24 ≤ c.length := by omega
  sym =>
  simp [Zaa,Zab,Zac,Zad,Zae,Zaf,Zag,Zah,Zai,Zak,Zal,Zam,Zan,Zao,Zap,Zaq,Zav,Zaw,Zaz,Za0,Za1,Za2,Za3,Za4,Za5,Za6,Za7,Za8,Za9,Zba,Zbb,Zbc,Zbd,Zbf,Zbg,Zbm,Zbt,Zbu,Zbv,Zbw,Zbz,Zb1,Zb2,Zb7,Zb8,Zb9,Zca,Zci,Zcn,Zcv,Zcw,Zc3,Zc4,Zc7,Zc8,Zc9,Zdc,Zdd,Zde,Zdf,Zdg,Zdh,Zdi,Zdj,Zdk,Zdm,Zrk,Zrl,Zrm,Zrn,Zro,Zrq,Zru,Zrx,Zry,Zrz,Zr5,Zr7,Zsf,Zsh,Zsj,Zsm,Zsn,Zso,Zsr,Zs0,Ztf,Ztg,Zdo,Zdp,Zdt,Zdu,Zdv,Zdw,Zdx,Zdy,Zdz,Zd0,Zd1,Zd2,Zd3,Zd6,Zeb,Zec,Zee,Zek,Zen,Zep,Zeq,Zer,Zes,Zet,Zev,Zew,Zex,Zez,Ze0,Ze1,Ze2,Ze3,Ze5,Ze8,Zfc,Zfd,Zfe,Zfh,Zfi,Zfj,Zfl,Zfn,Zfq,Zf0,Zf1,Zf3,Zgh,Zgi,Zgr,Zgs,Zgt,Zgu,Zgv,Zgw,Zgx,Zg1,Zg2,Zg4,Zg6,Zhb,Zhc,Zhd,Zhe,Zhf,Zhg,Zhh,Zhm,Zhn,Zho,Zhs,Zht,Zhu,Zh6,Zh7,Zin,Ziu,Ziv,Ziw,Zi6,Zi7,Zjh,Zji,Zjn,Zjr,Zj2,Zj4,Zj7,Zka,Zky,Zk0,Zk4,Zla,Zlb,Zlc,Zld,Zle,Zlf,Zlh,Zlk,Zll,Zlz,Zl2,Zmt,Zmv,Zmw,Zmx,Zmy,Zmz,Zm0,Zm1,Zm3,Zm5,Zm6,Zm7,Zm9,Zna,Znb,Zne,Znf,Zng,Znn,Zno,Znp,Znr,Zns,Znt,Znu,Znw,Znx,Zn5,Zob,Zof,Zog,Zrd,Zos,Zot,Zov,Zo3,Zo4,Zo6,Zo7,Zo8,Zo9,Zpb,Zpc,Zpd,Zpg,Zpi,Zpu,Zpv,Zp7,Zp9,Zqd,Zqe,Zqf,Zqg,Zqh,Zqi,Zqk,Zql,Zqm,Zqn,Zxa,List.length_drop,eq_self,true_and,and_true,Nat.mul_one,Bool.and_true,zF_fc,fc_0,fc_17,fc_18,fc_19,fc_20,fc_53,fc_54,fc_55,fs_0,fs_17,fs_18,fs_19,fs_20,fs_53,fs_54,fs_55,fp_1,fp_21,fp_f,rb_1,rb_21,rb_0,fc_len,fc_ok,fc_id,fc_rs,v16,v32,cB_cells,h28',g0,g1,g2,hp0,hp1,n1,n2,s1,s2,hwk,l20,l24,callable_41]
  tactic =>
  and_intros <;> try (first | omega | rfl | assumption | simp only [IN]; omega)
  refine cl none (hx1) trivial ?_
  sym =>
  simp [Zaa,Zab,Zac,Zad,Zae,Zaf,Zag,Zah,Zai,Zak,Zal,Zam,Zan,Zao,Zap,Zaq,Zav,Zaw,Zaz,Za0,Za1,Za2,Za3,Za4,Za5,Za6,Za7,Za8,Za9,Zba,Zbb,Zbc,Zbd,Zbf,Zbg,Zbm,Zbt,Zbu,Zbv,Zbw,Zbz,Zb1,Zb2,Zb7,Zb8,Zb9,Zca,Zci,Zcn,Zcv,Zcw,Zc3,Zc4,Zc7,Zc8,Zc9,Zdc,Zdd,Zde,Zdf,Zdg,Zdh,Zdi,Zdj,Zdk,Zdm,Zrk,Zrl,Zrm,Zrn,Zro,Zrq,Zru,Zrx,Zry,Zrz,Zr5,Zr7,Zsf,Zsh,Zsj,Zsm,Zsn,Zso,Zsr,Zs0,Ztf,Ztg,Zdo,Zdp,Zdt,Zdu,Zdv,Zdw,Zdx,Zdy,Zdz,Zd0,Zd1,Zd2,Zd3,Zd6,Zeb,Zec,Zee,Zek,Zen,Zep,Zeq,Zer,Zes,Zet,Zev,Zew,Zex,Zez,Ze0,Ze1,Ze2,Ze3,Ze5,Ze8,Zfc,Zfd,Zfe,Zfh,Zfi,Zfj,Zfl,Zfn,Zfq,Zf0,Zf1,Zf3,Zgh,Zgi,Zgr,Zgs,Zgt,Zgu,Zgv,Zgw,Zgx,Zg1,Zg2,Zg4,Zg6,Zhb,Zhc,Zhd,Zhe,Zhf,Zhg,Zhh,Zhm,Zhn,Zho,Zhs,Zht,Zhu,Zh6,Zh7,Zin,Ziu,Ziv,Ziw,Zi6,Zi7,Zjh,Zji,Zjn,Zjr,Zj2,Zj4,Zj7,Zka,Zky,Zk0,Zk4,Zla,Zlb,Zlc,Zld,Zle,Zlf,Zlh,Zlk,Zll,Zlz,Zl2,Zmt,Zmv,Zmw,Zmx,Zmy,Zmz,Zm0,Zm1,Zm3,Zm5,Zm6,Zm7,Zm9,Zna,Znb,Zne,Znf,Zng,Znn,Zno,Znp,Znr,Zns,Znt,Znu,Znw,Znx,Zn5,Zob,Zof,Zog,Zrd,Zos,Zot,Zov,Zo3,Zo4,Zo6,Zo7,Zo8,Zo9,Zpb,Zpc,Zpd,Zpg,Zpi,Zpu,Zpv,Zp7,Zp9,Zqd,Zqe,Zqf,Zqg,Zqh,Zqi,Zqk,Zql,Zqm,Zqn,Zxa,List.length_drop,eq_self,true_and,and_true,Nat.mul_one,Bool.and_true,zF_fc,fc_0,fc_17,fc_18,fc_19,fc_20,fc_53,fc_54,fc_55,fs_0,fs_17,fs_18,fs_19,fs_20,fs_53,fs_54,fs_55,fp_1,fp_21,fp_f,rb_1,rb_21,rb_0,fc_len,fc_ok,fc_id,fc_rs,v16,v32,cB_cells,hws,s2,l24,callable_41]
  tactic =>
  and_intros <;> try (first | omega | rfl | assumption | simp only [IN]; omega)
  refine cl none (hx2) trivial ?_
  sym =>
  simp [Zaa,Zab,Zac,Zad,Zae,Zaf,Zag,Zah,Zai,Zak,Zal,Zam,Zan,Zao,Zap,Zaq,Zav,Zaw,Zaz,Za0,Za1,Za2,Za3,Za4,Za5,Za6,Za7,Za8,Za9,Zba,Zbb,Zbc,Zbd,Zbf,Zbg,Zbm,Zbt,Zbu,Zbv,Zbw,Zbz,Zb1,Zb2,Zb7,Zb8,Zb9,Zca,Zci,Zcn,Zcv,Zcw,Zc3,Zc4,Zc7,Zc8,Zc9,Zdc,Zdd,Zde,Zdf,Zdg,Zdh,Zdi,Zdj,Zdk,Zdm,Zrk,Zrl,Zrm,Zrn,Zro,Zrq,Zru,Zrx,Zry,Zrz,Zr5,Zr7,Zsf,Zsh,Zsj,Zsm,Zsn,Zso,Zsr,Zs0,Ztf,Ztg,Zdo,Zdp,Zdt,Zdu,Zdv,Zdw,Zdx,Zdy,Zdz,Zd0,Zd1,Zd2,Zd3,Zd6,Zeb,Zec,Zee,Zek,Zen,Zep,Zeq,Zer,Zes,Zet,Zev,Zew,Zex,Zez,Ze0,Ze1,Ze2,Ze3,Ze5,Ze8,Zfc,Zfd,Zfe,Zfh,Zfi,Zfj,Zfl,Zfn,Zfq,Zf0,Zf1,Zf3,Zgh,Zgi,Zgr,Zgs,Zgt,Zgu,Zgv,Zgw,Zgx,Zg1,Zg2,Zg4,Zg6,Zhb,Zhc,Zhd,Zhe,Zhf,Zhg,Zhh,Zhm,Zhn,Zho,Zhs,Zht,Zhu,Zh6,Zh7,Zin,Ziu,Ziv,Ziw,Zi6,Zi7,Zjh,Zji,Zjn,Zjr,Zj2,Zj4,Zj7,Zka,Zky,Zk0,Zk4,Zla,Zlb,Zlc,Zld,Zle,Zlf,Zlh,Zlk,Zll,Zlz,Zl2,Zmt,Zmv,Zmw,Zmx,Zmy,Zmz,Zm0,Zm1,Zm3,Zm5,Zm6,Zm7,Zm9,Zna,Znb,Zne,Znf,Zng,Znn,Zno,Znp,Znr,Zns,Znt,Znu,Znw,Znx,Zn5,Zob,Zof,Zog,Zrd,Zos,Zot,Zov,Zo3,Zo4,Zo6,Zo7,Zo8,Zo9,Zpb,Zpc,Zpd,Zpg,Zpi,Zpu,Zpv,Zp7,Zp9,Zqd,Zqe,Zqf,Zqg,Zqh,Zqi,Zqk,Zql,Zqm,Zqn,Zxa,List.length_drop,eq_self,true_and,and_true,Nat.mul_one,Bool.and_true,zF_fc,fc_0,fc_17,fc_18,fc_19,fc_20,fc_53,fc_54,fc_55,fs_0,fs_17,fs_18,fs_19,fs_20,fs_53,fs_54,fs_55,fp_1,fp_21,fp_f,rb_1,rb_21,rb_0,fc_len,fc_ok,fc_id,fc_rs,v16,v32,cB_cells,hwr,fp_17]
  tactic =>
  and_intros <;> try (first | omega | rfl | assumption | simp only [IN]; omega)
  by_cases h1 : k < 1
  · rw [if_pos h1] at hR
    subst hR
    sym =>
    simp [Zaa,Zab,Zac,Zad,Zae,Zaf,Zag,Zah,Zai,Zak,Zal,Zam,Zan,Zao,Zap,Zaq,Zav,Zaw,Zaz,Za0,Za1,Za2,Za3,Za4,Za5,Za6,Za7,Za8,Za9,Zba,Zbb,Zbc,Zbd,Zbf,Zbg,Zbm,Zbt,Zbu,Zbv,Zbw,Zbz,Zb1,Zb2,Zb7,Zb8,Zb9,Zca,Zci,Zcn,Zcv,Zcw,Zc3,Zc4,Zc7,Zc8,Zc9,Zdc,Zdd,Zde,Zdf,Zdg,Zdh,Zdi,Zdj,Zdk,Zdm,Zrk,Zrl,Zrm,Zrn,Zro,Zrq,Zru,Zrx,Zry,Zrz,Zr5,Zr7,Zsf,Zsh,Zsj,Zsm,Zsn,Zso,Zsr,Zs0,Ztf,Ztg,Zdo,Zdp,Zdt,Zdu,Zdv,Zdw,Zdx,Zdy,Zdz,Zd0,Zd1,Zd2,Zd3,Zd6,Zeb,Zec,Zee,Zek,Zen,Zep,Zeq,Zer,Zes,Zet,Zev,Zew,Zex,Zez,Ze0,Ze1,Ze2,Ze3,Ze5,Ze8,Zfc,Zfd,Zfe,Zfh,Zfi,Zfj,Zfl,Zfn,Zfq,Zf0,Zf1,Zf3,Zgh,Zgi,Zgr,Zgs,Zgt,Zgu,Zgv,Zgw,Zgx,Zg1,Zg2,Zg4,Zg6,Zhb,Zhc,Zhd,Zhe,Zhf,Zhg,Zhh,Zhm,Zhn,Zho,Zhs,Zht,Zhu,Zh6,Zh7,Zin,Ziu,Ziv,Ziw,Zi6,Zi7,Zjh,Zji,Zjn,Zjr,Zj2,Zj4,Zj7,Zka,Zky,Zk0,Zk4,Zla,Zlb,Zlc,Zld,Zle,Zlf,Zlh,Zlk,Zll,Zlz,Zl2,Zmt,Zmv,Zmw,Zmx,Zmy,Zmz,Zm0,Zm1,Zm3,Zm5,Zm6,Zm7,Zm9,Zna,Znb,Zne,Znf,Zng,Znn,Zno,Znp,Znr,Zns,Znt,Znu,Znw,Znx,Zn5,Zob,Zof,Zog,Zrd,Zos,Zot,Zov,Zo3,Zo4,Zo6,Zo7,Zo8,Zo9,Zpb,Zpc,Zpd,Zpg,Zpi,Zpu,Zpv,Zp7,Zp9,Zqd,Zqe,Zqf,Zqg,Zqh,Zqi,Zqk,Zql,Zqm,Zqn,Zxa,List.length_drop,eq_self,true_and,and_true,Nat.mul_one,Bool.and_true,zF_fc,fc_0,fc_17,fc_18,fc_19,fc_20,fc_53,fc_54,fc_55,fs_0,fs_17,fs_18,fs_19,fs_20,fs_53,fs_54,fs_55,fp_1,fp_21,fp_f,rb_1,rb_21,rb_0,fc_len,fc_ok,fc_id,fc_rs,v16,v32,cB_cells,h1]
    tactic =>
    refine endA ?_
    simp only [fr, zFm]
    sym =>
    simp [Zaa,Zab,Zac,Zad,Zae,Zaf,Zag,Zah,Zai,Zak,Zal,Zam,Zan,Zao,Zap,Zaq,Zav,Zaw,Zaz,Za0,Za1,Za2,Za3,Za4,Za5,Za6,Za7,Za8,Za9,Zba,Zbb,Zbc,Zbd,Zbf,Zbg,Zbm,Zbt,Zbu,Zbv,Zbw,Zbz,Zb1,Zb2,Zb7,Zb8,Zb9,Zca,Zci,Zcn,Zcv,Zcw,Zc3,Zc4,Zc7,Zc8,Zc9,Zdc,Zdd,Zde,Zdf,Zdg,Zdh,Zdi,Zdj,Zdk,Zdm,Zrk,Zrl,Zrm,Zrn,Zro,Zrq,Zru,Zrx,Zry,Zrz,Zr5,Zr7,Zsf,Zsh,Zsj,Zsm,Zsn,Zso,Zsr,Zs0,Ztf,Ztg,Zdo,Zdp,Zdt,Zdu,Zdv,Zdw,Zdx,Zdy,Zdz,Zd0,Zd1,Zd2,Zd3,Zd6,Zeb,Zec,Zee,Zek,Zen,Zep,Zeq,Zer,Zes,Zet,Zev,Zew,Zex,Zez,Ze0,Ze1,Ze2,Ze3,Ze5,Ze8,Zfc,Zfd,Zfe,Zfh,Zfi,Zfj,Zfl,Zfn,Zfq,Zf0,Zf1,Zf3,Zgh,Zgi,Zgr,Zgs,Zgt,Zgu,Zgv,Zgw,Zgx,Zg1,Zg2,Zg4,Zg6,Zhb,Zhc,Zhd,Zhe,Zhf,Zhg,Zhh,Zhm,Zhn,Zho,Zhs,Zht,Zhu,Zh6,Zh7,Zin,Ziu,Ziv,Ziw,Zi6,Zi7,Zjh,Zji,Zjn,Zjr,Zj2,Zj4,Zj7,Zka,Zky,Zk0,Zk4,Zla,Zlb,Zlc,Zld,Zle,Zlf,Zlh,Zlk,Zll,Zlz,Zl2,Zmt,Zmv,Zmw,Zmx,Zmy,Zmz,Zm0,Zm1,Zm3,Zm5,Zm6,Zm7,Zm9,Zna,Znb,Zne,Znf,Zng,Znn,Zno,Znp,Znr,Zns,Znt,Znu,Znw,Znx,Zn5,Zob,Zof,Zog,Zrd,Zos,Zot,Zov,Zo3,Zo4,Zo6,Zo7,Zo8,Zo9,Zpb,Zpc,Zpd,Zpg,Zpi,Zpu,Zpv,Zp7,Zp9,Zqd,Zqe,Zqf,Zqg,Zqh,Zqi,Zqk,Zql,Zqm,Zqn,Zxa,List.length_drop,eq_self,true_and,and_true,Nat.mul_one,Bool.and_true,zF_fc,fc_0,fc_17,fc_18,fc_19,fc_20,fc_53,fc_54,fc_55,fs_0,fs_17,fs_18,fs_19,fs_20,fs_53,fs_54,fs_55,fp_1,fp_21,fp_f,rb_1,rb_21,rb_0,fc_len,fc_ok,fc_id,fc_rs,v16,v32,cB_cells]
    tactic =>
    exact ⟨rfl, rfl⟩
  rw [if_neg h1] at hR
  by_cases h7 : 7 < k
  · rw [if_pos h7] at hR
    subst hR
    have h7' : k > 7 := h7
    sym =>
    simp [Zaa,Zab,Zac,Zad,Zae,Zaf,Zag,Zah,Zai,Zak,Zal,Zam,Zan,Zao,Zap,Zaq,Zav,Zaw,Zaz,Za0,Za1,Za2,Za3,Za4,Za5,Za6,Za7,Za8,Za9,Zba,Zbb,Zbc,Zbd,Zbf,Zbg,Zbm,Zbt,Zbu,Zbv,Zbw,Zbz,Zb1,Zb2,Zb7,Zb8,Zb9,Zca,Zci,Zcn,Zcv,Zcw,Zc3,Zc4,Zc7,Zc8,Zc9,Zdc,Zdd,Zde,Zdf,Zdg,Zdh,Zdi,Zdj,Zdk,Zdm,Zrk,Zrl,Zrm,Zrn,Zro,Zrq,Zru,Zrx,Zry,Zrz,Zr5,Zr7,Zsf,Zsh,Zsj,Zsm,Zsn,Zso,Zsr,Zs0,Ztf,Ztg,Zdo,Zdp,Zdt,Zdu,Zdv,Zdw,Zdx,Zdy,Zdz,Zd0,Zd1,Zd2,Zd3,Zd6,Zeb,Zec,Zee,Zek,Zen,Zep,Zeq,Zer,Zes,Zet,Zev,Zew,Zex,Zez,Ze0,Ze1,Ze2,Ze3,Ze5,Ze8,Zfc,Zfd,Zfe,Zfh,Zfi,Zfj,Zfl,Zfn,Zfq,Zf0,Zf1,Zf3,Zgh,Zgi,Zgr,Zgs,Zgt,Zgu,Zgv,Zgw,Zgx,Zg1,Zg2,Zg4,Zg6,Zhb,Zhc,Zhd,Zhe,Zhf,Zhg,Zhh,Zhm,Zhn,Zho,Zhs,Zht,Zhu,Zh6,Zh7,Zin,Ziu,Ziv,Ziw,Zi6,Zi7,Zjh,Zji,Zjn,Zjr,Zj2,Zj4,Zj7,Zka,Zky,Zk0,Zk4,Zla,Zlb,Zlc,Zld,Zle,Zlf,Zlh,Zlk,Zll,Zlz,Zl2,Zmt,Zmv,Zmw,Zmx,Zmy,Zmz,Zm0,Zm1,Zm3,Zm5,Zm6,Zm7,Zm9,Zna,Znb,Zne,Znf,Zng,Znn,Zno,Znp,Znr,Zns,Znt,Znu,Znw,Znx,Zn5,Zob,Zof,Zog,Zrd,Zos,Zot,Zov,Zo3,Zo4,Zo6,Zo7,Zo8,Zo9,Zpb,Zpc,Zpd,Zpg,Zpi,Zpu,Zpv,Zp7,Zp9,Zqd,Zqe,Zqf,Zqg,Zqh,Zqi,Zqk,Zql,Zqm,Zqn,Zxa,List.length_drop,eq_self,true_and,and_true,Nat.mul_one,Bool.and_true,zF_fc,fc_0,fc_17,fc_18,fc_19,fc_20,fc_53,fc_54,fc_55,fs_0,fs_17,fs_18,fs_19,fs_20,fs_53,fs_54,fs_55,fp_1,fp_21,fp_f,rb_1,rb_21,rb_0,fc_len,fc_ok,fc_id,fc_rs,v16,v32,cB_cells,h1,h7']
    tactic =>
    refine endA ?_
    simp only [fr, zFm]
    sym =>
    simp [Zaa,Zab,Zac,Zad,Zae,Zaf,Zag,Zah,Zai,Zak,Zal,Zam,Zan,Zao,Zap,Zaq,Zav,Zaw,Zaz,Za0,Za1,Za2,Za3,Za4,Za5,Za6,Za7,Za8,Za9,Zba,Zbb,Zbc,Zbd,Zbf,Zbg,Zbm,Zbt,Zbu,Zbv,Zbw,Zbz,Zb1,Zb2,Zb7,Zb8,Zb9,Zca,Zci,Zcn,Zcv,Zcw,Zc3,Zc4,Zc7,Zc8,Zc9,Zdc,Zdd,Zde,Zdf,Zdg,Zdh,Zdi,Zdj,Zdk,Zdm,Zrk,Zrl,Zrm,Zrn,Zro,Zrq,Zru,Zrx,Zry,Zrz,Zr5,Zr7,Zsf,Zsh,Zsj,Zsm,Zsn,Zso,Zsr,Zs0,Ztf,Ztg,Zdo,Zdp,Zdt,Zdu,Zdv,Zdw,Zdx,Zdy,Zdz,Zd0,Zd1,Zd2,Zd3,Zd6,Zeb,Zec,Zee,Zek,Zen,Zep,Zeq,Zer,Zes,Zet,Zev,Zew,Zex,Zez,Ze0,Ze1,Ze2,Ze3,Ze5,Ze8,Zfc,Zfd,Zfe,Zfh,Zfi,Zfj,Zfl,Zfn,Zfq,Zf0,Zf1,Zf3,Zgh,Zgi,Zgr,Zgs,Zgt,Zgu,Zgv,Zgw,Zgx,Zg1,Zg2,Zg4,Zg6,Zhb,Zhc,Zhd,Zhe,Zhf,Zhg,Zhh,Zhm,Zhn,Zho,Zhs,Zht,Zhu,Zh6,Zh7,Zin,Ziu,Ziv,Ziw,Zi6,Zi7,Zjh,Zji,Zjn,Zjr,Zj2,Zj4,Zj7,Zka,Zky,Zk0,Zk4,Zla,Zlb,Zlc,Zld,Zle,Zlf,Zlh,Zlk,Zll,Zlz,Zl2,Zmt,Zmv,Zmw,Zmx,Zmy,Zmz,Zm0,Zm1,Zm3,Zm5,Zm6,Zm7,Zm9,Zna,Znb,Zne,Znf,Zng,Znn,Zno,Znp,Znr,Zns,Znt,Znu,Znw,Znx,Zn5,Zob,Zof,Zog,Zrd,Zos,Zot,Zov,Zo3,Zo4,Zo6,Zo7,Zo8,Zo9,Zpb,Zpc,Zpd,Zpg,Zpi,Zpu,Zpv,Zp7,Zp9,Zqd,Zqe,Zqf,Zqg,Zqh,Zqi,Zqk,Zql,Zqm,Zqn,Zxa,List.length_drop,eq_self,true_and,and_true,Nat.mul_one,Bool.and_true,zF_fc,fc_0,fc_17,fc_18,fc_19,fc_20,fc_53,fc_54,fc_55,fs_0,fs_17,fs_18,fs_19,fs_20,fs_53,fs_54,fs_55,fp_1,fp_21,fp_f,rb_1,rb_21,rb_0,fc_len,fc_ok,fc_id,fc_rs,v16,v32,cB_cells]
    tactic =>
    exact ⟨rfl, rfl⟩
  rw [if_neg h7] at hR
  have h7' : ¬ k > 7 := h7
  have i3 : 3 + 1 ≤ (cB c).length := by omega
  sym =>
  simp [Zaa,Zab,Zac,Zad,Zae,Zaf,Zag,Zah,Zai,Zak,Zal,Zam,Zan,Zao,Zap,Zaq,Zav,Zaw,Zaz,Za0,Za1,Za2,Za3,Za4,Za5,Za6,Za7,Za8,Za9,Zba,Zbb,Zbc,Zbd,Zbf,Zbg,Zbm,Zbt,Zbu,Zbv,Zbw,Zbz,Zb1,Zb2,Zb7,Zb8,Zb9,Zca,Zci,Zcn,Zcv,Zcw,Zc3,Zc4,Zc7,Zc8,Zc9,Zdc,Zdd,Zde,Zdf,Zdg,Zdh,Zdi,Zdj,Zdk,Zdm,Zrk,Zrl,Zrm,Zrn,Zro,Zrq,Zru,Zrx,Zry,Zrz,Zr5,Zr7,Zsf,Zsh,Zsj,Zsm,Zsn,Zso,Zsr,Zs0,Ztf,Ztg,Zdo,Zdp,Zdt,Zdu,Zdv,Zdw,Zdx,Zdy,Zdz,Zd0,Zd1,Zd2,Zd3,Zd6,Zeb,Zec,Zee,Zek,Zen,Zep,Zeq,Zer,Zes,Zet,Zev,Zew,Zex,Zez,Ze0,Ze1,Ze2,Ze3,Ze5,Ze8,Zfc,Zfd,Zfe,Zfh,Zfi,Zfj,Zfl,Zfn,Zfq,Zf0,Zf1,Zf3,Zgh,Zgi,Zgr,Zgs,Zgt,Zgu,Zgv,Zgw,Zgx,Zg1,Zg2,Zg4,Zg6,Zhb,Zhc,Zhd,Zhe,Zhf,Zhg,Zhh,Zhm,Zhn,Zho,Zhs,Zht,Zhu,Zh6,Zh7,Zin,Ziu,Ziv,Ziw,Zi6,Zi7,Zjh,Zji,Zjn,Zjr,Zj2,Zj4,Zj7,Zka,Zky,Zk0,Zk4,Zla,Zlb,Zlc,Zld,Zle,Zlf,Zlh,Zlk,Zll,Zlz,Zl2,Zmt,Zmv,Zmw,Zmx,Zmy,Zmz,Zm0,Zm1,Zm3,Zm5,Zm6,Zm7,Zm9,Zna,Znb,Zne,Znf,Zng,Znn,Zno,Znp,Znr,Zns,Znt,Znu,Znw,Znx,Zn5,Zob,Zof,Zog,Zrd,Zos,Zot,Zov,Zo3,Zo4,Zo6,Zo7,Zo8,Zo9,Zpb,Zpc,Zpd,Zpg,Zpi,Zpu,Zpv,Zp7,Zp9,Zqd,Zqe,Zqf,Zqg,Zqh,Zqi,Zqk,Zql,Zqm,Zqn,Zxa,List.length_drop,eq_self,true_and,and_true,Nat.mul_one,Bool.and_true,zF_fc,fc_0,fc_17,fc_18,fc_19,fc_20,fc_53,fc_54,fc_55,fs_0,fs_17,fs_18,fs_19,fs_20,fs_53,fs_54,fs_55,fp_1,fp_21,fp_f,rb_1,rb_21,rb_0,fc_len,fc_ok,fc_id,fc_rs,v16,v32,cB_cells,h1,h7',g3,n3,callable_28]
  tactic =>
  and_intros <;> try (first | omega | rfl | assumption | simp only [IN]; omega)
  refine cl none (cm) trivial ?_
  by_cases hm : mk = mkF es er
  rotate_left
  · rw [if_neg hm] at hR
    subst hR
    sym =>
    simp [Zaa,Zab,Zac,Zad,Zae,Zaf,Zag,Zah,Zai,Zak,Zal,Zam,Zan,Zao,Zap,Zaq,Zav,Zaw,Zaz,Za0,Za1,Za2,Za3,Za4,Za5,Za6,Za7,Za8,Za9,Zba,Zbb,Zbc,Zbd,Zbf,Zbg,Zbm,Zbt,Zbu,Zbv,Zbw,Zbz,Zb1,Zb2,Zb7,Zb8,Zb9,Zca,Zci,Zcn,Zcv,Zcw,Zc3,Zc4,Zc7,Zc8,Zc9,Zdc,Zdd,Zde,Zdf,Zdg,Zdh,Zdi,Zdj,Zdk,Zdm,Zrk,Zrl,Zrm,Zrn,Zro,Zrq,Zru,Zrx,Zry,Zrz,Zr5,Zr7,Zsf,Zsh,Zsj,Zsm,Zsn,Zso,Zsr,Zs0,Ztf,Ztg,Zdo,Zdp,Zdt,Zdu,Zdv,Zdw,Zdx,Zdy,Zdz,Zd0,Zd1,Zd2,Zd3,Zd6,Zeb,Zec,Zee,Zek,Zen,Zep,Zeq,Zer,Zes,Zet,Zev,Zew,Zex,Zez,Ze0,Ze1,Ze2,Ze3,Ze5,Ze8,Zfc,Zfd,Zfe,Zfh,Zfi,Zfj,Zfl,Zfn,Zfq,Zf0,Zf1,Zf3,Zgh,Zgi,Zgr,Zgs,Zgt,Zgu,Zgv,Zgw,Zgx,Zg1,Zg2,Zg4,Zg6,Zhb,Zhc,Zhd,Zhe,Zhf,Zhg,Zhh,Zhm,Zhn,Zho,Zhs,Zht,Zhu,Zh6,Zh7,Zin,Ziu,Ziv,Ziw,Zi6,Zi7,Zjh,Zji,Zjn,Zjr,Zj2,Zj4,Zj7,Zka,Zky,Zk0,Zk4,Zla,Zlb,Zlc,Zld,Zle,Zlf,Zlh,Zlk,Zll,Zlz,Zl2,Zmt,Zmv,Zmw,Zmx,Zmy,Zmz,Zm0,Zm1,Zm3,Zm5,Zm6,Zm7,Zm9,Zna,Znb,Zne,Znf,Zng,Znn,Zno,Znp,Znr,Zns,Znt,Znu,Znw,Znx,Zn5,Zob,Zof,Zog,Zrd,Zos,Zot,Zov,Zo3,Zo4,Zo6,Zo7,Zo8,Zo9,Zpb,Zpc,Zpd,Zpg,Zpi,Zpu,Zpv,Zp7,Zp9,Zqd,Zqe,Zqf,Zqg,Zqh,Zqi,Zqk,Zql,Zqm,Zqn,Zxa,List.length_drop,eq_self,true_and,and_true,Nat.mul_one,Bool.and_true,zF_fc,fc_0,fc_17,fc_18,fc_19,fc_20,fc_53,fc_54,fc_55,fs_0,fs_17,fs_18,fs_19,fs_20,fs_53,fs_54,fs_55,fp_1,fp_21,fp_f,rb_1,rb_21,rb_0,fc_len,fc_ok,fc_id,fc_rs,v16,v32,cB_cells,hm]
    tactic =>
    refine endA ?_
    simp only [fr, zFm]
    sym =>
    simp [Zaa,Zab,Zac,Zad,Zae,Zaf,Zag,Zah,Zai,Zak,Zal,Zam,Zan,Zao,Zap,Zaq,Zav,Zaw,Zaz,Za0,Za1,Za2,Za3,Za4,Za5,Za6,Za7,Za8,Za9,Zba,Zbb,Zbc,Zbd,Zbf,Zbg,Zbm,Zbt,Zbu,Zbv,Zbw,Zbz,Zb1,Zb2,Zb7,Zb8,Zb9,Zca,Zci,Zcn,Zcv,Zcw,Zc3,Zc4,Zc7,Zc8,Zc9,Zdc,Zdd,Zde,Zdf,Zdg,Zdh,Zdi,Zdj,Zdk,Zdm,Zrk,Zrl,Zrm,Zrn,Zro,Zrq,Zru,Zrx,Zry,Zrz,Zr5,Zr7,Zsf,Zsh,Zsj,Zsm,Zsn,Zso,Zsr,Zs0,Ztf,Ztg,Zdo,Zdp,Zdt,Zdu,Zdv,Zdw,Zdx,Zdy,Zdz,Zd0,Zd1,Zd2,Zd3,Zd6,Zeb,Zec,Zee,Zek,Zen,Zep,Zeq,Zer,Zes,Zet,Zev,Zew,Zex,Zez,Ze0,Ze1,Ze2,Ze3,Ze5,Ze8,Zfc,Zfd,Zfe,Zfh,Zfi,Zfj,Zfl,Zfn,Zfq,Zf0,Zf1,Zf3,Zgh,Zgi,Zgr,Zgs,Zgt,Zgu,Zgv,Zgw,Zgx,Zg1,Zg2,Zg4,Zg6,Zhb,Zhc,Zhd,Zhe,Zhf,Zhg,Zhh,Zhm,Zhn,Zho,Zhs,Zht,Zhu,Zh6,Zh7,Zin,Ziu,Ziv,Ziw,Zi6,Zi7,Zjh,Zji,Zjn,Zjr,Zj2,Zj4,Zj7,Zka,Zky,Zk0,Zk4,Zla,Zlb,Zlc,Zld,Zle,Zlf,Zlh,Zlk,Zll,Zlz,Zl2,Zmt,Zmv,Zmw,Zmx,Zmy,Zmz,Zm0,Zm1,Zm3,Zm5,Zm6,Zm7,Zm9,Zna,Znb,Zne,Znf,Zng,Znn,Zno,Znp,Znr,Zns,Znt,Znu,Znw,Znx,Zn5,Zob,Zof,Zog,Zrd,Zos,Zot,Zov,Zo3,Zo4,Zo6,Zo7,Zo8,Zo9,Zpb,Zpc,Zpd,Zpg,Zpi,Zpu,Zpv,Zp7,Zp9,Zqd,Zqe,Zqf,Zqg,Zqh,Zqi,Zqk,Zql,Zqm,Zqn,Zxa,List.length_drop,eq_self,true_and,and_true,Nat.mul_one,Bool.and_true,zF_fc,fc_0,fc_17,fc_18,fc_19,fc_20,fc_53,fc_54,fc_55,fs_0,fs_17,fs_18,fs_19,fs_20,fs_53,fs_54,fs_55,fp_1,fp_21,fp_f,rb_1,rb_21,rb_0,fc_len,fc_ok,fc_id,fc_rs,v16,v32,cB_cells]
    tactic =>
    exact ⟨rfl, rfl⟩
  rw [if_pos hm] at hR
  have hst := s16_get (b := c.drop 4) (by rw [List.length_drop]; omega)
  have hfc := rfields_con k (by omega) (by omega) (s16 (c.drop 4) false) es er (c.drop 28) (byt8_drop hob _) (by rw [List.length_drop]; omega)
  obtain ⟨t, ht⟩ : ∃ k, k = s16 (c.drop 4) false := ⟨_, rfl⟩
  obtain ⟨d28, hd28⟩ : ∃ k, k = c.drop 28 := ⟨_, rfl⟩
  rw [← ht] at hst
  rw [← ht, ← hd28] at hfc hR
  obtain ⟨E, hE⟩ : ∃ E, E = fdE k t es er d28 := ⟨_, rfl⟩
  rw [← hE] at hfc hR
  sym =>
  simp [Zaa,Zab,Zac,Zad,Zae,Zaf,Zag,Zah,Zai,Zak,Zal,Zam,Zan,Zao,Zap,Zaq,Zav,Zaw,Zaz,Za0,Za1,Za2,Za3,Za4,Za5,Za6,Za7,Za8,Za9,Zba,Zbb,Zbc,Zbd,Zbf,Zbg,Zbm,Zbt,Zbu,Zbv,Zbw,Zbz,Zb1,Zb2,Zb7,Zb8,Zb9,Zca,Zci,Zcn,Zcv,Zcw,Zc3,Zc4,Zc7,Zc8,Zc9,Zdc,Zdd,Zde,Zdf,Zdg,Zdh,Zdi,Zdj,Zdk,Zdm,Zrk,Zrl,Zrm,Zrn,Zro,Zrq,Zru,Zrx,Zry,Zrz,Zr5,Zr7,Zsf,Zsh,Zsj,Zsm,Zsn,Zso,Zsr,Zs0,Ztf,Ztg,Zdo,Zdp,Zdt,Zdu,Zdv,Zdw,Zdx,Zdy,Zdz,Zd0,Zd1,Zd2,Zd3,Zd6,Zeb,Zec,Zee,Zek,Zen,Zep,Zeq,Zer,Zes,Zet,Zev,Zew,Zex,Zez,Ze0,Ze1,Ze2,Ze3,Ze5,Ze8,Zfc,Zfd,Zfe,Zfh,Zfi,Zfj,Zfl,Zfn,Zfq,Zf0,Zf1,Zf3,Zgh,Zgi,Zgr,Zgs,Zgt,Zgu,Zgv,Zgw,Zgx,Zg1,Zg2,Zg4,Zg6,Zhb,Zhc,Zhd,Zhe,Zhf,Zhg,Zhh,Zhm,Zhn,Zho,Zhs,Zht,Zhu,Zh6,Zh7,Zin,Ziu,Ziv,Ziw,Zi6,Zi7,Zjh,Zji,Zjn,Zjr,Zj2,Zj4,Zj7,Zka,Zky,Zk0,Zk4,Zla,Zlb,Zlc,Zld,Zle,Zlf,Zlh,Zlk,Zll,Zlz,Zl2,Zmt,Zmv,Zmw,Zmx,Zmy,Zmz,Zm0,Zm1,Zm3,Zm5,Zm6,Zm7,Zm9,Zna,Znb,Zne,Znf,Zng,Znn,Zno,Znp,Znr,Zns,Znt,Znu,Znw,Znx,Zn5,Zob,Zof,Zog,Zrd,Zos,Zot,Zov,Zo3,Zo4,Zo6,Zo7,Zo8,Zo9,Zpb,Zpc,Zpd,Zpg,Zpi,Zpu,Zpv,Zp7,Zp9,Zqd,Zqe,Zqf,Zqg,Zqh,Zqi,Zqk,Zql,Zqm,Zqn,Zxa,List.length_drop,eq_self,true_and,and_true,Nat.mul_one,Bool.and_true,zF_fc,fc_0,fc_17,fc_18,fc_19,fc_20,fc_53,fc_54,fc_55,fs_0,fs_17,fs_18,fs_19,fs_20,fs_53,fs_54,fs_55,fp_1,fp_21,fp_f,rb_1,rb_21,rb_0,fc_len,fc_ok,fc_id,fc_rs,v16,v32,cB_cells,hm]
  tactic =>
  refine lpA (i20 c k t es er) 16 [(0, 0), (1, 38)] _ ⟨0, rfl, rfl⟩ (wkA ?_) ?_
  · have pz : pre16 t z16 0 = z16 := rfl
    sym =>
    simp [Zaa,Zab,Zac,Zad,Zae,Zaf,Zag,Zah,Zai,Zak,Zal,Zam,Zan,Zao,Zap,Zaq,Zav,Zaw,Zaz,Za0,Za1,Za2,Za3,Za4,Za5,Za6,Za7,Za8,Za9,Zba,Zbb,Zbc,Zbd,Zbf,Zbg,Zbm,Zbt,Zbu,Zbv,Zbw,Zbz,Zb1,Zb2,Zb7,Zb8,Zb9,Zca,Zci,Zcn,Zcv,Zcw,Zc3,Zc4,Zc7,Zc8,Zc9,Zdc,Zdd,Zde,Zdf,Zdg,Zdh,Zdi,Zdj,Zdk,Zdm,Zrk,Zrl,Zrm,Zrn,Zro,Zrq,Zru,Zrx,Zry,Zrz,Zr5,Zr7,Zsf,Zsh,Zsj,Zsm,Zsn,Zso,Zsr,Zs0,Ztf,Ztg,Zdo,Zdp,Zdt,Zdu,Zdv,Zdw,Zdx,Zdy,Zdz,Zd0,Zd1,Zd2,Zd3,Zd6,Zeb,Zec,Zee,Zek,Zen,Zep,Zeq,Zer,Zes,Zet,Zev,Zew,Zex,Zez,Ze0,Ze1,Ze2,Ze3,Ze5,Ze8,Zfc,Zfd,Zfe,Zfh,Zfi,Zfj,Zfl,Zfn,Zfq,Zf0,Zf1,Zf3,Zgh,Zgi,Zgr,Zgs,Zgt,Zgu,Zgv,Zgw,Zgx,Zg1,Zg2,Zg4,Zg6,Zhb,Zhc,Zhd,Zhe,Zhf,Zhg,Zhh,Zhm,Zhn,Zho,Zhs,Zht,Zhu,Zh6,Zh7,Zin,Ziu,Ziv,Ziw,Zi6,Zi7,Zjh,Zji,Zjn,Zjr,Zj2,Zj4,Zj7,Zka,Zky,Zk0,Zk4,Zla,Zlb,Zlc,Zld,Zle,Zlf,Zlh,Zlk,Zll,Zlz,Zl2,Zmt,Zmv,Zmw,Zmx,Zmy,Zmz,Zm0,Zm1,Zm3,Zm5,Zm6,Zm7,Zm9,Zna,Znb,Zne,Znf,Zng,Znn,Zno,Znp,Znr,Zns,Znt,Znu,Znw,Znx,Zn5,Zob,Zof,Zog,Zrd,Zos,Zot,Zov,Zo3,Zo4,Zo6,Zo7,Zo8,Zo9,Zpb,Zpc,Zpd,Zpg,Zpi,Zpu,Zpv,Zp7,Zp9,Zqd,Zqe,Zqf,Zqg,Zqh,Zqi,Zqk,Zql,Zqm,Zqn,Zxa,List.length_drop,eq_self,true_and,and_true,Nat.mul_one,Bool.and_true,zF_fc,fc_0,fc_17,fc_18,fc_19,fc_20,fc_53,fc_54,fc_55,fs_0,fs_17,fs_18,fs_19,fs_20,fs_53,fs_54,fs_55,fp_1,fp_21,fp_f,rb_1,rb_21,rb_0,fc_len,fc_ok,fc_id,fc_rs,v16,v32,cB_cells,pz]
  rintro kk st ⟨i, hi, rfl⟩
  by_cases h : i < 16
  · have hw := w64s i (by omega)
    have h16 : IN i < (16 : Int) := by simp only [IN]; omega
    have hw4 : IntKind.i64.wrap ((4 : Int) + IN i) = IN (4 + i) := by rw [w64]; simp only [IN]; omega; simp only [IN]; omega
    have hg := cB_get c (4 + i) (by omega)
    have hgi := hst i h
    rw [drop_getD] at hgi
    have hps := pre_set t.1 z16.1 16 i t.2 z16.2 h
    obtain ⟨v, hv⟩ : ∃ v, v = c.getD (4 + i) 0 := ⟨_, rfl⟩
    rw [← hv] at hg hgi
    rw [hgi] at hps
    have hset := fs_tk k (pre16 t z16 i) es er 0 0 z32 .nl .nl 0 i h v (pre16 t z16 (i + 1)) hps.symm
    have hlt : 4 + i < c.length := by omega
    sym =>
    simp [Zaa,Zab,Zac,Zad,Zae,Zaf,Zag,Zah,Zai,Zak,Zal,Zam,Zan,Zao,Zap,Zaq,Zav,Zaw,Zaz,Za0,Za1,Za2,Za3,Za4,Za5,Za6,Za7,Za8,Za9,Zba,Zbb,Zbc,Zbd,Zbf,Zbg,Zbm,Zbt,Zbu,Zbv,Zbw,Zbz,Zb1,Zb2,Zb7,Zb8,Zb9,Zca,Zci,Zcn,Zcv,Zcw,Zc3,Zc4,Zc7,Zc8,Zc9,Zdc,Zdd,Zde,Zdf,Zdg,Zdh,Zdi,Zdj,Zdk,Zdm,Zrk,Zrl,Zrm,Zrn,Zro,Zrq,Zru,Zrx,Zry,Zrz,Zr5,Zr7,Zsf,Zsh,Zsj,Zsm,Zsn,Zso,Zsr,Zs0,Ztf,Ztg,Zdo,Zdp,Zdt,Zdu,Zdv,Zdw,Zdx,Zdy,Zdz,Zd0,Zd1,Zd2,Zd3,Zd6,Zeb,Zec,Zee,Zek,Zen,Zep,Zeq,Zer,Zes,Zet,Zev,Zew,Zex,Zez,Ze0,Ze1,Ze2,Ze3,Ze5,Ze8,Zfc,Zfd,Zfe,Zfh,Zfi,Zfj,Zfl,Zfn,Zfq,Zf0,Zf1,Zf3,Zgh,Zgi,Zgr,Zgs,Zgt,Zgu,Zgv,Zgw,Zgx,Zg1,Zg2,Zg4,Zg6,Zhb,Zhc,Zhd,Zhe,Zhf,Zhg,Zhh,Zhm,Zhn,Zho,Zhs,Zht,Zhu,Zh6,Zh7,Zin,Ziu,Ziv,Ziw,Zi6,Zi7,Zjh,Zji,Zjn,Zjr,Zj2,Zj4,Zj7,Zka,Zky,Zk0,Zk4,Zla,Zlb,Zlc,Zld,Zle,Zlf,Zlh,Zlk,Zll,Zlz,Zl2,Zmt,Zmv,Zmw,Zmx,Zmy,Zmz,Zm0,Zm1,Zm3,Zm5,Zm6,Zm7,Zm9,Zna,Znb,Zne,Znf,Zng,Znn,Zno,Znp,Znr,Zns,Znt,Znu,Znw,Znx,Zn5,Zob,Zof,Zog,Zrd,Zos,Zot,Zov,Zo3,Zo4,Zo6,Zo7,Zo8,Zo9,Zpb,Zpc,Zpd,Zpg,Zpi,Zpu,Zpv,Zp7,Zp9,Zqd,Zqe,Zqf,Zqg,Zqh,Zqi,Zqk,Zql,Zqm,Zqn,Zxa,List.length_drop,eq_self,true_and,and_true,Nat.mul_one,Bool.and_true,zF_fc,fc_0,fc_17,fc_18,fc_19,fc_20,fc_53,fc_54,fc_55,fs_0,fs_17,fs_18,fs_19,fs_20,fs_53,fs_54,fs_55,fp_1,fp_21,fp_f,rb_1,rb_21,rb_0,fc_len,fc_ok,fc_id,fc_rs,v16,v32,cB_cells,hw,hw4,h16,hg,hset,hlt]
    tactic =>
    and_intros <;> try (first | omega | rfl | assumption | simp only [IN]; omega)
    unfold NextL; refine ⟨(kk - 1), [(0, 0), (1, 1)], _, by omega, ⟨i + 1, by omega, rfl⟩, wkA ?_⟩
    sym =>
    simp [Zaa,Zab,Zac,Zad,Zae,Zaf,Zag,Zah,Zai,Zak,Zal,Zam,Zan,Zao,Zap,Zaq,Zav,Zaw,Zaz,Za0,Za1,Za2,Za3,Za4,Za5,Za6,Za7,Za8,Za9,Zba,Zbb,Zbc,Zbd,Zbf,Zbg,Zbm,Zbt,Zbu,Zbv,Zbw,Zbz,Zb1,Zb2,Zb7,Zb8,Zb9,Zca,Zci,Zcn,Zcv,Zcw,Zc3,Zc4,Zc7,Zc8,Zc9,Zdc,Zdd,Zde,Zdf,Zdg,Zdh,Zdi,Zdj,Zdk,Zdm,Zrk,Zrl,Zrm,Zrn,Zro,Zrq,Zru,Zrx,Zry,Zrz,Zr5,Zr7,Zsf,Zsh,Zsj,Zsm,Zsn,Zso,Zsr,Zs0,Ztf,Ztg,Zdo,Zdp,Zdt,Zdu,Zdv,Zdw,Zdx,Zdy,Zdz,Zd0,Zd1,Zd2,Zd3,Zd6,Zeb,Zec,Zee,Zek,Zen,Zep,Zeq,Zer,Zes,Zet,Zev,Zew,Zex,Zez,Ze0,Ze1,Ze2,Ze3,Ze5,Ze8,Zfc,Zfd,Zfe,Zfh,Zfi,Zfj,Zfl,Zfn,Zfq,Zf0,Zf1,Zf3,Zgh,Zgi,Zgr,Zgs,Zgt,Zgu,Zgv,Zgw,Zgx,Zg1,Zg2,Zg4,Zg6,Zhb,Zhc,Zhd,Zhe,Zhf,Zhg,Zhh,Zhm,Zhn,Zho,Zhs,Zht,Zhu,Zh6,Zh7,Zin,Ziu,Ziv,Ziw,Zi6,Zi7,Zjh,Zji,Zjn,Zjr,Zj2,Zj4,Zj7,Zka,Zky,Zk0,Zk4,Zla,Zlb,Zlc,Zld,Zle,Zlf,Zlh,Zlk,Zll,Zlz,Zl2,Zmt,Zmv,Zmw,Zmx,Zmy,Zmz,Zm0,Zm1,Zm3,Zm5,Zm6,Zm7,Zm9,Zna,Znb,Zne,Znf,Zng,Znn,Zno,Znp,Znr,Zns,Znt,Znu,Znw,Znx,Zn5,Zob,Zof,Zog,Zrd,Zos,Zot,Zov,Zo3,Zo4,Zo6,Zo7,Zo8,Zo9,Zpb,Zpc,Zpd,Zpg,Zpi,Zpu,Zpv,Zp7,Zp9,Zqd,Zqe,Zqf,Zqg,Zqh,Zqi,Zqk,Zql,Zqm,Zqn,Zxa,List.length_drop,eq_self,true_and,and_true,Nat.mul_one,Bool.and_true,zF_fc,fc_0,fc_17,fc_18,fc_19,fc_20,fc_53,fc_54,fc_55,fs_0,fs_17,fs_18,fs_19,fs_20,fs_53,fs_54,fs_55,fp_1,fp_21,fp_f,rb_1,rb_21,rb_0,fc_len,fc_ok,fc_id,fc_rs,v16,v32,cB_cells]
  · obtain rfl : i = 16 := by omega
    rw [pre16_full]
    have fa := fc_all k t es er 0 0 z32 .nl .nl 0
    have ed : List.drop 28 (cB c) = cB d28 := by rw [hd28, cB_drop]
    have edl : c.length - 28 = d28.length := by rw [hd28, List.length_drop]
    have eda := cB_all d28
    have l28 : 28 ≤ c.length := by omega
    sym =>
    simp [Zaa,Zab,Zac,Zad,Zae,Zaf,Zag,Zah,Zai,Zak,Zal,Zam,Zan,Zao,Zap,Zaq,Zav,Zaw,Zaz,Za0,Za1,Za2,Za3,Za4,Za5,Za6,Za7,Za8,Za9,Zba,Zbb,Zbc,Zbd,Zbf,Zbg,Zbm,Zbt,Zbu,Zbv,Zbw,Zbz,Zb1,Zb2,Zb7,Zb8,Zb9,Zca,Zci,Zcn,Zcv,Zcw,Zc3,Zc4,Zc7,Zc8,Zc9,Zdc,Zdd,Zde,Zdf,Zdg,Zdh,Zdi,Zdj,Zdk,Zdm,Zrk,Zrl,Zrm,Zrn,Zro,Zrq,Zru,Zrx,Zry,Zrz,Zr5,Zr7,Zsf,Zsh,Zsj,Zsm,Zsn,Zso,Zsr,Zs0,Ztf,Ztg,Zdo,Zdp,Zdt,Zdu,Zdv,Zdw,Zdx,Zdy,Zdz,Zd0,Zd1,Zd2,Zd3,Zd6,Zeb,Zec,Zee,Zek,Zen,Zep,Zeq,Zer,Zes,Zet,Zev,Zew,Zex,Zez,Ze0,Ze1,Ze2,Ze3,Ze5,Ze8,Zfc,Zfd,Zfe,Zfh,Zfi,Zfj,Zfl,Zfn,Zfq,Zf0,Zf1,Zf3,Zgh,Zgi,Zgr,Zgs,Zgt,Zgu,Zgv,Zgw,Zgx,Zg1,Zg2,Zg4,Zg6,Zhb,Zhc,Zhd,Zhe,Zhf,Zhg,Zhh,Zhm,Zhn,Zho,Zhs,Zht,Zhu,Zh6,Zh7,Zin,Ziu,Ziv,Ziw,Zi6,Zi7,Zjh,Zji,Zjn,Zjr,Zj2,Zj4,Zj7,Zka,Zky,Zk0,Zk4,Zla,Zlb,Zlc,Zld,Zle,Zlf,Zlh,Zlk,Zll,Zlz,Zl2,Zmt,Zmv,Zmw,Zmx,Zmy,Zmz,Zm0,Zm1,Zm3,Zm5,Zm6,Zm7,Zm9,Zna,Znb,Zne,Znf,Zng,Znn,Zno,Znp,Znr,Zns,Znt,Znu,Znw,Znx,Zn5,Zob,Zof,Zog,Zrd,Zos,Zot,Zov,Zo3,Zo4,Zo6,Zo7,Zo8,Zo9,Zpb,Zpc,Zpd,Zpg,Zpi,Zpu,Zpv,Zp7,Zp9,Zqd,Zqe,Zqf,Zqg,Zqh,Zqi,Zqk,Zql,Zqm,Zqn,Zxa,List.length_drop,eq_self,true_and,and_true,Nat.mul_one,Bool.and_true,zF_fc,fc_0,fc_17,fc_18,fc_19,fc_20,fc_53,fc_54,fc_55,fs_0,fs_17,fs_18,fs_19,fs_20,fs_53,fs_54,fs_55,fp_1,fp_21,fp_f,rb_1,rb_21,rb_0,fc_len,fc_ok,fc_id,fc_rs,v16,v32,cB_cells,fc_all,ed,edl,eda,l28,callable_42]
    tactic =>
    and_intros <;> try (first | omega | rfl | assumption | simp only [IN]; omega)
    obtain ⟨F, e⟩ := E
    obtain ⟨k', t', es', er', o', n', su', d', r', c'⟩ := F
    simp only [fr] at hfc
    refine clG [] none hfc rfl ⟨trivial, trivial, by show (((fc k' t' es' er' o' n' su' (fB d') (fR r') c').all sh1) && (true && true)) = true; rw [fc_sh]; rfl⟩ ?_
    by_cases he : e = 0
    · replace hR := hR.trans (if_pos he)
      subst hR
      subst he
      sym =>
      simp [Zaa,Zab,Zac,Zad,Zae,Zaf,Zag,Zah,Zai,Zak,Zal,Zam,Zan,Zao,Zap,Zaq,Zav,Zaw,Zaz,Za0,Za1,Za2,Za3,Za4,Za5,Za6,Za7,Za8,Za9,Zba,Zbb,Zbc,Zbd,Zbf,Zbg,Zbm,Zbt,Zbu,Zbv,Zbw,Zbz,Zb1,Zb2,Zb7,Zb8,Zb9,Zca,Zci,Zcn,Zcv,Zcw,Zc3,Zc4,Zc7,Zc8,Zc9,Zdc,Zdd,Zde,Zdf,Zdg,Zdh,Zdi,Zdj,Zdk,Zdm,Zrk,Zrl,Zrm,Zrn,Zro,Zrq,Zru,Zrx,Zry,Zrz,Zr5,Zr7,Zsf,Zsh,Zsj,Zsm,Zsn,Zso,Zsr,Zs0,Ztf,Ztg,Zdo,Zdp,Zdt,Zdu,Zdv,Zdw,Zdx,Zdy,Zdz,Zd0,Zd1,Zd2,Zd3,Zd6,Zeb,Zec,Zee,Zek,Zen,Zep,Zeq,Zer,Zes,Zet,Zev,Zew,Zex,Zez,Ze0,Ze1,Ze2,Ze3,Ze5,Ze8,Zfc,Zfd,Zfe,Zfh,Zfi,Zfj,Zfl,Zfn,Zfq,Zf0,Zf1,Zf3,Zgh,Zgi,Zgr,Zgs,Zgt,Zgu,Zgv,Zgw,Zgx,Zg1,Zg2,Zg4,Zg6,Zhb,Zhc,Zhd,Zhe,Zhf,Zhg,Zhh,Zhm,Zhn,Zho,Zhs,Zht,Zhu,Zh6,Zh7,Zin,Ziu,Ziv,Ziw,Zi6,Zi7,Zjh,Zji,Zjn,Zjr,Zj2,Zj4,Zj7,Zka,Zky,Zk0,Zk4,Zla,Zlb,Zlc,Zld,Zle,Zlf,Zlh,Zlk,Zll,Zlz,Zl2,Zmt,Zmv,Zmw,Zmx,Zmy,Zmz,Zm0,Zm1,Zm3,Zm5,Zm6,Zm7,Zm9,Zna,Znb,Zne,Znf,Zng,Znn,Zno,Znp,Znr,Zns,Znt,Znu,Znw,Znx,Zn5,Zob,Zof,Zog,Zrd,Zos,Zot,Zov,Zo3,Zo4,Zo6,Zo7,Zo8,Zo9,Zpb,Zpc,Zpd,Zpg,Zpi,Zpu,Zpv,Zp7,Zp9,Zqd,Zqe,Zqf,Zqg,Zqh,Zqi,Zqk,Zql,Zqm,Zqn,Zxa,List.length_drop,eq_self,true_and,and_true,Nat.mul_one,Bool.and_true,zF_fc,fc_0,fc_17,fc_18,fc_19,fc_20,fc_53,fc_54,fc_55,fs_0,fs_17,fs_18,fs_19,fs_20,fs_53,fs_54,fs_55,fp_1,fp_21,fp_f,rb_1,rb_21,rb_0,fc_len,fc_ok,fc_id,fc_rs,v16,v32,cB_cells,fc_sg]
      tactic =>
      refine endA ?_
      simp only [fr]
      sym =>
      simp [Zaa,Zab,Zac,Zad,Zae,Zaf,Zag,Zah,Zai,Zak,Zal,Zam,Zan,Zao,Zap,Zaq,Zav,Zaw,Zaz,Za0,Za1,Za2,Za3,Za4,Za5,Za6,Za7,Za8,Za9,Zba,Zbb,Zbc,Zbd,Zbf,Zbg,Zbm,Zbt,Zbu,Zbv,Zbw,Zbz,Zb1,Zb2,Zb7,Zb8,Zb9,Zca,Zci,Zcn,Zcv,Zcw,Zc3,Zc4,Zc7,Zc8,Zc9,Zdc,Zdd,Zde,Zdf,Zdg,Zdh,Zdi,Zdj,Zdk,Zdm,Zrk,Zrl,Zrm,Zrn,Zro,Zrq,Zru,Zrx,Zry,Zrz,Zr5,Zr7,Zsf,Zsh,Zsj,Zsm,Zsn,Zso,Zsr,Zs0,Ztf,Ztg,Zdo,Zdp,Zdt,Zdu,Zdv,Zdw,Zdx,Zdy,Zdz,Zd0,Zd1,Zd2,Zd3,Zd6,Zeb,Zec,Zee,Zek,Zen,Zep,Zeq,Zer,Zes,Zet,Zev,Zew,Zex,Zez,Ze0,Ze1,Ze2,Ze3,Ze5,Ze8,Zfc,Zfd,Zfe,Zfh,Zfi,Zfj,Zfl,Zfn,Zfq,Zf0,Zf1,Zf3,Zgh,Zgi,Zgr,Zgs,Zgt,Zgu,Zgv,Zgw,Zgx,Zg1,Zg2,Zg4,Zg6,Zhb,Zhc,Zhd,Zhe,Zhf,Zhg,Zhh,Zhm,Zhn,Zho,Zhs,Zht,Zhu,Zh6,Zh7,Zin,Ziu,Ziv,Ziw,Zi6,Zi7,Zjh,Zji,Zjn,Zjr,Zj2,Zj4,Zj7,Zka,Zky,Zk0,Zk4,Zla,Zlb,Zlc,Zld,Zle,Zlf,Zlh,Zlk,Zll,Zlz,Zl2,Zmt,Zmv,Zmw,Zmx,Zmy,Zmz,Zm0,Zm1,Zm3,Zm5,Zm6,Zm7,Zm9,Zna,Znb,Zne,Znf,Zng,Znn,Zno,Znp,Znr,Zns,Znt,Znu,Znw,Znx,Zn5,Zob,Zof,Zog,Zrd,Zos,Zot,Zov,Zo3,Zo4,Zo6,Zo7,Zo8,Zo9,Zpb,Zpc,Zpd,Zpg,Zpi,Zpu,Zpv,Zp7,Zp9,Zqd,Zqe,Zqf,Zqg,Zqh,Zqi,Zqk,Zql,Zqm,Zqn,Zxa,List.length_drop,eq_self,true_and,and_true,Nat.mul_one,Bool.and_true,zF_fc,fc_0,fc_17,fc_18,fc_19,fc_20,fc_53,fc_54,fc_55,fs_0,fs_17,fs_18,fs_19,fs_20,fs_53,fs_54,fs_55,fp_1,fp_21,fp_f,rb_1,rb_21,rb_0,fc_len,fc_ok,fc_id,fc_rs,v16,v32,cB_cells]
    · replace hR := hR.trans (if_neg he)
      subst hR
      sym =>
      simp [Zaa,Zab,Zac,Zad,Zae,Zaf,Zag,Zah,Zai,Zak,Zal,Zam,Zan,Zao,Zap,Zaq,Zav,Zaw,Zaz,Za0,Za1,Za2,Za3,Za4,Za5,Za6,Za7,Za8,Za9,Zba,Zbb,Zbc,Zbd,Zbf,Zbg,Zbm,Zbt,Zbu,Zbv,Zbw,Zbz,Zb1,Zb2,Zb7,Zb8,Zb9,Zca,Zci,Zcn,Zcv,Zcw,Zc3,Zc4,Zc7,Zc8,Zc9,Zdc,Zdd,Zde,Zdf,Zdg,Zdh,Zdi,Zdj,Zdk,Zdm,Zrk,Zrl,Zrm,Zrn,Zro,Zrq,Zru,Zrx,Zry,Zrz,Zr5,Zr7,Zsf,Zsh,Zsj,Zsm,Zsn,Zso,Zsr,Zs0,Ztf,Ztg,Zdo,Zdp,Zdt,Zdu,Zdv,Zdw,Zdx,Zdy,Zdz,Zd0,Zd1,Zd2,Zd3,Zd6,Zeb,Zec,Zee,Zek,Zen,Zep,Zeq,Zer,Zes,Zet,Zev,Zew,Zex,Zez,Ze0,Ze1,Ze2,Ze3,Ze5,Ze8,Zfc,Zfd,Zfe,Zfh,Zfi,Zfj,Zfl,Zfn,Zfq,Zf0,Zf1,Zf3,Zgh,Zgi,Zgr,Zgs,Zgt,Zgu,Zgv,Zgw,Zgx,Zg1,Zg2,Zg4,Zg6,Zhb,Zhc,Zhd,Zhe,Zhf,Zhg,Zhh,Zhm,Zhn,Zho,Zhs,Zht,Zhu,Zh6,Zh7,Zin,Ziu,Ziv,Ziw,Zi6,Zi7,Zjh,Zji,Zjn,Zjr,Zj2,Zj4,Zj7,Zka,Zky,Zk0,Zk4,Zla,Zlb,Zlc,Zld,Zle,Zlf,Zlh,Zlk,Zll,Zlz,Zl2,Zmt,Zmv,Zmw,Zmx,Zmy,Zmz,Zm0,Zm1,Zm3,Zm5,Zm6,Zm7,Zm9,Zna,Znb,Zne,Znf,Zng,Znn,Zno,Znp,Znr,Zns,Znt,Znu,Znw,Znx,Zn5,Zob,Zof,Zog,Zrd,Zos,Zot,Zov,Zo3,Zo4,Zo6,Zo7,Zo8,Zo9,Zpb,Zpc,Zpd,Zpg,Zpi,Zpu,Zpv,Zp7,Zp9,Zqd,Zqe,Zqf,Zqg,Zqh,Zqi,Zqk,Zql,Zqm,Zqn,Zxa,List.length_drop,eq_self,true_and,and_true,Nat.mul_one,Bool.and_true,zF_fc,fc_0,fc_17,fc_18,fc_19,fc_20,fc_53,fc_54,fc_55,fs_0,fs_17,fs_18,fs_19,fs_20,fs_53,fs_54,fs_55,fp_1,fp_21,fp_f,rb_1,rb_21,rb_0,fc_len,fc_ok,fc_id,fc_rs,v16,v32,cB_cells,he,fc_sg]
      tactic =>
      refine endA ?_
      simp only [fr, zFm]
      sym =>
      simp [Zaa,Zab,Zac,Zad,Zae,Zaf,Zag,Zah,Zai,Zak,Zal,Zam,Zan,Zao,Zap,Zaq,Zav,Zaw,Zaz,Za0,Za1,Za2,Za3,Za4,Za5,Za6,Za7,Za8,Za9,Zba,Zbb,Zbc,Zbd,Zbf,Zbg,Zbm,Zbt,Zbu,Zbv,Zbw,Zbz,Zb1,Zb2,Zb7,Zb8,Zb9,Zca,Zci,Zcn,Zcv,Zcw,Zc3,Zc4,Zc7,Zc8,Zc9,Zdc,Zdd,Zde,Zdf,Zdg,Zdh,Zdi,Zdj,Zdk,Zdm,Zrk,Zrl,Zrm,Zrn,Zro,Zrq,Zru,Zrx,Zry,Zrz,Zr5,Zr7,Zsf,Zsh,Zsj,Zsm,Zsn,Zso,Zsr,Zs0,Ztf,Ztg,Zdo,Zdp,Zdt,Zdu,Zdv,Zdw,Zdx,Zdy,Zdz,Zd0,Zd1,Zd2,Zd3,Zd6,Zeb,Zec,Zee,Zek,Zen,Zep,Zeq,Zer,Zes,Zet,Zev,Zew,Zex,Zez,Ze0,Ze1,Ze2,Ze3,Ze5,Ze8,Zfc,Zfd,Zfe,Zfh,Zfi,Zfj,Zfl,Zfn,Zfq,Zf0,Zf1,Zf3,Zgh,Zgi,Zgr,Zgs,Zgt,Zgu,Zgv,Zgw,Zgx,Zg1,Zg2,Zg4,Zg6,Zhb,Zhc,Zhd,Zhe,Zhf,Zhg,Zhh,Zhm,Zhn,Zho,Zhs,Zht,Zhu,Zh6,Zh7,Zin,Ziu,Ziv,Ziw,Zi6,Zi7,Zjh,Zji,Zjn,Zjr,Zj2,Zj4,Zj7,Zka,Zky,Zk0,Zk4,Zla,Zlb,Zlc,Zld,Zle,Zlf,Zlh,Zlk,Zll,Zlz,Zl2,Zmt,Zmv,Zmw,Zmx,Zmy,Zmz,Zm0,Zm1,Zm3,Zm5,Zm6,Zm7,Zm9,Zna,Znb,Zne,Znf,Zng,Znn,Zno,Znp,Znr,Zns,Znt,Znu,Znw,Znx,Zn5,Zob,Zof,Zog,Zrd,Zos,Zot,Zov,Zo3,Zo4,Zo6,Zo7,Zo8,Zo9,Zpb,Zpc,Zpd,Zpg,Zpi,Zpu,Zpv,Zp7,Zp9,Zqd,Zqe,Zqf,Zqg,Zqh,Zqi,Zqk,Zql,Zqm,Zqn,Zxa,List.length_drop,eq_self,true_and,and_true,Nat.mul_one,Bool.and_true,zF_fc,fc_0,fc_17,fc_18,fc_19,fc_20,fc_53,fc_54,fc_55,fs_0,fs_17,fs_18,fs_19,fs_20,fs_53,fs_54,fs_55,fp_1,fp_21,fp_f,rb_1,rb_21,rb_0,fc_len,fc_ok,fc_id,fc_rs,v16,v32,cB_cells]
      tactic =>
      exact ⟨rfl, rfl⟩
end Go.Proofs.Ythhccabdlajngaa.FrmU
