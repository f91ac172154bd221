import Derived.Test.YthhccabdlajngaaFrmQ
namespace Go.Proofs.Ythhccabdlajngaa.FrmR
open Go Go.Sim Go.Sim.E Go.RowKit Go.Proofs Go.Proofs.Ythhccabdlajngaa.Cod Go.Proofs.Ythhccabdlajngaa.Tab Go.Proofs.Ythhccabdlajngaa.Bse Go.Proofs.Ythhccabdlajngaa.Krc Go.Proofs.Ythhccabdlajngaa.FrmA Go.Proofs.Ythhccabdlajngaa.FrmB Go.Proofs.Ythhccabdlajngaa.FrmC Go.Proofs.Ythhccabdlajngaa.FrmD Go.Proofs.Ythhccabdlajngaa.FrmE Go.Proofs.Ythhccabdlajngaa.FrmF Go.Proofs.Ythhccabdlajngaa.FrmN Go.Proofs.Ythhccabdlajngaa.FrmO Go.Proofs.Ythhccabdlajngaa.FrmO Go.Proofs.Ythhccabdlajngaa.FrmP Go.Proofs.Ythhccabdlajngaa.FrmQ
set_option linter.unusedVariables false
set_option linter.unusedSimpArgs false
set_option maxRecDepth 100000
set_option maxHeartbeats 4000000
theorem tk_ge (b : List Int) (m : Bool) (n : Nat) (h : n ≤ b.length) : tkF b m n = (b.take n, b.drop n, m) := by rw [tkF, if_neg (by omega)]
theorem ofN1 {b : List Int} (hb : byt8 b) : ofN b 1 = b.getD 0 0 := by
  have := byt8_get hb 0
  show (256 * 0 + b.getD 0 0) % 18446744073709551616 = _
  omega
theorem ofN4 {b : List Int} (hb : byt8 b) : 0 ≤ ofN b 4 ∧ ofN b 4 < 4294967296 := by
  have h0 := byt8_get hb 0
  have h1 := byt8_get hb 1
  have h2 := byt8_get hb 2
  have h3 := byt8_get hb 3
  show 0 ≤ (256 * ((256 * ((256 * ((256 * 0 + b.getD 0 0) % 18446744073709551616) + b.getD 1 0) % 18446744073709551616) + b.getD 2 0) % 18446744073709551616) + b.getD 3 0) % 18446744073709551616 ∧ (256 * ((256 * ((256 * ((256 * 0 + b.getD 0 0) % 18446744073709551616) + b.getD 1 0) % 18446744073709551616) + b.getD 2 0) % 18446744073709551616) + b.getD 3 0) % 18446744073709551616 < 4294967296
  omega
theorem drop_getD (b : List Int) (m j : Nat) : (b.drop m).getD j 0 = b.getD (m + j) 0 := by
  rw [List.getD_eq_getElem?_getD, List.getElem?_drop, List.getD_eq_getElem?_getD]
def zFm : Fm := ⟨0, z16, 0, 0, 0, 0, z32, [], [], 0⟩
def s16 (b : List Int) (m : Bool) : V 16 := ⟨(tkF b m 16).1, tkF_len _ _ _⟩
def S4 (b : List Int) (i : Nat) : Int := ofN ((b.drop i).take 4) 4
/-- A frame's fields, and the error. -/
def fdE (k : Int) (t : V 16) (es er : Int) (b : List Int) : Fm × Int :=
  if (fdP k t es er b).2.2 = true then (zFm, 4) else if 0 < (fdP k t es er b).2.1.length then (zFm, 3) else ((fdP k t es er b).1, mayF (fdP k t es er b).1)
/-- The frame of opened bytes, and the error. -/
def ps1 (b : List Int) : Fm × Int :=
  if b.length < 28 then (zFm, 4)
  else if b.take 2 = [84, 87] then
    if b.getD 2 0 < 1 then (zFm, 11) else if 7 < b.getD 2 0 then (zFm, 11)
    else if b.getD 3 0 = mkF (S4 b 20) (S4 b 24) then
      if (fdE (b.getD 2 0) (s16 (b.drop 4) false) (S4 b 20) (S4 b 24) (b.drop 28)).2 = 0 then fdE (b.getD 2 0) (s16 (b.drop 4) false) (S4 b 20) (S4 b 24) (b.drop 28)
      else (zFm, (fdE (b.getD 2 0) (s16 (b.drop 4) false) (S4 b 20) (S4 b 24) (b.drop 28)).2)
    else (zFm, 16)
  else (zFm, 3)
/-- The frame of any bytes, and the error. -/
def psF (b : List Int) : Fm × Int := if (opF b).2 = 0 then ps1 (opF b).1 else (zFm, (opF b).2)
theorem opF_le (b : List Int) : (opF b).1.length ≤ b.length := by
  unfold opF
  repeat' split
  all_goals simp
theorem opF_byt {b : List Int} (hb : byt8 b) : byt8 (opF b).1 := by
  have hn : byt8 [] := fun x hx => by cases hx
  unfold opF
  repeat' split
  · exact hn
  · exact byt8_take hb _
  · exact hn
theorem skG_len : ∀ (n : Nat) (b : List Int), b.length = n → ∀ (m : Bool) (acc : List Rg), (skG b m acc).1.length ≤ acc.length + b.length := by
  intro n
  induction n using Nat.strongRecOn with
  | ind n ih =>
    intro b hn m acc
    by_cases h0 : b.length = 0
    · rw [skG, dif_pos h0]
      exact Nat.le_add_right _ _
    · have h1 := tkF_lt b m h0
      have h2 := tkF_len2 (tkF b m 8).2.1 (tkF b m 8).2.2 8
      rw [skG, dif_neg h0]
      refine Nat.le_trans (ih _ (by omega) _ rfl _ _) ?_
      rw [List.length_append, List.length_singleton]
      omega
theorem fdP_len (k : Int) (t : V 16) (es er : Int) (b : List Int) : (fdP k t es er b).1.r.length ≤ b.length ∧ (fdP k t es er b).1.d.length ≤ b.length ∧ (fdP k t es er b).2.1.length ≤ b.length := by
  have h1 := tkF_len2 b false 8
  have h2 := tkF_len2 b false 1
  have h3 := tkF_len2 (tkF b false 8).2.1 (tkF b false 8).2.2 32
  have h4 := skG_len _ (tkF b false 8).2.1 rfl (tkF b false 8).2.2 []
  unfold fdP
  repeat' split
  all_goals simp
  all_goals simp at h4
  all_goals omega
theorem s16_eq {b : List Int} (h : 16 ≤ b.length) : (s16 b false).1 = b.take 16 := by show (tkF b false 16).1 = _; rw [tk_ge _ _ _ h]
theorem rd1 {c : List Int} (hb : byt8 c) (i n : Nat) (hn : n ≤ 1000) (hl : c.length ≤ 5000) (h : i + n ≤ c.length) (ni : Int) (hni : ni = IN n) (j : Nat) (hj : j = i + n) : Con Try.prog 37 [(0, ⟨[fB (c.drop i), Bo false], 1, 0⟩)] [.pt 0 0, I ni] [(0, ⟨[fB (c.drop j), Bo false], 1, 0⟩)] (L (ofN ((c.drop i).take n) n)) := by
  have e := tk_ge (c.drop i) false n (by rw [List.length_drop]; omega)
  refine rdnum_con' (c.drop i) (byt8_drop hb _) false n (by rw [List.length_drop]; omega) hn ni hni (by rw [e]) ?_
  rw [e, hj, List.drop_drop]
theorem rd2 {c : List Int} (i : Nat) (hl : c.length ≤ 5000) (h : i + 16 ≤ c.length) (j : Nat) (hj : j = i + 16) : Con Try.prog 38 [(0, ⟨[fB (c.drop i), Bo false], 1, 0⟩)] [.pt 0 0, I 16] [(0, ⟨[fB (c.drop j), Bo false], 1, 0⟩)] (.fz 16 (cB (s16 (c.drop i) false).1)) := by
  have e := tk_ge (c.drop i) false 16 (by rw [List.length_drop]; omega)
  refine take_con' (c.drop i) false 16 (by rw [List.length_drop]; omega) (by decide) 16 rfl rfl ?_
  rw [e, hj, List.drop_drop]
theorem fparse_con (b : List Int) (hb : byt8 b) (hl : b.length ≤ 5000) : Con Try.prog 19 [] [fB b] [] (.tu [.ag (fr (psF b).1), I (psF b).2]) := by
  have hop := open_con b hb (by omega)
  have hol := opF_le b
  have hob := opF_byt hb
  obtain ⟨R, hR⟩ : ∃ R, R = psF b := ⟨_, rfl⟩
  rw [← hR]
  unfold psF at hR
  obtain ⟨c, hc⟩ : ∃ R, R = (opF b).1 := ⟨_, rfl⟩
  obtain ⟨e, he⟩ : ∃ R, R = (opF b).2 := ⟨_, rfl⟩
  rw [← hc, ← he] at hop hR
  rw [← hc] at hol hob
  refine con_j b19 rfl ?_
  sym =>
  simp [Zaa,Zab,Zad,Zae,Zaf,Zag,Zak,Zal,Zam,Zao,Zap,Zar,Zaz,Za0,Za1,Za2,Za3,Za4,Za5,Za6,Za7,Za8,Za9,Zba,Zbb,Zbd,Zbf,Zbj,Zbl,Zbr,Zbt,Zbv,Zb7,Zb9,Ztq,Zcd,Zch,Zcn,Zcv,Zcx,Zcz,Zc3,Zdc,Zdd,Zde,Zdi,Zdm,Zrj,Zrl,Zrm,Zrn,Zro,Zrp,Zrq,Zrr,Zrt,Zru,Zrv,Zrw,Zrx,Zry,Zrz,Zr1,Zr2,Zsb,Zsd,Zse,Zsf,Zsg,Zsh,Zsj,Zsm,Zsn,Zso,Zsp,Zsr,Zst,Zsw,Ztg,Zev,Zew,Zex,Zez,Ze0,Ze1,Ze2,Ze3,Ze5,Ze8,Ze9,Zfc,Zfd,Zfe,Zfh,Zfi,Zfj,Zfl,Zfn,Zf0,Zf1,Zf3,Zgd,Zgg,Zgh,Zgi,Zgo,Zgp,Zgq,Zgr,Zgs,Zgt,Zgu,Zgv,Zgw,Zgx,Zhb,Zhc,Zhd,Zhe,Zhf,Zhg,Zhh,Ztw,Ztx,Zhj,Zhk,Zhm,Zhn,Zho,Zhs,Zht,Zhu,Zh6,Zh7,Zin,Zio,Zip,Ziq,Zir,Ziu,Ziv,Ziw,Zi6,Zi7,Zjb,Zjh,Zji,Zjl,Zjm,Zjn,Zjp,Zjr,Zju,Zjw,Zj2,Zj7,Zj9,Zka,Zky,Zk0,Zk4,Zla,Zlb,Zlc,Zld,Zle,Zlf,Zlh,Zlj,Zlk,Zll,Zlm,Zlt,Zlu,Zlx,Zly,Zlz,Zl2,Zmt,Zmv,Zmw,Zmx,Zmy,Zmz,Zm0,Zm1,Zm3,Zm5,Zm6,Zm7,Zm9,Zna,Znb,Znc,Zne,Znf,Zng,Znh,Znl,Znm,Znn,Zno,Znp,Zns,Znu,Znx,Zof,Zog,Zrd,Zos,Zot,Zov,Zo3,Zo4,Zo6,Zo7,Zo8,Zo9,Zpb,Zpg,Zpv,Zp7,Zp9,Zqd,Zqe,List.length_drop,eq_self,true_and,and_true,Nat.zero_add,Nat.mul_one,zF_fc,fc_0,fc_17,fc_18,fc_19,fc_20,fc_53,fc_54,fc_55,fs_0,fs_17,fs_18,fs_19,fs_20,fs_53,fs_54,fs_55,fp_1,fp_21,fp_f,rb_1,rb_21,rb_0,fc_len,fc_ok,fc_id,fc_rs,v16,v32,cB_cells,callable_35]
  tactic =>
  refine cl none (hop) trivial ?_
  by_cases h0 : e = 0
  rotate_left
  · rw [if_neg h0] at hR
    subst hR
    sym =>
    simp [Zaa,Zab,Zad,Zae,Zaf,Zag,Zak,Zal,Zam,Zao,Zap,Zar,Zaz,Za0,Za1,Za2,Za3,Za4,Za5,Za6,Za7,Za8,Za9,Zba,Zbb,Zbd,Zbf,Zbj,Zbl,Zbr,Zbt,Zbv,Zb7,Zb9,Ztq,Zcd,Zch,Zcn,Zcv,Zcx,Zcz,Zc3,Zdc,Zdd,Zde,Zdi,Zdm,Zrj,Zrl,Zrm,Zrn,Zro,Zrp,Zrq,Zrr,Zrt,Zru,Zrv,Zrw,Zrx,Zry,Zrz,Zr1,Zr2,Zsb,Zsd,Zse,Zsf,Zsg,Zsh,Zsj,Zsm,Zsn,Zso,Zsp,Zsr,Zst,Zsw,Ztg,Zev,Zew,Zex,Zez,Ze0,Ze1,Ze2,Ze3,Ze5,Ze8,Ze9,Zfc,Zfd,Zfe,Zfh,Zfi,Zfj,Zfl,Zfn,Zf0,Zf1,Zf3,Zgd,Zgg,Zgh,Zgi,Zgo,Zgp,Zgq,Zgr,Zgs,Zgt,Zgu,Zgv,Zgw,Zgx,Zhb,Zhc,Zhd,Zhe,Zhf,Zhg,Zhh,Ztw,Ztx,Zhj,Zhk,Zhm,Zhn,Zho,Zhs,Zht,Zhu,Zh6,Zh7,Zin,Zio,Zip,Ziq,Zir,Ziu,Ziv,Ziw,Zi6,Zi7,Zjb,Zjh,Zji,Zjl,Zjm,Zjn,Zjp,Zjr,Zju,Zjw,Zj2,Zj7,Zj9,Zka,Zky,Zk0,Zk4,Zla,Zlb,Zlc,Zld,Zle,Zlf,Zlh,Zlj,Zlk,Zll,Zlm,Zlt,Zlu,Zlx,Zly,Zlz,Zl2,Zmt,Zmv,Zmw,Zmx,Zmy,Zmz,Zm0,Zm1,Zm3,Zm5,Zm6,Zm7,Zm9,Zna,Znb,Znc,Zne,Znf,Zng,Znh,Znl,Znm,Znn,Zno,Znp,Zns,Znu,Znx,Zof,Zog,Zrd,Zos,Zot,Zov,Zo3,Zo4,Zo6,Zo7,Zo8,Zo9,Zpb,Zpg,Zpv,Zp7,Zp9,Zqd,Zqe,List.length_drop,eq_self,true_and,and_true,Nat.zero_add,Nat.mul_one,zF_fc,fc_0,fc_17,fc_18,fc_19,fc_20,fc_53,fc_54,fc_55,fs_0,fs_17,fs_18,fs_19,fs_20,fs_53,fs_54,fs_55,fp_1,fp_21,fp_f,rb_1,rb_21,rb_0,fc_len,fc_ok,fc_id,fc_rs,v16,v32,cB_cells,h0]
    tactic =>
    refine endA ?_
    simp only [fr, zFm]
    sym =>
    simp [Zaa,Zab,Zad,Zae,Zaf,Zag,Zak,Zal,Zam,Zao,Zap,Zar,Zaz,Za0,Za1,Za2,Za3,Za4,Za5,Za6,Za7,Za8,Za9,Zba,Zbb,Zbd,Zbf,Zbj,Zbl,Zbr,Zbt,Zbv,Zb7,Zb9,Ztq,Zcd,Zch,Zcn,Zcv,Zcx,Zcz,Zc3,Zdc,Zdd,Zde,Zdi,Zdm,Zrj,Zrl,Zrm,Zrn,Zro,Zrp,Zrq,Zrr,Zrt,Zru,Zrv,Zrw,Zrx,Zry,Zrz,Zr1,Zr2,Zsb,Zsd,Zse,Zsf,Zsg,Zsh,Zsj,Zsm,Zsn,Zso,Zsp,Zsr,Zst,Zsw,Ztg,Zev,Zew,Zex,Zez,Ze0,Ze1,Ze2,Ze3,Ze5,Ze8,Ze9,Zfc,Zfd,Zfe,Zfh,Zfi,Zfj,Zfl,Zfn,Zf0,Zf1,Zf3,Zgd,Zgg,Zgh,Zgi,Zgo,Zgp,Zgq,Zgr,Zgs,Zgt,Zgu,Zgv,Zgw,Zgx,Zhb,Zhc,Zhd,Zhe,Zhf,Zhg,Zhh,Ztw,Ztx,Zhj,Zhk,Zhm,Zhn,Zho,Zhs,Zht,Zhu,Zh6,Zh7,Zin,Zio,Zip,Ziq,Zir,Ziu,Ziv,Ziw,Zi6,Zi7,Zjb,Zjh,Zji,Zjl,Zjm,Zjn,Zjp,Zjr,Zju,Zjw,Zj2,Zj7,Zj9,Zka,Zky,Zk0,Zk4,Zla,Zlb,Zlc,Zld,Zle,Zlf,Zlh,Zlj,Zlk,Zll,Zlm,Zlt,Zlu,Zlx,Zly,Zlz,Zl2,Zmt,Zmv,Zmw,Zmx,Zmy,Zmz,Zm0,Zm1,Zm3,Zm5,Zm6,Zm7,Zm9,Zna,Znb,Znc,Zne,Znf,Zng,Znh,Znl,Znm,Znn,Zno,Znp,Zns,Znu,Znx,Zof,Zog,Zrd,Zos,Zot,Zov,Zo3,Zo4,Zo6,Zo7,Zo8,Zo9,Zpb,Zpg,Zpv,Zp7,Zp9,Zqd,Zqe,List.length_drop,eq_self,true_and,and_true,Nat.zero_add,Nat.mul_one,zF_fc,fc_0,fc_17,fc_18,fc_19,fc_20,fc_53,fc_54,fc_55,fs_0,fs_17,fs_18,fs_19,fs_20,fs_53,fs_54,fs_55,fp_1,fp_21,fp_f,rb_1,rb_21,rb_0,fc_len,fc_ok,fc_id,fc_rs,v16,v32,cB_cells]
    tactic =>
    exact ⟨rfl, rfl⟩
  rw [if_pos h0] at hR
  subst h0
  unfold ps1 at hR
  by_cases h28 : c.length < 28
  · rw [if_pos h28] at hR
    subst hR
    have h28' : IN c.length < (28 : Int) := by simp only [IN]; omega
    sym =>
    simp [Zaa,Zab,Zad,Zae,Zaf,Zag,Zak,Zal,Zam,Zao,Zap,Zar,Zaz,Za0,Za1,Za2,Za3,Za4,Za5,Za6,Za7,Za8,Za9,Zba,Zbb,Zbd,Zbf,Zbj,Zbl,Zbr,Zbt,Zbv,Zb7,Zb9,Ztq,Zcd,Zch,Zcn,Zcv,Zcx,Zcz,Zc3,Zdc,Zdd,Zde,Zdi,Zdm,Zrj,Zrl,Zrm,Zrn,Zro,Zrp,Zrq,Zrr,Zrt,Zru,Zrv,Zrw,Zrx,Zry,Zrz,Zr1,Zr2,Zsb,Zsd,Zse,Zsf,Zsg,Zsh,Zsj,Zsm,Zsn,Zso,Zsp,Zsr,Zst,Zsw,Ztg,Zev,Zew,Zex,Zez,Ze0,Ze1,Ze2,Ze3,Ze5,Ze8,Ze9,Zfc,Zfd,Zfe,Zfh,Zfi,Zfj,Zfl,Zfn,Zf0,Zf1,Zf3,Zgd,Zgg,Zgh,Zgi,Zgo,Zgp,Zgq,Zgr,Zgs,Zgt,Zgu,Zgv,Zgw,Zgx,Zhb,Zhc,Zhd,Zhe,Zhf,Zhg,Zhh,Ztw,Ztx,Zhj,Zhk,Zhm,Zhn,Zho,Zhs,Zht,Zhu,Zh6,Zh7,Zin,Zio,Zip,Ziq,Zir,Ziu,Ziv,Ziw,Zi6,Zi7,Zjb,Zjh,Zji,Zjl,Zjm,Zjn,Zjp,Zjr,Zju,Zjw,Zj2,Zj7,Zj9,Zka,Zky,Zk0,Zk4,Zla,Zlb,Zlc,Zld,Zle,Zlf,Zlh,Zlj,Zlk,Zll,Zlm,Zlt,Zlu,Zlx,Zly,Zlz,Zl2,Zmt,Zmv,Zmw,Zmx,Zmy,Zmz,Zm0,Zm1,Zm3,Zm5,Zm6,Zm7,Zm9,Zna,Znb,Znc,Zne,Znf,Zng,Znh,Znl,Znm,Znn,Zno,Znp,Zns,Znu,Znx,Zof,Zog,Zrd,Zos,Zot,Zov,Zo3,Zo4,Zo6,Zo7,Zo8,Zo9,Zpb,Zpg,Zpv,Zp7,Zp9,Zqd,Zqe,List.length_drop,eq_self,true_and,and_true,Nat.zero_add,Nat.mul_one,zF_fc,fc_0,fc_17,fc_18,fc_19,fc_20,fc_53,fc_54,fc_55,fs_0,fs_17,fs_18,fs_19,fs_20,fs_53,fs_54,fs_55,fp_1,fp_21,fp_f,rb_1,rb_21,rb_0,fc_len,fc_ok,fc_id,fc_rs,v16,v32,cB_cells,h28']
    tactic =>
    refine endA ?_
    simp only [fr, zFm]
    sym =>
    simp [Zaa,Zab,Zad,Zae,Zaf,Zag,Zak,Zal,Zam,Zao,Zap,Zar,Zaz,Za0,Za1,Za2,Za3,Za4,Za5,Za6,Za7,Za8,Za9,Zba,Zbb,Zbd,Zbf,Zbj,Zbl,Zbr,Zbt,Zbv,Zb7,Zb9,Ztq,Zcd,Zch,Zcn,Zcv,Zcx,Zcz,Zc3,Zdc,Zdd,Zde,Zdi,Zdm,Zrj,Zrl,Zrm,Zrn,Zro,Zrp,Zrq,Zrr,Zrt,Zru,Zrv,Zrw,Zrx,Zry,Zrz,Zr1,Zr2,Zsb,Zsd,Zse,Zsf,Zsg,Zsh,Zsj,Zsm,Zsn,Zso,Zsp,Zsr,Zst,Zsw,Ztg,Zev,Zew,Zex,Zez,Ze0,Ze1,Ze2,Ze3,Ze5,Ze8,Ze9,Zfc,Zfd,Zfe,Zfh,Zfi,Zfj,Zfl,Zfn,Zf0,Zf1,Zf3,Zgd,Zgg,Zgh,Zgi,Zgo,Zgp,Zgq,Zgr,Zgs,Zgt,Zgu,Zgv,Zgw,Zgx,Zhb,Zhc,Zhd,Zhe,Zhf,Zhg,Zhh,Ztw,Ztx,Zhj,Zhk,Zhm,Zhn,Zho,Zhs,Zht,Zhu,Zh6,Zh7,Zin,Zio,Zip,Ziq,Zir,Ziu,Ziv,Ziw,Zi6,Zi7,Zjb,Zjh,Zji,Zjl,Zjm,Zjn,Zjp,Zjr,Zju,Zjw,Zj2,Zj7,Zj9,Zka,Zky,Zk0,Zk4,Zla,Zlb,Zlc,Zld,Zle,Zlf,Zlh,Zlj,Zlk,Zll,Zlm,Zlt,Zlu,Zlx,Zly,Zlz,Zl2,Zmt,Zmv,Zmw,Zmx,Zmy,Zmz,Zm0,Zm1,Zm3,Zm5,Zm6,Zm7,Zm9,Zna,Znb,Znc,Zne,Znf,Zng,Znh,Znl,Znm,Znn,Zno,Znp,Zns,Znu,Znx,Zof,Zog,Zrd,Zos,Zot,Zov,Zo3,Zo4,Zo6,Zo7,Zo8,Zo9,Zpb,Zpg,Zpv,Zp7,Zp9,Zqd,Zqe,List.length_drop,eq_self,true_and,and_true,Nat.zero_add,Nat.mul_one,zF_fc,fc_0,fc_17,fc_18,fc_19,fc_20,fc_53,fc_54,fc_55,fs_0,fs_17,fs_18,fs_19,fs_20,fs_53,fs_54,fs_55,fp_1,fp_21,fp_f,rb_1,rb_21,rb_0,fc_len,fc_ok,fc_id,fc_rs,v16,v32,cB_cells]
    tactic =>
    exact ⟨rfl, rfl⟩
  rw [if_neg h28] at hR
  have h28' : ¬ IN c.length < (28 : Int) := by simp only [IN]; omega
  have hpre : Con Try.prog 36 [] [fB c, .fz 2 [Y 84, Y 87]] [] (Bo (decide (c.take 2 = [84, 87]))) := hasPrefix_con c [84, 87] hob (by intro x hx; simp at hx; omega) (by simp; omega)
  sym =>
  simp [Zaa,Zab,Zad,Zae,Zaf,Zag,Zak,Zal,Zam,Zao,Zap,Zar,Zaz,Za0,Za1,Za2,Za3,Za4,Za5,Za6,Za7,Za8,Za9,Zba,Zbb,Zbd,Zbf,Zbj,Zbl,Zbr,Zbt,Zbv,Zb7,Zb9,Ztq,Zcd,Zch,Zcn,Zcv,Zcx,Zcz,Zc3,Zdc,Zdd,Zde,Zdi,Zdm,Zrj,Zrl,Zrm,Zrn,Zro,Zrp,Zrq,Zrr,Zrt,Zru,Zrv,Zrw,Zrx,Zry,Zrz,Zr1,Zr2,Zsb,Zsd,Zse,Zsf,Zsg,Zsh,Zsj,Zsm,Zsn,Zso,Zsp,Zsr,Zst,Zsw,Ztg,Zev,Zew,Zex,Zez,Ze0,Ze1,Ze2,Ze3,Ze5,Ze8,Ze9,Zfc,Zfd,Zfe,Zfh,Zfi,Zfj,Zfl,Zfn,Zf0,Zf1,Zf3,Zgd,Zgg,Zgh,Zgi,Zgo,Zgp,Zgq,Zgr,Zgs,Zgt,Zgu,Zgv,Zgw,Zgx,Zhb,Zhc,Zhd,Zhe,Zhf,Zhg,Zhh,Ztw,Ztx,Zhj,Zhk,Zhm,Zhn,Zho,Zhs,Zht,Zhu,Zh6,Zh7,Zin,Zio,Zip,Ziq,Zir,Ziu,Ziv,Ziw,Zi6,Zi7,Zjb,Zjh,Zji,Zjl,Zjm,Zjn,Zjp,Zjr,Zju,Zjw,Zj2,Zj7,Zj9,Zka,Zky,Zk0,Zk4,Zla,Zlb,Zlc,Zld,Zle,Zlf,Zlh,Zlj,Zlk,Zll,Zlm,Zlt,Zlu,Zlx,Zly,Zlz,Zl2,Zmt,Zmv,Zmw,Zmx,Zmy,Zmz,Zm0,Zm1,Zm3,Zm5,Zm6,Zm7,Zm9,Zna,Znb,Znc,Zne,Znf,Zng,Znh,Znl,Znm,Znn,Zno,Znp,Zns,Znu,Znx,Zof,Zog,Zrd,Zos,Zot,Zov,Zo3,Zo4,Zo6,Zo7,Zo8,Zo9,Zpb,Zpg,Zpv,Zp7,Zp9,Zqd,Zqe,List.length_drop,eq_self,true_and,and_true,Nat.zero_add,Nat.mul_one,zF_fc,fc_0,fc_17,fc_18,fc_19,fc_20,fc_53,fc_54,fc_55,fs_0,fs_17,fs_18,fs_19,fs_20,fs_53,fs_54,fs_55,fp_1,fp_21,fp_f,rb_1,rb_21,rb_0,fc_len,fc_ok,fc_id,fc_rs,v16,v32,cB_cells,h28',callable_36]
  tactic =>
  refine cl none (hpre) trivial ?_
  by_cases hp : c.take 2 = [84, 87]
  rotate_left
  · rw [if_neg hp] at hR
    subst hR
    sym =>
    simp [Zaa,Zab,Zad,Zae,Zaf,Zag,Zak,Zal,Zam,Zao,Zap,Zar,Zaz,Za0,Za1,Za2,Za3,Za4,Za5,Za6,Za7,Za8,Za9,Zba,Zbb,Zbd,Zbf,Zbj,Zbl,Zbr,Zbt,Zbv,Zb7,Zb9,Ztq,Zcd,Zch,Zcn,Zcv,Zcx,Zcz,Zc3,Zdc,Zdd,Zde,Zdi,Zdm,Zrj,Zrl,Zrm,Zrn,Zro,Zrp,Zrq,Zrr,Zrt,Zru,Zrv,Zrw,Zrx,Zry,Zrz,Zr1,Zr2,Zsb,Zsd,Zse,Zsf,Zsg,Zsh,Zsj,Zsm,Zsn,Zso,Zsp,Zsr,Zst,Zsw,Ztg,Zev,Zew,Zex,Zez,Ze0,Ze1,Ze2,Ze3,Ze5,Ze8,Ze9,Zfc,Zfd,Zfe,Zfh,Zfi,Zfj,Zfl,Zfn,Zf0,Zf1,Zf3,Zgd,Zgg,Zgh,Zgi,Zgo,Zgp,Zgq,Zgr,Zgs,Zgt,Zgu,Zgv,Zgw,Zgx,Zhb,Zhc,Zhd,Zhe,Zhf,Zhg,Zhh,Ztw,Ztx,Zhj,Zhk,Zhm,Zhn,Zho,Zhs,Zht,Zhu,Zh6,Zh7,Zin,Zio,Zip,Ziq,Zir,Ziu,Ziv,Ziw,Zi6,Zi7,Zjb,Zjh,Zji,Zjl,Zjm,Zjn,Zjp,Zjr,Zju,Zjw,Zj2,Zj7,Zj9,Zka,Zky,Zk0,Zk4,Zla,Zlb,Zlc,Zld,Zle,Zlf,Zlh,Zlj,Zlk,Zll,Zlm,Zlt,Zlu,Zlx,Zly,Zlz,Zl2,Zmt,Zmv,Zmw,Zmx,Zmy,Zmz,Zm0,Zm1,Zm3,Zm5,Zm6,Zm7,Zm9,Zna,Znb,Znc,Zne,Znf,Zng,Znh,Znl,Znm,Znn,Zno,Znp,Zns,Znu,Znx,Zof,Zog,Zrd,Zos,Zot,Zov,Zo3,Zo4,Zo6,Zo7,Zo8,Zo9,Zpb,Zpg,Zpv,Zp7,Zp9,Zqd,Zqe,List.length_drop,eq_self,true_and,and_true,Nat.zero_add,Nat.mul_one,zF_fc,fc_0,fc_17,fc_18,fc_19,fc_20,fc_53,fc_54,fc_55,fs_0,fs_17,fs_18,fs_19,fs_20,fs_53,fs_54,fs_55,fp_1,fp_21,fp_f,rb_1,rb_21,rb_0,fc_len,fc_ok,fc_id,fc_rs,v16,v32,cB_cells,hp]
    tactic =>
    refine endA ?_
    simp only [fr, zFm]
    sym =>
    simp [Zaa,Zab,Zad,Zae,Zaf,Zag,Zak,Zal,Zam,Zao,Zap,Zar,Zaz,Za0,Za1,Za2,Za3,Za4,Za5,Za6,Za7,Za8,Za9,Zba,Zbb,Zbd,Zbf,Zbj,Zbl,Zbr,Zbt,Zbv,Zb7,Zb9,Ztq,Zcd,Zch,Zcn,Zcv,Zcx,Zcz,Zc3,Zdc,Zdd,Zde,Zdi,Zdm,Zrj,Zrl,Zrm,Zrn,Zro,Zrp,Zrq,Zrr,Zrt,Zru,Zrv,Zrw,Zrx,Zry,Zrz,Zr1,Zr2,Zsb,Zsd,Zse,Zsf,Zsg,Zsh,Zsj,Zsm,Zsn,Zso,Zsp,Zsr,Zst,Zsw,Ztg,Zev,Zew,Zex,Zez,Ze0,Ze1,Ze2,Ze3,Ze5,Ze8,Ze9,Zfc,Zfd,Zfe,Zfh,Zfi,Zfj,Zfl,Zfn,Zf0,Zf1,Zf3,Zgd,Zgg,Zgh,Zgi,Zgo,Zgp,Zgq,Zgr,Zgs,Zgt,Zgu,Zgv,Zgw,Zgx,Zhb,Zhc,Zhd,Zhe,Zhf,Zhg,Zhh,Ztw,Ztx,Zhj,Zhk,Zhm,Zhn,Zho,Zhs,Zht,Zhu,Zh6,Zh7,Zin,Zio,Zip,Ziq,Zir,Ziu,Ziv,Ziw,Zi6,Zi7,Zjb,Zjh,Zji,Zjl,Zjm,Zjn,Zjp,Zjr,Zju,Zjw,Zj2,Zj7,Zj9,Zka,Zky,Zk0,Zk4,Zla,Zlb,Zlc,Zld,Zle,Zlf,Zlh,Zlj,Zlk,Zll,Zlm,Zlt,Zlu,Zlx,Zly,Zlz,Zl2,Zmt,Zmv,Zmw,Zmx,Zmy,Zmz,Zm0,Zm1,Zm3,Zm5,Zm6,Zm7,Zm9,Zna,Znb,Znc,Zne,Znf,Zng,Znh,Znl,Znm,Znn,Zno,Znp,Zns,Znu,Znx,Zof,Zog,Zrd,Zos,Zot,Zov,Zo3,Zo4,Zo6,Zo7,Zo8,Zo9,Zpb,Zpg,Zpv,Zp7,Zp9,Zqd,Zqe,List.length_drop,eq_self,true_and,and_true,Nat.zero_add,Nat.mul_one,zF_fc,fc_0,fc_17,fc_18,fc_19,fc_20,fc_53,fc_54,fc_55,fs_0,fs_17,fs_18,fs_19,fs_20,fs_53,fs_54,fs_55,fp_1,fp_21,fp_f,rb_1,rb_21,rb_0,fc_len,fc_ok,fc_id,fc_rs,v16,v32,cB_cells]
    tactic =>
    exact ⟨rfl, rfl⟩
  rw [if_pos hp] at hR
  have c1 := rd1 hob 2 1 (by decide) (by omega) (by omega) 1 rfl 3 rfl
  have c2 := rd1 hob 3 1 (by decide) (by omega) (by omega) 1 rfl 4 rfl
  have c3 := rd2 (c := c) 4 (by omega) (by omega) 20 rfl
  have c4 := rd1 hob 20 4 (by decide) (by omega) (by omega) 4 rfl 24 rfl
  have c5 := rd1 hob 24 4 (by decide) (by omega) (by omega) 4 rfl 28 rfl
  rw [ofN1 (byt8_take (byt8_drop hob _) _), getD_take _ _ _ (by decide), drop_getD] at c1 c2
  have k0 := byt8_get hob 2
  have m0 := byt8_get hob 3
  have q1 : 0 ≤ S4 c 20 ∧ S4 c 20 < 4294967296 := ofN4 (byt8_take (byt8_drop hob _) _)
  have q2 : 0 ≤ S4 c 24 ∧ S4 c 24 < 4294967296 := ofN4 (byt8_take (byt8_drop hob _) _)
  have c4' : Con Try.prog 37 [(0, ⟨[fB (c.drop 20), Bo false], 1, 0⟩)] [.pt 0 0, I 4] [(0, ⟨[fB (c.drop 24), Bo false], 1, 0⟩)] (L (S4 c 20)) := c4
  have c5' : Con Try.prog 37 [(0, ⟨[fB (c.drop 24), Bo false], 1, 0⟩)] [.pt 0 0, I 4] [(0, ⟨[fB (c.drop 28), Bo false], 1, 0⟩)] (L (S4 c 24)) := c5
  clear c4 c5
  have ef : (c.drop 28).length ≤ 5000 := by rw [List.length_drop]; omega
  have cf := fields_con (c.getD 2 0) (s16 (c.drop 4) false) (S4 c 20) (S4 c 24) (c.drop 28) (byt8_drop hob _) ef
  have fl := fdP_len (c.getD 2 0) (s16 (c.drop 4) false) (S4 c 20) (S4 c 24) (c.drop 28)
  obtain ⟨k, hk⟩ : ∃ k, k = c.getD 2 0 := ⟨_, rfl⟩
  obtain ⟨mk, hmk⟩ : ∃ k, k = c.getD 3 0 := ⟨_, rfl⟩
  obtain ⟨es, hes⟩ : ∃ k, k = S4 c 20 := ⟨_, rfl⟩
  obtain ⟨er, her⟩ : ∃ k, k = S4 c 24 := ⟨_, rfl⟩
  obtain ⟨t, ht⟩ : ∃ k, k = s16 (c.drop 4) false := ⟨_, rfl⟩
  obtain ⟨d28, hd28⟩ : ∃ k, k = c.drop 28 := ⟨_, rfl⟩
  obtain ⟨d24, hd24⟩ : ∃ k, k = c.drop 24 := ⟨_, rfl⟩
  obtain ⟨d20, hd20⟩ : ∃ k, k = c.drop 20 := ⟨_, rfl⟩
  obtain ⟨d4, hd4⟩ : ∃ k, k = c.drop 4 := ⟨_, rfl⟩
  obtain ⟨d3, hd3⟩ : ∃ k, k = c.drop 3 := ⟨_, rfl⟩
  obtain ⟨d2, hd2⟩ : ∃ k, k = c.drop 2 := ⟨_, rfl⟩
  have ed2 : List.drop 2 (cB c) = cB d2 := by rw [hd2, cB_drop]
  have ed2' : c.length - 2 = d2.length := by rw [hd2, List.length_drop]
  have ed2a := cB_all d2
  have ed2l : 2 ≤ c.length := by omega
  rw [← hk] at c1 k0
  rw [← hmk] at c2 m0
  rw [← ht, ← hd4] at c3
  rw [← hes, ← hd24] at c4'
  rw [← her, ← hd28] at c5'
  rw [← hd2, ← hd3] at c1
  rw [← hd3, ← hd4] at c2
  rw [← hd20] at c3 c4'
  rw [← hd24] at c5'
  rw [← hk, ← hes, ← her, ← ht, ← hd28] at cf fl
  rw [← hk, ← hmk, ← hes, ← her, ← ht, ← hd28] at hR
  rw [← hd28] at ef
  rw [← hes] at q1
  rw [← her] at q2
  have cm := mark_con es er q1.1 q2.1
  have o0 : ∀ b m, okI [fB b, Bo m] := fun b m => okI2 rfl rfl
  have oF := fun (k : Int) (t : V 16) (es er : Int) => fc_okI k t es er 0 0 z32 .nl .nl 0 rfl rfl
  have hwk : IntKind.i64.wrap k = k := w64 _ (by omega)
  have hwm : IntKind.u8.wrap mk = mk := by rw [w8u]; omega
  have hws : IntKind.u32.wrap es = es := by rw [w32u]; omega
  have hwr : IntKind.u32.wrap er = er := by rw [w32u]; omega
  sym =>
  simp [Zaa,Zab,Zad,Zae,Zaf,Zag,Zak,Zal,Zam,Zao,Zap,Zar,Zaz,Za0,Za1,Za2,Za3,Za4,Za5,Za6,Za7,Za8,Za9,Zba,Zbb,Zbd,Zbf,Zbj,Zbl,Zbr,Zbt,Zbv,Zb7,Zb9,Ztq,Zcd,Zch,Zcn,Zcv,Zcx,Zcz,Zc3,Zdc,Zdd,Zde,Zdi,Zdm,Zrj,Zrl,Zrm,Zrn,Zro,Zrp,Zrq,Zrr,Zrt,Zru,Zrv,Zrw,Zrx,Zry,Zrz,Zr1,Zr2,Zsb,Zsd,Zse,Zsf,Zsg,Zsh,Zsj,Zsm,Zsn,Zso,Zsp,Zsr,Zst,Zsw,Ztg,Zev,Zew,Zex,Zez,Ze0,Ze1,Ze2,Ze3,Ze5,Ze8,Ze9,Zfc,Zfd,Zfe,Zfh,Zfi,Zfj,Zfl,Zfn,Zf0,Zf1,Zf3,Zgd,Zgg,Zgh,Zgi,Zgo,Zgp,Zgq,Zgr,Zgs,Zgt,Zgu,Zgv,Zgw,Zgx,Zhb,Zhc,Zhd,Zhe,Zhf,Zhg,Zhh,Ztw,Ztx,Zhj,Zhk,Zhm,Zhn,Zho,Zhs,Zht,Zhu,Zh6,Zh7,Zin,Zio,Zip,Ziq,Zir,Ziu,Ziv,Ziw,Zi6,Zi7,Zjb,Zjh,Zji,Zjl,Zjm,Zjn,Zjp,Zjr,Zju,Zjw,Zj2,Zj7,Zj9,Zka,Zky,Zk0,Zk4,Zla,Zlb,Zlc,Zld,Zle,Zlf,Zlh,Zlj,Zlk,Zll,Zlm,Zlt,Zlu,Zlx,Zly,Zlz,Zl2,Zmt,Zmv,Zmw,Zmx,Zmy,Zmz,Zm0,Zm1,Zm3,Zm5,Zm6,Zm7,Zm9,Zna,Znb,Znc,Zne,Znf,Zng,Znh,Znl,Znm,Znn,Zno,Znp,Zns,Znu,Znx,Zof,Zog,Zrd,Zos,Zot,Zov,Zo3,Zo4,Zo6,Zo7,Zo8,Zo9,Zpb,Zpg,Zpv,Zp7,Zp9,Zqd,Zqe,List.length_drop,eq_self,true_and,and_true,Nat.zero_add,Nat.mul_one,zF_fc,fc_0,fc_17,fc_18,fc_19,fc_20,fc_53,fc_54,fc_55,fs_0,fs_17,fs_18,fs_19,fs_20,fs_53,fs_54,fs_55,fp_1,fp_21,fp_f,rb_1,rb_21,rb_0,fc_len,fc_ok,fc_id,fc_rs,v16,v32,cB_cells,hp,ed2,ed2',ed2l,ed2a,callable_37]
  tactic =>
  and_intros <;> try (first | omega | rfl | assumption | simp only [IN]; omega)
  refine clG [some ⟨[fB d3, Bo false], 1, 0⟩] none c1 rfl ⟨⟨o0 _ _, trivial⟩, trivial, rfl⟩ ?_
  sym =>
  simp [Zaa,Zab,Zad,Zae,Zaf,Zag,Zak,Zal,Zam,Zao,Zap,Zar,Zaz,Za0,Za1,Za2,Za3,Za4,Za5,Za6,Za7,Za8,Za9,Zba,Zbb,Zbd,Zbf,Zbj,Zbl,Zbr,Zbt,Zbv,Zb7,Zb9,Ztq,Zcd,Zch,Zcn,Zcv,Zcx,Zcz,Zc3,Zdc,Zdd,Zde,Zdi,Zdm,Zrj,Zrl,Zrm,Zrn,Zro,Zrp,Zrq,Zrr,Zrt,Zru,Zrv,Zrw,Zrx,Zry,Zrz,Zr1,Zr2,Zsb,Zsd,Zse,Zsf,Zsg,Zsh,Zsj,Zsm,Zsn,Zso,Zsp,Zsr,Zst,Zsw,Ztg,Zev,Zew,Zex,Zez,Ze0,Ze1,Ze2,Ze3,Ze5,Ze8,Ze9,Zfc,Zfd,Zfe,Zfh,Zfi,Zfj,Zfl,Zfn,Zf0,Zf1,Zf3,Zgd,Zgg,Zgh,Zgi,Zgo,Zgp,Zgq,Zgr,Zgs,Zgt,Zgu,Zgv,Zgw,Zgx,Zhb,Zhc,Zhd,Zhe,Zhf,Zhg,Zhh,Ztw,Ztx,Zhj,Zhk,Zhm,Zhn,Zho,Zhs,Zht,Zhu,Zh6,Zh7,Zin,Zio,Zip,Ziq,Zir,Ziu,Ziv,Ziw,Zi6,Zi7,Zjb,Zjh,Zji,Zjl,Zjm,Zjn,Zjp,Zjr,Zju,Zjw,Zj2,Zj7,Zj9,Zka,Zky,Zk0,Zk4,Zla,Zlb,Zlc,Zld,Zle,Zlf,Zlh,Zlj,Zlk,Zll,Zlm,Zlt,Zlu,Zlx,Zly,Zlz,Zl2,Zmt,Zmv,Zmw,Zmx,Zmy,Zmz,Zm0,Zm1,Zm3,Zm5,Zm6,Zm7,Zm9,Zna,Znb,Znc,Zne,Znf,Zng,Znh,Znl,Znm,Znn,Zno,Znp,Zns,Znu,Znx,Zof,Zog,Zrd,Zos,Zot,Zov,Zo3,Zo4,Zo6,Zo7,Zo8,Zo9,Zpb,Zpg,Zpv,Zp7,Zp9,Zqd,Zqe,List.length_drop,eq_self,true_and,and_true,Nat.zero_add,Nat.mul_one,zF_fc,fc_0,fc_17,fc_18,fc_19,fc_20,fc_53,fc_54,fc_55,fs_0,fs_17,fs_18,fs_19,fs_20,fs_53,fs_54,fs_55,fp_1,fp_21,fp_f,rb_1,rb_21,rb_0,fc_len,fc_ok,fc_id,fc_rs,v16,v32,cB_cells,hwk,callable_37]
  tactic =>
  and_intros <;> try (first | omega | rfl | assumption | simp only [IN]; omega)
  refine clG [some ⟨[fB d4, Bo false], 1, 0⟩] none c2 rfl ⟨⟨o0 _ _, trivial⟩, trivial, rfl⟩ ?_
  sym =>
  simp [Zaa,Zab,Zad,Zae,Zaf,Zag,Zak,Zal,Zam,Zao,Zap,Zar,Zaz,Za0,Za1,Za2,Za3,Za4,Za5,Za6,Za7,Za8,Za9,Zba,Zbb,Zbd,Zbf,Zbj,Zbl,Zbr,Zbt,Zbv,Zb7,Zb9,Ztq,Zcd,Zch,Zcn,Zcv,Zcx,Zcz,Zc3,Zdc,Zdd,Zde,Zdi,Zdm,Zrj,Zrl,Zrm,Zrn,Zro,Zrp,Zrq,Zrr,Zrt,Zru,Zrv,Zrw,Zrx,Zry,Zrz,Zr1,Zr2,Zsb,Zsd,Zse,Zsf,Zsg,Zsh,Zsj,Zsm,Zsn,Zso,Zsp,Zsr,Zst,Zsw,Ztg,Zev,Zew,Zex,Zez,Ze0,Ze1,Ze2,Ze3,Ze5,Ze8,Ze9,Zfc,Zfd,Zfe,Zfh,Zfi,Zfj,Zfl,Zfn,Zf0,Zf1,Zf3,Zgd,Zgg,Zgh,Zgi,Zgo,Zgp,Zgq,Zgr,Zgs,Zgt,Zgu,Zgv,Zgw,Zgx,Zhb,Zhc,Zhd,Zhe,Zhf,Zhg,Zhh,Ztw,Ztx,Zhj,Zhk,Zhm,Zhn,Zho,Zhs,Zht,Zhu,Zh6,Zh7,Zin,Zio,Zip,Ziq,Zir,Ziu,Ziv,Ziw,Zi6,Zi7,Zjb,Zjh,Zji,Zjl,Zjm,Zjn,Zjp,Zjr,Zju,Zjw,Zj2,Zj7,Zj9,Zka,Zky,Zk0,Zk4,Zla,Zlb,Zlc,Zld,Zle,Zlf,Zlh,Zlj,Zlk,Zll,Zlm,Zlt,Zlu,Zlx,Zly,Zlz,Zl2,Zmt,Zmv,Zmw,Zmx,Zmy,Zmz,Zm0,Zm1,Zm3,Zm5,Zm6,Zm7,Zm9,Zna,Znb,Znc,Zne,Znf,Zng,Znh,Znl,Znm,Znn,Zno,Znp,Zns,Znu,Znx,Zof,Zog,Zrd,Zos,Zot,Zov,Zo3,Zo4,Zo6,Zo7,Zo8,Zo9,Zpb,Zpg,Zpv,Zp7,Zp9,Zqd,Zqe,List.length_drop,eq_self,true_and,and_true,Nat.zero_add,Nat.mul_one,zF_fc,fc_0,fc_17,fc_18,fc_19,fc_20,fc_53,fc_54,fc_55,fs_0,fs_17,fs_18,fs_19,fs_20,fs_53,fs_54,fs_55,fp_1,fp_21,fp_f,rb_1,rb_21,rb_0,fc_len,fc_ok,fc_id,fc_rs,v16,v32,cB_cells,hwm,callable_38]
  tactic =>
  and_intros <;> try (first | omega | rfl | assumption | simp only [IN]; omega)
  refine clG [some ⟨[fB d20, Bo false], 1, 0⟩] none c3 rfl ⟨⟨o0 _ _, trivial⟩, trivial, rfl⟩ ?_
  have hr16 : rdb (cB t.1) 0 16 = cB t.1 := rdb_all (v16 t)
  have ft := cB_okF t.1
  sym =>
  simp [Zaa,Zab,Zad,Zae,Zaf,Zag,Zak,Zal,Zam,Zao,Zap,Zar,Zaz,Za0,Za1,Za2,Za3,Za4,Za5,Za6,Za7,Za8,Za9,Zba,Zbb,Zbd,Zbf,Zbj,Zbl,Zbr,Zbt,Zbv,Zb7,Zb9,Ztq,Zcd,Zch,Zcn,Zcv,Zcx,Zcz,Zc3,Zdc,Zdd,Zde,Zdi,Zdm,Zrj,Zrl,Zrm,Zrn,Zro,Zrp,Zrq,Zrr,Zrt,Zru,Zrv,Zrw,Zrx,Zry,Zrz,Zr1,Zr2,Zsb,Zsd,Zse,Zsf,Zsg,Zsh,Zsj,Zsm,Zsn,Zso,Zsp,Zsr,Zst,Zsw,Ztg,Zev,Zew,Zex,Zez,Ze0,Ze1,Ze2,Ze3,Ze5,Ze8,Ze9,Zfc,Zfd,Zfe,Zfh,Zfi,Zfj,Zfl,Zfn,Zf0,Zf1,Zf3,Zgd,Zgg,Zgh,Zgi,Zgo,Zgp,Zgq,Zgr,Zgs,Zgt,Zgu,Zgv,Zgw,Zgx,Zhb,Zhc,Zhd,Zhe,Zhf,Zhg,Zhh,Ztw,Ztx,Zhj,Zhk,Zhm,Zhn,Zho,Zhs,Zht,Zhu,Zh6,Zh7,Zin,Zio,Zip,Ziq,Zir,Ziu,Ziv,Ziw,Zi6,Zi7,Zjb,Zjh,Zji,Zjl,Zjm,Zjn,Zjp,Zjr,Zju,Zjw,Zj2,Zj7,Zj9,Zka,Zky,Zk0,Zk4,Zla,Zlb,Zlc,Zld,Zle,Zlf,Zlh,Zlj,Zlk,Zll,Zlm,Zlt,Zlu,Zlx,Zly,Zlz,Zl2,Zmt,Zmv,Zmw,Zmx,Zmy,Zmz,Zm0,Zm1,Zm3,Zm5,Zm6,Zm7,Zm9,Zna,Znb,Znc,Zne,Znf,Zng,Znh,Znl,Znm,Znn,Zno,Znp,Zns,Znu,Znx,Zof,Zog,Zrd,Zos,Zot,Zov,Zo3,Zo4,Zo6,Zo7,Zo8,Zo9,Zpb,Zpg,Zpv,Zp7,Zp9,Zqd,Zqe,List.length_drop,eq_self,true_and,and_true,Nat.zero_add,Nat.mul_one,zF_fc,fc_0,fc_17,fc_18,fc_19,fc_20,fc_53,fc_54,fc_55,fs_0,fs_17,fs_18,fs_19,fs_20,fs_53,fs_54,fs_55,fp_1,fp_21,fp_f,rb_1,rb_21,rb_0,fc_len,fc_ok,fc_id,fc_rs,v16,v32,cB_cells,hr16,callable_37]
  tactic =>
  and_intros <;> try (first | omega | rfl | assumption | simp only [IN]; omega)
  refine clG [some ⟨[fB d24, Bo false], 1, 0⟩] none c4' rfl ⟨⟨o0 _ _, trivial⟩, trivial, rfl⟩ ?_
  sym =>
  simp [Zaa,Zab,Zad,Zae,Zaf,Zag,Zak,Zal,Zam,Zao,Zap,Zar,Zaz,Za0,Za1,Za2,Za3,Za4,Za5,Za6,Za7,Za8,Za9,Zba,Zbb,Zbd,Zbf,Zbj,Zbl,Zbr,Zbt,Zbv,Zb7,Zb9,Ztq,Zcd,Zch,Zcn,Zcv,Zcx,Zcz,Zc3,Zdc,Zdd,Zde,Zdi,Zdm,Zrj,Zrl,Zrm,Zrn,Zro,Zrp,Zrq,Zrr,Zrt,Zru,Zrv,Zrw,Zrx,Zry,Zrz,Zr1,Zr2,Zsb,Zsd,Zse,Zsf,Zsg,Zsh,Zsj,Zsm,Zsn,Zso,Zsp,Zsr,Zst,Zsw,Ztg,Zev,Zew,Zex,Zez,Ze0,Ze1,Ze2,Ze3,Ze5,Ze8,Ze9,Zfc,Zfd,Zfe,Zfh,Zfi,Zfj,Zfl,Zfn,Zf0,Zf1,Zf3,Zgd,Zgg,Zgh,Zgi,Zgo,Zgp,Zgq,Zgr,Zgs,Zgt,Zgu,Zgv,Zgw,Zgx,Zhb,Zhc,Zhd,Zhe,Zhf,Zhg,Zhh,Ztw,Ztx,Zhj,Zhk,Zhm,Zhn,Zho,Zhs,Zht,Zhu,Zh6,Zh7,Zin,Zio,Zip,Ziq,Zir,Ziu,Ziv,Ziw,Zi6,Zi7,Zjb,Zjh,Zji,Zjl,Zjm,Zjn,Zjp,Zjr,Zju,Zjw,Zj2,Zj7,Zj9,Zka,Zky,Zk0,Zk4,Zla,Zlb,Zlc,Zld,Zle,Zlf,Zlh,Zlj,Zlk,Zll,Zlm,Zlt,Zlu,Zlx,Zly,Zlz,Zl2,Zmt,Zmv,Zmw,Zmx,Zmy,Zmz,Zm0,Zm1,Zm3,Zm5,Zm6,Zm7,Zm9,Zna,Znb,Znc,Zne,Znf,Zng,Znh,Znl,Znm,Znn,Zno,Znp,Zns,Znu,Znx,Zof,Zog,Zrd,Zos,Zot,Zov,Zo3,Zo4,Zo6,Zo7,Zo8,Zo9,Zpb,Zpg,Zpv,Zp7,Zp9,Zqd,Zqe,List.length_drop,eq_self,true_and,and_true,Nat.zero_add,Nat.mul_one,zF_fc,fc_0,fc_17,fc_18,fc_19,fc_20,fc_53,fc_54,fc_55,fs_0,fs_17,fs_18,fs_19,fs_20,fs_53,fs_54,fs_55,fp_1,fp_21,fp_f,rb_1,rb_21,rb_0,fc_len,fc_ok,fc_id,fc_rs,v16,v32,cB_cells,hws,callable_37]
  tactic =>
  and_intros <;> try (first | omega | rfl | assumption | simp only [IN]; omega)
  refine clG [some ⟨[fB d28, Bo false], 1, 0⟩] none c5' rfl ⟨⟨o0 _ _, trivial⟩, trivial, rfl⟩ ?_
  sym =>
  simp [Zaa,Zab,Zad,Zae,Zaf,Zag,Zak,Zal,Zam,Zao,Zap,Zar,Zaz,Za0,Za1,Za2,Za3,Za4,Za5,Za6,Za7,Za8,Za9,Zba,Zbb,Zbd,Zbf,Zbj,Zbl,Zbr,Zbt,Zbv,Zb7,Zb9,Ztq,Zcd,Zch,Zcn,Zcv,Zcx,Zcz,Zc3,Zdc,Zdd,Zde,Zdi,Zdm,Zrj,Zrl,Zrm,Zrn,Zro,Zrp,Zrq,Zrr,Zrt,Zru,Zrv,Zrw,Zrx,Zry,Zrz,Zr1,Zr2,Zsb,Zsd,Zse,Zsf,Zsg,Zsh,Zsj,Zsm,Zsn,Zso,Zsp,Zsr,Zst,Zsw,Ztg,Zev,Zew,Zex,Zez,Ze0,Ze1,Ze2,Ze3,Ze5,Ze8,Ze9,Zfc,Zfd,Zfe,Zfh,Zfi,Zfj,Zfl,Zfn,Zf0,Zf1,Zf3,Zgd,Zgg,Zgh,Zgi,Zgo,Zgp,Zgq,Zgr,Zgs,Zgt,Zgu,Zgv,Zgw,Zgx,Zhb,Zhc,Zhd,Zhe,Zhf,Zhg,Zhh,Ztw,Ztx,Zhj,Zhk,Zhm,Zhn,Zho,Zhs,Zht,Zhu,Zh6,Zh7,Zin,Zio,Zip,Ziq,Zir,Ziu,Ziv,Ziw,Zi6,Zi7,Zjb,Zjh,Zji,Zjl,Zjm,Zjn,Zjp,Zjr,Zju,Zjw,Zj2,Zj7,Zj9,Zka,Zky,Zk0,Zk4,Zla,Zlb,Zlc,Zld,Zle,Zlf,Zlh,Zlj,Zlk,Zll,Zlm,Zlt,Zlu,Zlx,Zly,Zlz,Zl2,Zmt,Zmv,Zmw,Zmx,Zmy,Zmz,Zm0,Zm1,Zm3,Zm5,Zm6,Zm7,Zm9,Zna,Znb,Znc,Zne,Znf,Zng,Znh,Znl,Znm,Znn,Zno,Znp,Zns,Znu,Znx,Zof,Zog,Zrd,Zos,Zot,Zov,Zo3,Zo4,Zo6,Zo7,Zo8,Zo9,Zpb,Zpg,Zpv,Zp7,Zp9,Zqd,Zqe,List.length_drop,eq_self,true_and,and_true,Nat.zero_add,Nat.mul_one,zF_fc,fc_0,fc_17,fc_18,fc_19,fc_20,fc_53,fc_54,fc_55,fs_0,fs_17,fs_18,fs_19,fs_20,fs_53,fs_54,fs_55,fp_1,fp_21,fp_f,rb_1,rb_21,rb_0,fc_len,fc_ok,fc_id,fc_rs,v16,v32,cB_cells,hwr]
  tactic =>
  by_cases h1 : k < 1
  · rw [if_pos h1] at hR
    subst hR
    sym =>
    simp [Zaa,Zab,Zad,Zae,Zaf,Zag,Zak,Zal,Zam,Zao,Zap,Zar,Zaz,Za0,Za1,Za2,Za3,Za4,Za5,Za6,Za7,Za8,Za9,Zba,Zbb,Zbd,Zbf,Zbj,Zbl,Zbr,Zbt,Zbv,Zb7,Zb9,Ztq,Zcd,Zch,Zcn,Zcv,Zcx,Zcz,Zc3,Zdc,Zdd,Zde,Zdi,Zdm,Zrj,Zrl,Zrm,Zrn,Zro,Zrp,Zrq,Zrr,Zrt,Zru,Zrv,Zrw,Zrx,Zry,Zrz,Zr1,Zr2,Zsb,Zsd,Zse,Zsf,Zsg,Zsh,Zsj,Zsm,Zsn,Zso,Zsp,Zsr,Zst,Zsw,Ztg,Zev,Zew,Zex,Zez,Ze0,Ze1,Ze2,Ze3,Ze5,Ze8,Ze9,Zfc,Zfd,Zfe,Zfh,Zfi,Zfj,Zfl,Zfn,Zf0,Zf1,Zf3,Zgd,Zgg,Zgh,Zgi,Zgo,Zgp,Zgq,Zgr,Zgs,Zgt,Zgu,Zgv,Zgw,Zgx,Zhb,Zhc,Zhd,Zhe,Zhf,Zhg,Zhh,Ztw,Ztx,Zhj,Zhk,Zhm,Zhn,Zho,Zhs,Zht,Zhu,Zh6,Zh7,Zin,Zio,Zip,Ziq,Zir,Ziu,Ziv,Ziw,Zi6,Zi7,Zjb,Zjh,Zji,Zjl,Zjm,Zjn,Zjp,Zjr,Zju,Zjw,Zj2,Zj7,Zj9,Zka,Zky,Zk0,Zk4,Zla,Zlb,Zlc,Zld,Zle,Zlf,Zlh,Zlj,Zlk,Zll,Zlm,Zlt,Zlu,Zlx,Zly,Zlz,Zl2,Zmt,Zmv,Zmw,Zmx,Zmy,Zmz,Zm0,Zm1,Zm3,Zm5,Zm6,Zm7,Zm9,Zna,Znb,Znc,Zne,Znf,Zng,Znh,Znl,Znm,Znn,Zno,Znp,Zns,Znu,Znx,Zof,Zog,Zrd,Zos,Zot,Zov,Zo3,Zo4,Zo6,Zo7,Zo8,Zo9,Zpb,Zpg,Zpv,Zp7,Zp9,Zqd,Zqe,List.length_drop,eq_self,true_and,and_true,Nat.zero_add,Nat.mul_one,zF_fc,fc_0,fc_17,fc_18,fc_19,fc_20,fc_53,fc_54,fc_55,fs_0,fs_17,fs_18,fs_19,fs_20,fs_53,fs_54,fs_55,fp_1,fp_21,fp_f,rb_1,rb_21,rb_0,fc_len,fc_ok,fc_id,fc_rs,v16,v32,cB_cells,h1]
    tactic =>
    refine endA ?_
    simp only [fr, zFm]
    sym =>
    simp [Zaa,Zab,Zad,Zae,Zaf,Zag,Zak,Zal,Zam,Zao,Zap,Zar,Zaz,Za0,Za1,Za2,Za3,Za4,Za5,Za6,Za7,Za8,Za9,Zba,Zbb,Zbd,Zbf,Zbj,Zbl,Zbr,Zbt,Zbv,Zb7,Zb9,Ztq,Zcd,Zch,Zcn,Zcv,Zcx,Zcz,Zc3,Zdc,Zdd,Zde,Zdi,Zdm,Zrj,Zrl,Zrm,Zrn,Zro,Zrp,Zrq,Zrr,Zrt,Zru,Zrv,Zrw,Zrx,Zry,Zrz,Zr1,Zr2,Zsb,Zsd,Zse,Zsf,Zsg,Zsh,Zsj,Zsm,Zsn,Zso,Zsp,Zsr,Zst,Zsw,Ztg,Zev,Zew,Zex,Zez,Ze0,Ze1,Ze2,Ze3,Ze5,Ze8,Ze9,Zfc,Zfd,Zfe,Zfh,Zfi,Zfj,Zfl,Zfn,Zf0,Zf1,Zf3,Zgd,Zgg,Zgh,Zgi,Zgo,Zgp,Zgq,Zgr,Zgs,Zgt,Zgu,Zgv,Zgw,Zgx,Zhb,Zhc,Zhd,Zhe,Zhf,Zhg,Zhh,Ztw,Ztx,Zhj,Zhk,Zhm,Zhn,Zho,Zhs,Zht,Zhu,Zh6,Zh7,Zin,Zio,Zip,Ziq,Zir,Ziu,Ziv,Ziw,Zi6,Zi7,Zjb,Zjh,Zji,Zjl,Zjm,Zjn,Zjp,Zjr,Zju,Zjw,Zj2,Zj7,Zj9,Zka,Zky,Zk0,Zk4,Zla,Zlb,Zlc,Zld,Zle,Zlf,Zlh,Zlj,Zlk,Zll,Zlm,Zlt,Zlu,Zlx,Zly,Zlz,Zl2,Zmt,Zmv,Zmw,Zmx,Zmy,Zmz,Zm0,Zm1,Zm3,Zm5,Zm6,Zm7,Zm9,Zna,Znb,Znc,Zne,Znf,Zng,Znh,Znl,Znm,Znn,Zno,Znp,Zns,Znu,Znx,Zof,Zog,Zrd,Zos,Zot,Zov,Zo3,Zo4,Zo6,Zo7,Zo8,Zo9,Zpb,Zpg,Zpv,Zp7,Zp9,Zqd,Zqe,List.length_drop,eq_self,true_and,and_true,Nat.zero_add,Nat.mul_one,zF_fc,fc_0,fc_17,fc_18,fc_19,fc_20,fc_53,fc_54,fc_55,fs_0,fs_17,fs_18,fs_19,fs_20,fs_53,fs_54,fs_55,fp_1,fp_21,fp_f,rb_1,rb_21,rb_0,fc_len,fc_ok,fc_id,fc_rs,v16,v32,cB_cells]
    tactic =>
    exact ⟨rfl, rfl⟩
  rw [if_neg h1] at hR
  by_cases h7 : 7 < k
  · rw [if_pos h7] at hR
    subst hR
    have h7' : k > 7 := h7
    sym =>
    simp [Zaa,Zab,Zad,Zae,Zaf,Zag,Zak,Zal,Zam,Zao,Zap,Zar,Zaz,Za0,Za1,Za2,Za3,Za4,Za5,Za6,Za7,Za8,Za9,Zba,Zbb,Zbd,Zbf,Zbj,Zbl,Zbr,Zbt,Zbv,Zb7,Zb9,Ztq,Zcd,Zch,Zcn,Zcv,Zcx,Zcz,Zc3,Zdc,Zdd,Zde,Zdi,Zdm,Zrj,Zrl,Zrm,Zrn,Zro,Zrp,Zrq,Zrr,Zrt,Zru,Zrv,Zrw,Zrx,Zry,Zrz,Zr1,Zr2,Zsb,Zsd,Zse,Zsf,Zsg,Zsh,Zsj,Zsm,Zsn,Zso,Zsp,Zsr,Zst,Zsw,Ztg,Zev,Zew,Zex,Zez,Ze0,Ze1,Ze2,Ze3,Ze5,Ze8,Ze9,Zfc,Zfd,Zfe,Zfh,Zfi,Zfj,Zfl,Zfn,Zf0,Zf1,Zf3,Zgd,Zgg,Zgh,Zgi,Zgo,Zgp,Zgq,Zgr,Zgs,Zgt,Zgu,Zgv,Zgw,Zgx,Zhb,Zhc,Zhd,Zhe,Zhf,Zhg,Zhh,Ztw,Ztx,Zhj,Zhk,Zhm,Zhn,Zho,Zhs,Zht,Zhu,Zh6,Zh7,Zin,Zio,Zip,Ziq,Zir,Ziu,Ziv,Ziw,Zi6,Zi7,Zjb,Zjh,Zji,Zjl,Zjm,Zjn,Zjp,Zjr,Zju,Zjw,Zj2,Zj7,Zj9,Zka,Zky,Zk0,Zk4,Zla,Zlb,Zlc,Zld,Zle,Zlf,Zlh,Zlj,Zlk,Zll,Zlm,Zlt,Zlu,Zlx,Zly,Zlz,Zl2,Zmt,Zmv,Zmw,Zmx,Zmy,Zmz,Zm0,Zm1,Zm3,Zm5,Zm6,Zm7,Zm9,Zna,Znb,Znc,Zne,Znf,Zng,Znh,Znl,Znm,Znn,Zno,Znp,Zns,Znu,Znx,Zof,Zog,Zrd,Zos,Zot,Zov,Zo3,Zo4,Zo6,Zo7,Zo8,Zo9,Zpb,Zpg,Zpv,Zp7,Zp9,Zqd,Zqe,List.length_drop,eq_self,true_and,and_true,Nat.zero_add,Nat.mul_one,zF_fc,fc_0,fc_17,fc_18,fc_19,fc_20,fc_53,fc_54,fc_55,fs_0,fs_17,fs_18,fs_19,fs_20,fs_53,fs_54,fs_55,fp_1,fp_21,fp_f,rb_1,rb_21,rb_0,fc_len,fc_ok,fc_id,fc_rs,v16,v32,cB_cells,h1,h7']
    tactic =>
    refine endA ?_
    simp only [fr, zFm]
    sym =>
    simp [Zaa,Zab,Zad,Zae,Zaf,Zag,Zak,Zal,Zam,Zao,Zap,Zar,Zaz,Za0,Za1,Za2,Za3,Za4,Za5,Za6,Za7,Za8,Za9,Zba,Zbb,Zbd,Zbf,Zbj,Zbl,Zbr,Zbt,Zbv,Zb7,Zb9,Ztq,Zcd,Zch,Zcn,Zcv,Zcx,Zcz,Zc3,Zdc,Zdd,Zde,Zdi,Zdm,Zrj,Zrl,Zrm,Zrn,Zro,Zrp,Zrq,Zrr,Zrt,Zru,Zrv,Zrw,Zrx,Zry,Zrz,Zr1,Zr2,Zsb,Zsd,Zse,Zsf,Zsg,Zsh,Zsj,Zsm,Zsn,Zso,Zsp,Zsr,Zst,Zsw,Ztg,Zev,Zew,Zex,Zez,Ze0,Ze1,Ze2,Ze3,Ze5,Ze8,Ze9,Zfc,Zfd,Zfe,Zfh,Zfi,Zfj,Zfl,Zfn,Zf0,Zf1,Zf3,Zgd,Zgg,Zgh,Zgi,Zgo,Zgp,Zgq,Zgr,Zgs,Zgt,Zgu,Zgv,Zgw,Zgx,Zhb,Zhc,Zhd,Zhe,Zhf,Zhg,Zhh,Ztw,Ztx,Zhj,Zhk,Zhm,Zhn,Zho,Zhs,Zht,Zhu,Zh6,Zh7,Zin,Zio,Zip,Ziq,Zir,Ziu,Ziv,Ziw,Zi6,Zi7,Zjb,Zjh,Zji,Zjl,Zjm,Zjn,Zjp,Zjr,Zju,Zjw,Zj2,Zj7,Zj9,Zka,Zky,Zk0,Zk4,Zla,Zlb,Zlc,Zld,Zle,Zlf,Zlh,Zlj,Zlk,Zll,Zlm,Zlt,Zlu,Zlx,Zly,Zlz,Zl2,Zmt,Zmv,Zmw,Zmx,Zmy,Zmz,Zm0,Zm1,Zm3,Zm5,Zm6,Zm7,Zm9,Zna,Znb,Znc,Zne,Znf,Zng,Znh,Znl,Znm,Znn,Zno,Znp,Zns,Znu,Znx,Zof,Zog,Zrd,Zos,Zot,Zov,Zo3,Zo4,Zo6,Zo7,Zo8,Zo9,Zpb,Zpg,Zpv,Zp7,Zp9,Zqd,Zqe,List.length_drop,eq_self,true_and,and_true,Nat.zero_add,Nat.mul_one,zF_fc,fc_0,fc_17,fc_18,fc_19,fc_20,fc_53,fc_54,fc_55,fs_0,fs_17,fs_18,fs_19,fs_20,fs_53,fs_54,fs_55,fp_1,fp_21,fp_f,rb_1,rb_21,rb_0,fc_len,fc_ok,fc_id,fc_rs,v16,v32,cB_cells]
    tactic =>
    exact ⟨rfl, rfl⟩
  rw [if_neg h7] at hR
  have h7' : ¬ k > 7 := h7
  sym =>
  simp [Zaa,Zab,Zad,Zae,Zaf,Zag,Zak,Zal,Zam,Zao,Zap,Zar,Zaz,Za0,Za1,Za2,Za3,Za4,Za5,Za6,Za7,Za8,Za9,Zba,Zbb,Zbd,Zbf,Zbj,Zbl,Zbr,Zbt,Zbv,Zb7,Zb9,Ztq,Zcd,Zch,Zcn,Zcv,Zcx,Zcz,Zc3,Zdc,Zdd,Zde,Zdi,Zdm,Zrj,Zrl,Zrm,Zrn,Zro,Zrp,Zrq,Zrr,Zrt,Zru,Zrv,Zrw,Zrx,Zry,Zrz,Zr1,Zr2,Zsb,Zsd,Zse,Zsf,Zsg,Zsh,Zsj,Zsm,Zsn,Zso,Zsp,Zsr,Zst,Zsw,Ztg,Zev,Zew,Zex,Zez,Ze0,Ze1,Ze2,Ze3,Ze5,Ze8,Ze9,Zfc,Zfd,Zfe,Zfh,Zfi,Zfj,Zfl,Zfn,Zf0,Zf1,Zf3,Zgd,Zgg,Zgh,Zgi,Zgo,Zgp,Zgq,Zgr,Zgs,Zgt,Zgu,Zgv,Zgw,Zgx,Zhb,Zhc,Zhd,Zhe,Zhf,Zhg,Zhh,Ztw,Ztx,Zhj,Zhk,Zhm,Zhn,Zho,Zhs,Zht,Zhu,Zh6,Zh7,Zin,Zio,Zip,Ziq,Zir,Ziu,Ziv,Ziw,Zi6,Zi7,Zjb,Zjh,Zji,Zjl,Zjm,Zjn,Zjp,Zjr,Zju,Zjw,Zj2,Zj7,Zj9,Zka,Zky,Zk0,Zk4,Zla,Zlb,Zlc,Zld,Zle,Zlf,Zlh,Zlj,Zlk,Zll,Zlm,Zlt,Zlu,Zlx,Zly,Zlz,Zl2,Zmt,Zmv,Zmw,Zmx,Zmy,Zmz,Zm0,Zm1,Zm3,Zm5,Zm6,Zm7,Zm9,Zna,Znb,Znc,Zne,Znf,Zng,Znh,Znl,Znm,Znn,Zno,Znp,Zns,Znu,Znx,Zof,Zog,Zrd,Zos,Zot,Zov,Zo3,Zo4,Zo6,Zo7,Zo8,Zo9,Zpb,Zpg,Zpv,Zp7,Zp9,Zqd,Zqe,List.length_drop,eq_self,true_and,and_true,Nat.zero_add,Nat.mul_one,zF_fc,fc_0,fc_17,fc_18,fc_19,fc_20,fc_53,fc_54,fc_55,fs_0,fs_17,fs_18,fs_19,fs_20,fs_53,fs_54,fs_55,fp_1,fp_21,fp_f,rb_1,rb_21,rb_0,fc_len,fc_ok,fc_id,fc_rs,v16,v32,cB_cells,h1,h7',callable_23]
  tactic =>
  refine cl none (cm) trivial ?_
  by_cases hm : mk = mkF es er
  rotate_left
  · rw [if_neg hm] at hR
    subst hR
    sym =>
    simp [Zaa,Zab,Zad,Zae,Zaf,Zag,Zak,Zal,Zam,Zao,Zap,Zar,Zaz,Za0,Za1,Za2,Za3,Za4,Za5,Za6,Za7,Za8,Za9,Zba,Zbb,Zbd,Zbf,Zbj,Zbl,Zbr,Zbt,Zbv,Zb7,Zb9,Ztq,Zcd,Zch,Zcn,Zcv,Zcx,Zcz,Zc3,Zdc,Zdd,Zde,Zdi,Zdm,Zrj,Zrl,Zrm,Zrn,Zro,Zrp,Zrq,Zrr,Zrt,Zru,Zrv,Zrw,Zrx,Zry,Zrz,Zr1,Zr2,Zsb,Zsd,Zse,Zsf,Zsg,Zsh,Zsj,Zsm,Zsn,Zso,Zsp,Zsr,Zst,Zsw,Ztg,Zev,Zew,Zex,Zez,Ze0,Ze1,Ze2,Ze3,Ze5,Ze8,Ze9,Zfc,Zfd,Zfe,Zfh,Zfi,Zfj,Zfl,Zfn,Zf0,Zf1,Zf3,Zgd,Zgg,Zgh,Zgi,Zgo,Zgp,Zgq,Zgr,Zgs,Zgt,Zgu,Zgv,Zgw,Zgx,Zhb,Zhc,Zhd,Zhe,Zhf,Zhg,Zhh,Ztw,Ztx,Zhj,Zhk,Zhm,Zhn,Zho,Zhs,Zht,Zhu,Zh6,Zh7,Zin,Zio,Zip,Ziq,Zir,Ziu,Ziv,Ziw,Zi6,Zi7,Zjb,Zjh,Zji,Zjl,Zjm,Zjn,Zjp,Zjr,Zju,Zjw,Zj2,Zj7,Zj9,Zka,Zky,Zk0,Zk4,Zla,Zlb,Zlc,Zld,Zle,Zlf,Zlh,Zlj,Zlk,Zll,Zlm,Zlt,Zlu,Zlx,Zly,Zlz,Zl2,Zmt,Zmv,Zmw,Zmx,Zmy,Zmz,Zm0,Zm1,Zm3,Zm5,Zm6,Zm7,Zm9,Zna,Znb,Znc,Zne,Znf,Zng,Znh,Znl,Znm,Znn,Zno,Znp,Zns,Znu,Znx,Zof,Zog,Zrd,Zos,Zot,Zov,Zo3,Zo4,Zo6,Zo7,Zo8,Zo9,Zpb,Zpg,Zpv,Zp7,Zp9,Zqd,Zqe,List.length_drop,eq_self,true_and,and_true,Nat.zero_add,Nat.mul_one,zF_fc,fc_0,fc_17,fc_18,fc_19,fc_20,fc_53,fc_54,fc_55,fs_0,fs_17,fs_18,fs_19,fs_20,fs_53,fs_54,fs_55,fp_1,fp_21,fp_f,rb_1,rb_21,rb_0,fc_len,fc_ok,fc_id,fc_rs,v16,v32,cB_cells,hm]
    tactic =>
    refine endA ?_
    simp only [fr, zFm]
    sym =>
    simp [Zaa,Zab,Zad,Zae,Zaf,Zag,Zak,Zal,Zam,Zao,Zap,Zar,Zaz,Za0,Za1,Za2,Za3,Za4,Za5,Za6,Za7,Za8,Za9,Zba,Zbb,Zbd,Zbf,Zbj,Zbl,Zbr,Zbt,Zbv,Zb7,Zb9,Ztq,Zcd,Zch,Zcn,Zcv,Zcx,Zcz,Zc3,Zdc,Zdd,Zde,Zdi,Zdm,Zrj,Zrl,Zrm,Zrn,Zro,Zrp,Zrq,Zrr,Zrt,Zru,Zrv,Zrw,Zrx,Zry,Zrz,Zr1,Zr2,Zsb,Zsd,Zse,Zsf,Zsg,Zsh,Zsj,Zsm,Zsn,Zso,Zsp,Zsr,Zst,Zsw,Ztg,Zev,Zew,Zex,Zez,Ze0,Ze1,Ze2,Ze3,Ze5,Ze8,Ze9,Zfc,Zfd,Zfe,Zfh,Zfi,Zfj,Zfl,Zfn,Zf0,Zf1,Zf3,Zgd,Zgg,Zgh,Zgi,Zgo,Zgp,Zgq,Zgr,Zgs,Zgt,Zgu,Zgv,Zgw,Zgx,Zhb,Zhc,Zhd,Zhe,Zhf,Zhg,Zhh,Ztw,Ztx,Zhj,Zhk,Zhm,Zhn,Zho,Zhs,Zht,Zhu,Zh6,Zh7,Zin,Zio,Zip,Ziq,Zir,Ziu,Ziv,Ziw,Zi6,Zi7,Zjb,Zjh,Zji,Zjl,Zjm,Zjn,Zjp,Zjr,Zju,Zjw,Zj2,Zj7,Zj9,Zka,Zky,Zk0,Zk4,Zla,Zlb,Zlc,Zld,Zle,Zlf,Zlh,Zlj,Zlk,Zll,Zlm,Zlt,Zlu,Zlx,Zly,Zlz,Zl2,Zmt,Zmv,Zmw,Zmx,Zmy,Zmz,Zm0,Zm1,Zm3,Zm5,Zm6,Zm7,Zm9,Zna,Znb,Znc,Zne,Znf,Zng,Znh,Znl,Znm,Znn,Zno,Znp,Zns,Znu,Znx,Zof,Zog,Zrd,Zos,Zot,Zov,Zo3,Zo4,Zo6,Zo7,Zo8,Zo9,Zpb,Zpg,Zpv,Zp7,Zp9,Zqd,Zqe,List.length_drop,eq_self,true_and,and_true,Nat.zero_add,Nat.mul_one,zF_fc,fc_0,fc_17,fc_18,fc_19,fc_20,fc_53,fc_54,fc_55,fs_0,fs_17,fs_18,fs_19,fs_20,fs_53,fs_54,fs_55,fp_1,fp_21,fp_f,rb_1,rb_21,rb_0,fc_len,fc_ok,fc_id,fc_rs,v16,v32,cB_cells]
    tactic =>
    exact ⟨rfl, rfl⟩
  rw [if_pos hm] at hR
  obtain ⟨E, hE⟩ : ∃ E, E = fdE k t es er d28 := ⟨_, rfl⟩
  rw [← hE] at hR
  unfold fdE at hE
  obtain ⟨f, hf⟩ : ∃ f, f = (fdP k t es er d28).1 := ⟨_, rfl⟩
  obtain ⟨b', hb'⟩ : ∃ f, f = (fdP k t es er d28).2.1 := ⟨_, rfl⟩
  obtain ⟨m', hm'⟩ : ∃ f, f = (fdP k t es er d28).2.2 := ⟨_, rfl⟩
  rw [← hf, ← hb', ← hm'] at hE cf
  rw [← hf, ← hb'] at fl
  have omy := may_con f (by omega)
  obtain ⟨k', t', es', er', o', n', su', d', r', c'⟩ := f
  simp only [fr] at cf fl omy
  have ofr : okI (fc k' t' es' er' o' n' su' (fB d') (fR r') c') := fc_okI _ _ _ _ _ _ _ _ _ _ rfl rfl
  sym =>
  simp [Zaa,Zab,Zad,Zae,Zaf,Zag,Zak,Zal,Zam,Zao,Zap,Zar,Zaz,Za0,Za1,Za2,Za3,Za4,Za5,Za6,Za7,Za8,Za9,Zba,Zbb,Zbd,Zbf,Zbj,Zbl,Zbr,Zbt,Zbv,Zb7,Zb9,Ztq,Zcd,Zch,Zcn,Zcv,Zcx,Zcz,Zc3,Zdc,Zdd,Zde,Zdi,Zdm,Zrj,Zrl,Zrm,Zrn,Zro,Zrp,Zrq,Zrr,Zrt,Zru,Zrv,Zrw,Zrx,Zry,Zrz,Zr1,Zr2,Zsb,Zsd,Zse,Zsf,Zsg,Zsh,Zsj,Zsm,Zsn,Zso,Zsp,Zsr,Zst,Zsw,Ztg,Zev,Zew,Zex,Zez,Ze0,Ze1,Ze2,Ze3,Ze5,Ze8,Ze9,Zfc,Zfd,Zfe,Zfh,Zfi,Zfj,Zfl,Zfn,Zf0,Zf1,Zf3,Zgd,Zgg,Zgh,Zgi,Zgo,Zgp,Zgq,Zgr,Zgs,Zgt,Zgu,Zgv,Zgw,Zgx,Zhb,Zhc,Zhd,Zhe,Zhf,Zhg,Zhh,Ztw,Ztx,Zhj,Zhk,Zhm,Zhn,Zho,Zhs,Zht,Zhu,Zh6,Zh7,Zin,Zio,Zip,Ziq,Zir,Ziu,Ziv,Ziw,Zi6,Zi7,Zjb,Zjh,Zji,Zjl,Zjm,Zjn,Zjp,Zjr,Zju,Zjw,Zj2,Zj7,Zj9,Zka,Zky,Zk0,Zk4,Zla,Zlb,Zlc,Zld,Zle,Zlf,Zlh,Zlj,Zlk,Zll,Zlm,Zlt,Zlu,Zlx,Zly,Zlz,Zl2,Zmt,Zmv,Zmw,Zmx,Zmy,Zmz,Zm0,Zm1,Zm3,Zm5,Zm6,Zm7,Zm9,Zna,Znb,Znc,Zne,Znf,Zng,Znh,Znl,Znm,Znn,Zno,Znp,Zns,Znu,Znx,Zof,Zog,Zrd,Zos,Zot,Zov,Zo3,Zo4,Zo6,Zo7,Zo8,Zo9,Zpb,Zpg,Zpv,Zp7,Zp9,Zqd,Zqe,List.length_drop,eq_self,true_and,and_true,Nat.zero_add,Nat.mul_one,zF_fc,fc_0,fc_17,fc_18,fc_19,fc_20,fc_53,fc_54,fc_55,fs_0,fs_17,fs_18,fs_19,fs_20,fs_53,fs_54,fs_55,fp_1,fp_21,fp_f,rb_1,rb_21,rb_0,fc_len,fc_ok,fc_id,fc_rs,v16,v32,cB_cells,hm,callable_39]
  tactic =>
  refine ⟨oF _ _ _ _, ?_⟩
  refine clG [some ⟨[fB b', Bo m'], 1, 0⟩, some ⟨fc k' t' es' er' o' n' su' (fB d') (fR r') c', 1, 0⟩] none cf rfl ⟨⟨o0 _ _, ofr, trivial⟩, trivial, rfl⟩ ?_
  rcases m' with _ | _
  rotate_left
  · rw [if_pos rfl] at hE
    subst hE
    replace hR : R = (zFm, 4) := hR.trans (if_neg (show ¬ (4 : Int) = 0 by decide))
    subst hR
    sym =>
    simp [Zaa,Zab,Zad,Zae,Zaf,Zag,Zak,Zal,Zam,Zao,Zap,Zar,Zaz,Za0,Za1,Za2,Za3,Za4,Za5,Za6,Za7,Za8,Za9,Zba,Zbb,Zbd,Zbf,Zbj,Zbl,Zbr,Zbt,Zbv,Zb7,Zb9,Ztq,Zcd,Zch,Zcn,Zcv,Zcx,Zcz,Zc3,Zdc,Zdd,Zde,Zdi,Zdm,Zrj,Zrl,Zrm,Zrn,Zro,Zrp,Zrq,Zrr,Zrt,Zru,Zrv,Zrw,Zrx,Zry,Zrz,Zr1,Zr2,Zsb,Zsd,Zse,Zsf,Zsg,Zsh,Zsj,Zsm,Zsn,Zso,Zsp,Zsr,Zst,Zsw,Ztg,Zev,Zew,Zex,Zez,Ze0,Ze1,Ze2,Ze3,Ze5,Ze8,Ze9,Zfc,Zfd,Zfe,Zfh,Zfi,Zfj,Zfl,Zfn,Zf0,Zf1,Zf3,Zgd,Zgg,Zgh,Zgi,Zgo,Zgp,Zgq,Zgr,Zgs,Zgt,Zgu,Zgv,Zgw,Zgx,Zhb,Zhc,Zhd,Zhe,Zhf,Zhg,Zhh,Ztw,Ztx,Zhj,Zhk,Zhm,Zhn,Zho,Zhs,Zht,Zhu,Zh6,Zh7,Zin,Zio,Zip,Ziq,Zir,Ziu,Ziv,Ziw,Zi6,Zi7,Zjb,Zjh,Zji,Zjl,Zjm,Zjn,Zjp,Zjr,Zju,Zjw,Zj2,Zj7,Zj9,Zka,Zky,Zk0,Zk4,Zla,Zlb,Zlc,Zld,Zle,Zlf,Zlh,Zlj,Zlk,Zll,Zlm,Zlt,Zlu,Zlx,Zly,Zlz,Zl2,Zmt,Zmv,Zmw,Zmx,Zmy,Zmz,Zm0,Zm1,Zm3,Zm5,Zm6,Zm7,Zm9,Zna,Znb,Znc,Zne,Znf,Zng,Znh,Znl,Znm,Znn,Zno,Znp,Zns,Znu,Znx,Zof,Zog,Zrd,Zos,Zot,Zov,Zo3,Zo4,Zo6,Zo7,Zo8,Zo9,Zpb,Zpg,Zpv,Zp7,Zp9,Zqd,Zqe,List.length_drop,eq_self,true_and,and_true,Nat.zero_add,Nat.mul_one,zF_fc,fc_0,fc_17,fc_18,fc_19,fc_20,fc_53,fc_54,fc_55,fs_0,fs_17,fs_18,fs_19,fs_20,fs_53,fs_54,fs_55,fp_1,fp_21,fp_f,rb_1,rb_21,rb_0,fc_len,fc_ok,fc_id,fc_rs,v16,v32,cB_cells]
    tactic =>
    refine endA ?_
    simp only [fr, zFm]
    sym =>
    simp [Zaa,Zab,Zad,Zae,Zaf,Zag,Zak,Zal,Zam,Zao,Zap,Zar,Zaz,Za0,Za1,Za2,Za3,Za4,Za5,Za6,Za7,Za8,Za9,Zba,Zbb,Zbd,Zbf,Zbj,Zbl,Zbr,Zbt,Zbv,Zb7,Zb9,Ztq,Zcd,Zch,Zcn,Zcv,Zcx,Zcz,Zc3,Zdc,Zdd,Zde,Zdi,Zdm,Zrj,Zrl,Zrm,Zrn,Zro,Zrp,Zrq,Zrr,Zrt,Zru,Zrv,Zrw,Zrx,Zry,Zrz,Zr1,Zr2,Zsb,Zsd,Zse,Zsf,Zsg,Zsh,Zsj,Zsm,Zsn,Zso,Zsp,Zsr,Zst,Zsw,Ztg,Zev,Zew,Zex,Zez,Ze0,Ze1,Ze2,Ze3,Ze5,Ze8,Ze9,Zfc,Zfd,Zfe,Zfh,Zfi,Zfj,Zfl,Zfn,Zf0,Zf1,Zf3,Zgd,Zgg,Zgh,Zgi,Zgo,Zgp,Zgq,Zgr,Zgs,Zgt,Zgu,Zgv,Zgw,Zgx,Zhb,Zhc,Zhd,Zhe,Zhf,Zhg,Zhh,Ztw,Ztx,Zhj,Zhk,Zhm,Zhn,Zho,Zhs,Zht,Zhu,Zh6,Zh7,Zin,Zio,Zip,Ziq,Zir,Ziu,Ziv,Ziw,Zi6,Zi7,Zjb,Zjh,Zji,Zjl,Zjm,Zjn,Zjp,Zjr,Zju,Zjw,Zj2,Zj7,Zj9,Zka,Zky,Zk0,Zk4,Zla,Zlb,Zlc,Zld,Zle,Zlf,Zlh,Zlj,Zlk,Zll,Zlm,Zlt,Zlu,Zlx,Zly,Zlz,Zl2,Zmt,Zmv,Zmw,Zmx,Zmy,Zmz,Zm0,Zm1,Zm3,Zm5,Zm6,Zm7,Zm9,Zna,Znb,Znc,Zne,Znf,Zng,Znh,Znl,Znm,Znn,Zno,Znp,Zns,Znu,Znx,Zof,Zog,Zrd,Zos,Zot,Zov,Zo3,Zo4,Zo6,Zo7,Zo8,Zo9,Zpb,Zpg,Zpv,Zp7,Zp9,Zqd,Zqe,List.length_drop,eq_self,true_and,and_true,Nat.zero_add,Nat.mul_one,zF_fc,fc_0,fc_17,fc_18,fc_19,fc_20,fc_53,fc_54,fc_55,fs_0,fs_17,fs_18,fs_19,fs_20,fs_53,fs_54,fs_55,fp_1,fp_21,fp_f,rb_1,rb_21,rb_0,fc_len,fc_ok,fc_id,fc_rs,v16,v32,cB_cells]
    tactic =>
    exact ⟨rfl, rfl⟩
  rw [if_neg (by decide)] at hE
  by_cases hbl : 0 < b'.length
  · rw [if_pos hbl] at hE
    subst hE
    replace hR : R = (zFm, 3) := hR.trans (if_neg (show ¬ (3 : Int) = 0 by decide))
    subst hR
    sym =>
    simp [Zaa,Zab,Zad,Zae,Zaf,Zag,Zak,Zal,Zam,Zao,Zap,Zar,Zaz,Za0,Za1,Za2,Za3,Za4,Za5,Za6,Za7,Za8,Za9,Zba,Zbb,Zbd,Zbf,Zbj,Zbl,Zbr,Zbt,Zbv,Zb7,Zb9,Ztq,Zcd,Zch,Zcn,Zcv,Zcx,Zcz,Zc3,Zdc,Zdd,Zde,Zdi,Zdm,Zrj,Zrl,Zrm,Zrn,Zro,Zrp,Zrq,Zrr,Zrt,Zru,Zrv,Zrw,Zrx,Zry,Zrz,Zr1,Zr2,Zsb,Zsd,Zse,Zsf,Zsg,Zsh,Zsj,Zsm,Zsn,Zso,Zsp,Zsr,Zst,Zsw,Ztg,Zev,Zew,Zex,Zez,Ze0,Ze1,Ze2,Ze3,Ze5,Ze8,Ze9,Zfc,Zfd,Zfe,Zfh,Zfi,Zfj,Zfl,Zfn,Zf0,Zf1,Zf3,Zgd,Zgg,Zgh,Zgi,Zgo,Zgp,Zgq,Zgr,Zgs,Zgt,Zgu,Zgv,Zgw,Zgx,Zhb,Zhc,Zhd,Zhe,Zhf,Zhg,Zhh,Ztw,Ztx,Zhj,Zhk,Zhm,Zhn,Zho,Zhs,Zht,Zhu,Zh6,Zh7,Zin,Zio,Zip,Ziq,Zir,Ziu,Ziv,Ziw,Zi6,Zi7,Zjb,Zjh,Zji,Zjl,Zjm,Zjn,Zjp,Zjr,Zju,Zjw,Zj2,Zj7,Zj9,Zka,Zky,Zk0,Zk4,Zla,Zlb,Zlc,Zld,Zle,Zlf,Zlh,Zlj,Zlk,Zll,Zlm,Zlt,Zlu,Zlx,Zly,Zlz,Zl2,Zmt,Zmv,Zmw,Zmx,Zmy,Zmz,Zm0,Zm1,Zm3,Zm5,Zm6,Zm7,Zm9,Zna,Znb,Znc,Zne,Znf,Zng,Znh,Znl,Znm,Znn,Zno,Znp,Zns,Znu,Znx,Zof,Zog,Zrd,Zos,Zot,Zov,Zo3,Zo4,Zo6,Zo7,Zo8,Zo9,Zpb,Zpg,Zpv,Zp7,Zp9,Zqd,Zqe,List.length_drop,eq_self,true_and,and_true,Nat.zero_add,Nat.mul_one,zF_fc,fc_0,fc_17,fc_18,fc_19,fc_20,fc_53,fc_54,fc_55,fs_0,fs_17,fs_18,fs_19,fs_20,fs_53,fs_54,fs_55,fp_1,fp_21,fp_f,rb_1,rb_21,rb_0,fc_len,fc_ok,fc_id,fc_rs,v16,v32,cB_cells,hbl]
    tactic =>
    refine endA ?_
    simp only [fr, zFm]
    sym =>
    simp [Zaa,Zab,Zad,Zae,Zaf,Zag,Zak,Zal,Zam,Zao,Zap,Zar,Zaz,Za0,Za1,Za2,Za3,Za4,Za5,Za6,Za7,Za8,Za9,Zba,Zbb,Zbd,Zbf,Zbj,Zbl,Zbr,Zbt,Zbv,Zb7,Zb9,Ztq,Zcd,Zch,Zcn,Zcv,Zcx,Zcz,Zc3,Zdc,Zdd,Zde,Zdi,Zdm,Zrj,Zrl,Zrm,Zrn,Zro,Zrp,Zrq,Zrr,Zrt,Zru,Zrv,Zrw,Zrx,Zry,Zrz,Zr1,Zr2,Zsb,Zsd,Zse,Zsf,Zsg,Zsh,Zsj,Zsm,Zsn,Zso,Zsp,Zsr,Zst,Zsw,Ztg,Zev,Zew,Zex,Zez,Ze0,Ze1,Ze2,Ze3,Ze5,Ze8,Ze9,Zfc,Zfd,Zfe,Zfh,Zfi,Zfj,Zfl,Zfn,Zf0,Zf1,Zf3,Zgd,Zgg,Zgh,Zgi,Zgo,Zgp,Zgq,Zgr,Zgs,Zgt,Zgu,Zgv,Zgw,Zgx,Zhb,Zhc,Zhd,Zhe,Zhf,Zhg,Zhh,Ztw,Ztx,Zhj,Zhk,Zhm,Zhn,Zho,Zhs,Zht,Zhu,Zh6,Zh7,Zin,Zio,Zip,Ziq,Zir,Ziu,Ziv,Ziw,Zi6,Zi7,Zjb,Zjh,Zji,Zjl,Zjm,Zjn,Zjp,Zjr,Zju,Zjw,Zj2,Zj7,Zj9,Zka,Zky,Zk0,Zk4,Zla,Zlb,Zlc,Zld,Zle,Zlf,Zlh,Zlj,Zlk,Zll,Zlm,Zlt,Zlu,Zlx,Zly,Zlz,Zl2,Zmt,Zmv,Zmw,Zmx,Zmy,Zmz,Zm0,Zm1,Zm3,Zm5,Zm6,Zm7,Zm9,Zna,Znb,Znc,Zne,Znf,Zng,Znh,Znl,Znm,Znn,Zno,Znp,Zns,Znu,Znx,Zof,Zog,Zrd,Zos,Zot,Zov,Zo3,Zo4,Zo6,Zo7,Zo8,Zo9,Zpb,Zpg,Zpv,Zp7,Zp9,Zqd,Zqe,List.length_drop,eq_self,true_and,and_true,Nat.zero_add,Nat.mul_one,zF_fc,fc_0,fc_17,fc_18,fc_19,fc_20,fc_53,fc_54,fc_55,fs_0,fs_17,fs_18,fs_19,fs_20,fs_53,fs_54,fs_55,fp_1,fp_21,fp_f,rb_1,rb_21,rb_0,fc_len,fc_ok,fc_id,fc_rs,v16,v32,cB_cells]
    tactic =>
    exact ⟨rfl, rfl⟩
  rw [if_neg hbl] at hE
  sym =>
  simp [Zaa,Zab,Zad,Zae,Zaf,Zag,Zak,Zal,Zam,Zao,Zap,Zar,Zaz,Za0,Za1,Za2,Za3,Za4,Za5,Za6,Za7,Za8,Za9,Zba,Zbb,Zbd,Zbf,Zbj,Zbl,Zbr,Zbt,Zbv,Zb7,Zb9,Ztq,Zcd,Zch,Zcn,Zcv,Zcx,Zcz,Zc3,Zdc,Zdd,Zde,Zdi,Zdm,Zrj,Zrl,Zrm,Zrn,Zro,Zrp,Zrq,Zrr,Zrt,Zru,Zrv,Zrw,Zrx,Zry,Zrz,Zr1,Zr2,Zsb,Zsd,Zse,Zsf,Zsg,Zsh,Zsj,Zsm,Zsn,Zso,Zsp,Zsr,Zst,Zsw,Ztg,Zev,Zew,Zex,Zez,Ze0,Ze1,Ze2,Ze3,Ze5,Ze8,Ze9,Zfc,Zfd,Zfe,Zfh,Zfi,Zfj,Zfl,Zfn,Zf0,Zf1,Zf3,Zgd,Zgg,Zgh,Zgi,Zgo,Zgp,Zgq,Zgr,Zgs,Zgt,Zgu,Zgv,Zgw,Zgx,Zhb,Zhc,Zhd,Zhe,Zhf,Zhg,Zhh,Ztw,Ztx,Zhj,Zhk,Zhm,Zhn,Zho,Zhs,Zht,Zhu,Zh6,Zh7,Zin,Zio,Zip,Ziq,Zir,Ziu,Ziv,Ziw,Zi6,Zi7,Zjb,Zjh,Zji,Zjl,Zjm,Zjn,Zjp,Zjr,Zju,Zjw,Zj2,Zj7,Zj9,Zka,Zky,Zk0,Zk4,Zla,Zlb,Zlc,Zld,Zle,Zlf,Zlh,Zlj,Zlk,Zll,Zlm,Zlt,Zlu,Zlx,Zly,Zlz,Zl2,Zmt,Zmv,Zmw,Zmx,Zmy,Zmz,Zm0,Zm1,Zm3,Zm5,Zm6,Zm7,Zm9,Zna,Znb,Znc,Zne,Znf,Zng,Znh,Znl,Znm,Znn,Zno,Znp,Zns,Znu,Znx,Zof,Zog,Zrd,Zos,Zot,Zov,Zo3,Zo4,Zo6,Zo7,Zo8,Zo9,Zpb,Zpg,Zpv,Zp7,Zp9,Zqd,Zqe,List.length_drop,eq_self,true_and,and_true,Nat.zero_add,Nat.mul_one,zF_fc,fc_0,fc_17,fc_18,fc_19,fc_20,fc_53,fc_54,fc_55,fs_0,fs_17,fs_18,fs_19,fs_20,fs_53,fs_54,fs_55,fp_1,fp_21,fp_f,rb_1,rb_21,rb_0,fc_len,fc_ok,fc_id,fc_rs,v16,v32,cB_cells,hbl,fz_fc,fcF1,callable_22]
  tactic =>
  refine cl none (omy) trivial ?_
  obtain ⟨M, hM⟩ : ∃ M, M = mayF ⟨k', t', es', er', o', n', su', d', r', c'⟩ := ⟨_, rfl⟩
  rw [← hM] at hE ⊢
  subst hE
  by_cases h0 : M = 0
  · replace hR := hR.trans (if_pos h0)
    subst hR
    subst h0
    sym =>
    simp [Zaa,Zab,Zad,Zae,Zaf,Zag,Zak,Zal,Zam,Zao,Zap,Zar,Zaz,Za0,Za1,Za2,Za3,Za4,Za5,Za6,Za7,Za8,Za9,Zba,Zbb,Zbd,Zbf,Zbj,Zbl,Zbr,Zbt,Zbv,Zb7,Zb9,Ztq,Zcd,Zch,Zcn,Zcv,Zcx,Zcz,Zc3,Zdc,Zdd,Zde,Zdi,Zdm,Zrj,Zrl,Zrm,Zrn,Zro,Zrp,Zrq,Zrr,Zrt,Zru,Zrv,Zrw,Zrx,Zry,Zrz,Zr1,Zr2,Zsb,Zsd,Zse,Zsf,Zsg,Zsh,Zsj,Zsm,Zsn,Zso,Zsp,Zsr,Zst,Zsw,Ztg,Zev,Zew,Zex,Zez,Ze0,Ze1,Ze2,Ze3,Ze5,Ze8,Ze9,Zfc,Zfd,Zfe,Zfh,Zfi,Zfj,Zfl,Zfn,Zf0,Zf1,Zf3,Zgd,Zgg,Zgh,Zgi,Zgo,Zgp,Zgq,Zgr,Zgs,Zgt,Zgu,Zgv,Zgw,Zgx,Zhb,Zhc,Zhd,Zhe,Zhf,Zhg,Zhh,Ztw,Ztx,Zhj,Zhk,Zhm,Zhn,Zho,Zhs,Zht,Zhu,Zh6,Zh7,Zin,Zio,Zip,Ziq,Zir,Ziu,Ziv,Ziw,Zi6,Zi7,Zjb,Zjh,Zji,Zjl,Zjm,Zjn,Zjp,Zjr,Zju,Zjw,Zj2,Zj7,Zj9,Zka,Zky,Zk0,Zk4,Zla,Zlb,Zlc,Zld,Zle,Zlf,Zlh,Zlj,Zlk,Zll,Zlm,Zlt,Zlu,Zlx,Zly,Zlz,Zl2,Zmt,Zmv,Zmw,Zmx,Zmy,Zmz,Zm0,Zm1,Zm3,Zm5,Zm6,Zm7,Zm9,Zna,Znb,Znc,Zne,Znf,Zng,Znh,Znl,Znm,Znn,Zno,Znp,Zns,Znu,Znx,Zof,Zog,Zrd,Zos,Zot,Zov,Zo3,Zo4,Zo6,Zo7,Zo8,Zo9,Zpb,Zpg,Zpv,Zp7,Zp9,Zqd,Zqe,List.length_drop,eq_self,true_and,and_true,Nat.zero_add,Nat.mul_one,zF_fc,fc_0,fc_17,fc_18,fc_19,fc_20,fc_53,fc_54,fc_55,fs_0,fs_17,fs_18,fs_19,fs_20,fs_53,fs_54,fs_55,fp_1,fp_21,fp_f,rb_1,rb_21,rb_0,fc_len,fc_ok,fc_id,fc_rs,v16,v32,cB_cells]
    tactic =>
    refine endA ?_
    simp only [fr]
    sym =>
    simp [Zaa,Zab,Zad,Zae,Zaf,Zag,Zak,Zal,Zam,Zao,Zap,Zar,Zaz,Za0,Za1,Za2,Za3,Za4,Za5,Za6,Za7,Za8,Za9,Zba,Zbb,Zbd,Zbf,Zbj,Zbl,Zbr,Zbt,Zbv,Zb7,Zb9,Ztq,Zcd,Zch,Zcn,Zcv,Zcx,Zcz,Zc3,Zdc,Zdd,Zde,Zdi,Zdm,Zrj,Zrl,Zrm,Zrn,Zro,Zrp,Zrq,Zrr,Zrt,Zru,Zrv,Zrw,Zrx,Zry,Zrz,Zr1,Zr2,Zsb,Zsd,Zse,Zsf,Zsg,Zsh,Zsj,Zsm,Zsn,Zso,Zsp,Zsr,Zst,Zsw,Ztg,Zev,Zew,Zex,Zez,Ze0,Ze1,Ze2,Ze3,Ze5,Ze8,Ze9,Zfc,Zfd,Zfe,Zfh,Zfi,Zfj,Zfl,Zfn,Zf0,Zf1,Zf3,Zgd,Zgg,Zgh,Zgi,Zgo,Zgp,Zgq,Zgr,Zgs,Zgt,Zgu,Zgv,Zgw,Zgx,Zhb,Zhc,Zhd,Zhe,Zhf,Zhg,Zhh,Ztw,Ztx,Zhj,Zhk,Zhm,Zhn,Zho,Zhs,Zht,Zhu,Zh6,Zh7,Zin,Zio,Zip,Ziq,Zir,Ziu,Ziv,Ziw,Zi6,Zi7,Zjb,Zjh,Zji,Zjl,Zjm,Zjn,Zjp,Zjr,Zju,Zjw,Zj2,Zj7,Zj9,Zka,Zky,Zk0,Zk4,Zla,Zlb,Zlc,Zld,Zle,Zlf,Zlh,Zlj,Zlk,Zll,Zlm,Zlt,Zlu,Zlx,Zly,Zlz,Zl2,Zmt,Zmv,Zmw,Zmx,Zmy,Zmz,Zm0,Zm1,Zm3,Zm5,Zm6,Zm7,Zm9,Zna,Znb,Znc,Zne,Znf,Zng,Znh,Znl,Znm,Znn,Zno,Znp,Zns,Znu,Znx,Zof,Zog,Zrd,Zos,Zot,Zov,Zo3,Zo4,Zo6,Zo7,Zo8,Zo9,Zpb,Zpg,Zpv,Zp7,Zp9,Zqd,Zqe,List.length_drop,eq_self,true_and,and_true,Nat.zero_add,Nat.mul_one,zF_fc,fc_0,fc_17,fc_18,fc_19,fc_20,fc_53,fc_54,fc_55,fs_0,fs_17,fs_18,fs_19,fs_20,fs_53,fs_54,fs_55,fp_1,fp_21,fp_f,rb_1,rb_21,rb_0,fc_len,fc_ok,fc_id,fc_rs,v16,v32,cB_cells]
  · replace hR := hR.trans (if_neg h0)
    subst hR
    sym =>
    simp [Zaa,Zab,Zad,Zae,Zaf,Zag,Zak,Zal,Zam,Zao,Zap,Zar,Zaz,Za0,Za1,Za2,Za3,Za4,Za5,Za6,Za7,Za8,Za9,Zba,Zbb,Zbd,Zbf,Zbj,Zbl,Zbr,Zbt,Zbv,Zb7,Zb9,Ztq,Zcd,Zch,Zcn,Zcv,Zcx,Zcz,Zc3,Zdc,Zdd,Zde,Zdi,Zdm,Zrj,Zrl,Zrm,Zrn,Zro,Zrp,Zrq,Zrr,Zrt,Zru,Zrv,Zrw,Zrx,Zry,Zrz,Zr1,Zr2,Zsb,Zsd,Zse,Zsf,Zsg,Zsh,Zsj,Zsm,Zsn,Zso,Zsp,Zsr,Zst,Zsw,Ztg,Zev,Zew,Zex,Zez,Ze0,Ze1,Ze2,Ze3,Ze5,Ze8,Ze9,Zfc,Zfd,Zfe,Zfh,Zfi,Zfj,Zfl,Zfn,Zf0,Zf1,Zf3,Zgd,Zgg,Zgh,Zgi,Zgo,Zgp,Zgq,Zgr,Zgs,Zgt,Zgu,Zgv,Zgw,Zgx,Zhb,Zhc,Zhd,Zhe,Zhf,Zhg,Zhh,Ztw,Ztx,Zhj,Zhk,Zhm,Zhn,Zho,Zhs,Zht,Zhu,Zh6,Zh7,Zin,Zio,Zip,Ziq,Zir,Ziu,Ziv,Ziw,Zi6,Zi7,Zjb,Zjh,Zji,Zjl,Zjm,Zjn,Zjp,Zjr,Zju,Zjw,Zj2,Zj7,Zj9,Zka,Zky,Zk0,Zk4,Zla,Zlb,Zlc,Zld,Zle,Zlf,Zlh,Zlj,Zlk,Zll,Zlm,Zlt,Zlu,Zlx,Zly,Zlz,Zl2,Zmt,Zmv,Zmw,Zmx,Zmy,Zmz,Zm0,Zm1,Zm3,Zm5,Zm6,Zm7,Zm9,Zna,Znb,Znc,Zne,Znf,Zng,Znh,Znl,Znm,Znn,Zno,Znp,Zns,Znu,Znx,Zof,Zog,Zrd,Zos,Zot,Zov,Zo3,Zo4,Zo6,Zo7,Zo8,Zo9,Zpb,Zpg,Zpv,Zp7,Zp9,Zqd,Zqe,List.length_drop,eq_self,true_and,and_true,Nat.zero_add,Nat.mul_one,zF_fc,fc_0,fc_17,fc_18,fc_19,fc_20,fc_53,fc_54,fc_55,fs_0,fs_17,fs_18,fs_19,fs_20,fs_53,fs_54,fs_55,fp_1,fp_21,fp_f,rb_1,rb_21,rb_0,fc_len,fc_ok,fc_id,fc_rs,v16,v32,cB_cells,h0]
    tactic =>
    refine endA ?_
    simp only [fr, zFm]
    sym =>
    simp [Zaa,Zab,Zad,Zae,Zaf,Zag,Zak,Zal,Zam,Zao,Zap,Zar,Zaz,Za0,Za1,Za2,Za3,Za4,Za5,Za6,Za7,Za8,Za9,Zba,Zbb,Zbd,Zbf,Zbj,Zbl,Zbr,Zbt,Zbv,Zb7,Zb9,Ztq,Zcd,Zch,Zcn,Zcv,Zcx,Zcz,Zc3,Zdc,Zdd,Zde,Zdi,Zdm,Zrj,Zrl,Zrm,Zrn,Zro,Zrp,Zrq,Zrr,Zrt,Zru,Zrv,Zrw,Zrx,Zry,Zrz,Zr1,Zr2,Zsb,Zsd,Zse,Zsf,Zsg,Zsh,Zsj,Zsm,Zsn,Zso,Zsp,Zsr,Zst,Zsw,Ztg,Zev,Zew,Zex,Zez,Ze0,Ze1,Ze2,Ze3,Ze5,Ze8,Ze9,Zfc,Zfd,Zfe,Zfh,Zfi,Zfj,Zfl,Zfn,Zf0,Zf1,Zf3,Zgd,Zgg,Zgh,Zgi,Zgo,Zgp,Zgq,Zgr,Zgs,Zgt,Zgu,Zgv,Zgw,Zgx,Zhb,Zhc,Zhd,Zhe,Zhf,Zhg,Zhh,Ztw,Ztx,Zhj,Zhk,Zhm,Zhn,Zho,Zhs,Zht,Zhu,Zh6,Zh7,Zin,Zio,Zip,Ziq,Zir,Ziu,Ziv,Ziw,Zi6,Zi7,Zjb,Zjh,Zji,Zjl,Zjm,Zjn,Zjp,Zjr,Zju,Zjw,Zj2,Zj7,Zj9,Zka,Zky,Zk0,Zk4,Zla,Zlb,Zlc,Zld,Zle,Zlf,Zlh,Zlj,Zlk,Zll,Zlm,Zlt,Zlu,Zlx,Zly,Zlz,Zl2,Zmt,Zmv,Zmw,Zmx,Zmy,Zmz,Zm0,Zm1,Zm3,Zm5,Zm6,Zm7,Zm9,Zna,Znb,Znc,Zne,Znf,Zng,Znh,Znl,Znm,Znn,Zno,Znp,Zns,Znu,Znx,Zof,Zog,Zrd,Zos,Zot,Zov,Zo3,Zo4,Zo6,Zo7,Zo8,Zo9,Zpb,Zpg,Zpv,Zp7,Zp9,Zqd,Zqe,List.length_drop,eq_self,true_and,and_true,Nat.zero_add,Nat.mul_one,zF_fc,fc_0,fc_17,fc_18,fc_19,fc_20,fc_53,fc_54,fc_55,fs_0,fs_17,fs_18,fs_19,fs_20,fs_53,fs_54,fs_55,fp_1,fp_21,fp_f,rb_1,rb_21,rb_0,fc_len,fc_ok,fc_id,fc_rs,v16,v32,cB_cells]
    tactic =>
    exact ⟨rfl, rfl⟩
end Go.Proofs.Ythhccabdlajngaa.FrmR
