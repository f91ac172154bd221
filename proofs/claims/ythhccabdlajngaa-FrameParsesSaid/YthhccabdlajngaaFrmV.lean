import Derived.Test.YthhccabdlajngaaFrmU
namespace Go.Proofs.Ythhccabdlajngaa.FrmV
open Go Go.Sim Go.Sim.E Go.RowKit Go.Proofs Go.Proofs.Ythhccabdlajngaa.Cod Go.Proofs.Ythhccabdlajngaa.Tab Go.Proofs.Ythhccabdlajngaa.Bse Go.Proofs.Ythhccabdlajngaa.Krc Go.Proofs.Ythhccabdlajngaa.FrmA Go.Proofs.Ythhccabdlajngaa.FrmB Go.Proofs.Ythhccabdlajngaa.FrmC Go.Proofs.Ythhccabdlajngaa.FrmD Go.Proofs.Ythhccabdlajngaa.FrmE Go.Proofs.Ythhccabdlajngaa.FrmF Go.Proofs.Ythhccabdlajngaa.FrmN Go.Proofs.Ythhccabdlajngaa.FrmO Go.Proofs.Ythhccabdlajngaa.FrmO Go.Proofs.Ythhccabdlajngaa.FrmP Go.Proofs.Ythhccabdlajngaa.FrmQ Go.Proofs.Ythhccabdlajngaa.FrmR Go.Proofs.Ythhccabdlajngaa.FrmS Go.Proofs.Ythhccabdlajngaa.FrmT Go.Proofs.Ythhccabdlajngaa.FrmU
set_option linter.unusedVariables false
set_option linter.unusedSimpArgs false
set_option maxRecDepth 100000
set_option maxHeartbeats 4000000
/-! ### a frame that tells the end -/
def fA : Fm := ⟨6, z16, 1, 2, 0, 300, z32, [], [], 0⟩
theorem fA_lay : layF fA = (slB ([84, 87, 6, 3] ++ List.replicate 16 0 ++ [0, 0, 0, 1] ++ [0, 0, 0, 2] ++ [0, 0, 0, 0, 0, 0, 1, 44]), 0) := by kernel_rfl
theorem z16_byt : byt8 z16.1 := by
  intro x hx
  rw [List.eq_of_mem_replicate hx]; omega
theorem fA_ok : fok fA := ⟨z16_byt, z32_byt, (fun x hx => (by cases hx)), by decide, by decide, by unfold u64R; decide, by unfold u64R; decide, (fun p hp => (by cases hp))⟩
theorem saF_self (f : Fm) : saF f f = true := by simp [saF]
theorem alive_con : Con Try.prog 8 [] [] [] (Bo true) := by
  have hl := flay_con fA (by decide) (by decide) fA_ok.1 fA_ok.2.1 fA_ok.2.2.1 (by decide) (by decide)
  have hp := fparse_con (layF fA).1 (by rw [fA_lay]; exact byt8_app (by intro x hx; simp at hx; omega) (le4_byt _)) (by rw [fA_lay, slB_length]; decide)
  have hbk : psF (layF fA).1 = (fA, 0) := back1 fA fA_ok (by decide)
  rw [hbk] at hp
  simp only at hp
  have hs := same_con fA fA (by decide) fA_ok.2.2.1 fA_ok.2.2.1
  rw [saF_self] at hs
  have hr := rise_con 1 [(2, 3)] (by decide)
  have hri : riF 1 [(2, 3)] = true := by decide
  rw [hri] at hr
  have hF : fr fA = fc 6 z16 1 2 0 300 z32 (fB []) (fR []) 0 := rfl
  rw [hF] at hl hs hp
  obtain ⟨y, hy⟩ : ∃ y, y = (layF fA).1 := ⟨_, rfl⟩
  have hy2 : (layF fA).2 = 0 := by rw [fA_lay]
  have y40 : y.length = 40 := by rw [hy, fA_lay, slB_length]; rfl
  have g0 : (cB y).getD 0 .un = Y 84 := by rw [hy, fA_lay]; rfl
  have g3 : (cB y).getD 3 .un = Y 3 := by rw [hy, fA_lay]; rfl
  have g35 : (cB y).getD 35 .un = Y 44 := by rw [hy, fA_lay]; rfl
  rw [← hy] at hl hp
  rw [hy2] at hl
  have hq := cB_length y
  simp only [fB] at hl hp
  have h40 : IN y.length = (40 : Int) := by simp only [IN]; omega
  have j0 : (0 : Int) < 40 := by decide
  have j3 : (3 : Int) < 40 := by decide
  have j35 : (35 : Int) < 40 := by decide
  have i0 : (0 : Int) < IN y.length := by simp only [IN]; omega
  have i3 : (3 : Int) < IN y.length := by simp only [IN]; omega
  have i35 : (35 : Int) < IN y.length := by simp only [IN]; omega
  clear hy hy2 hbk hri hF
  have n3 : (3 : Int).toNat = 3 := rfl
  have n35 : (35 : Int).toNat = 35 := rfl
  refine con_j b8 rfl ?_
  sym =>
  simp [Zab,Zad,Zak,Zam,Zaz,Za0,Za1,Za2,Za3,Za4,Za5,Za6,Za7,Za9,Zba,Zbb,Zbd,Zbf,Zbt,Zb1,Zb7,Zb9,Zcn,Zcv,Zcz,Zc3,Zdc,Zdd,Zde,Zdi,Zev,Zew,Zex,Zez,Ze0,Ze1,Ze2,Ze3,Ze5,Ze8,Zfc,Zfd,Zfe,Zfh,Zfi,Zfl,Zfn,Zfz,Zgr,Zgs,Zgt,Zgu,Zg4,Zg6,Zhb,Zhc,Zhd,Zhe,Zhf,Zhg,Zhh,Zho,Zh6,Zh7,Zin,Ziq,Zir,Ziu,Ziv,Ziw,Zi6,Zi7,Zjh,Zji,Zjl,Zjm,Zjp,Zjw,Zj2,Zj7,Zka,Zky,Zk0,Zk1,Zk4,Zla,Zlb,Zle,Zlf,Zlh,Zlj,Zll,Zlm,Zls,Zlt,Zlx,Zlz,Zl2,Zmt,Zmv,Zmw,Zmx,Zmz,Zm2,Zm5,Zm6,Zm9,Zna,Znb,Znc,Zne,Znf,Zng,Znh,Znl,Znm,Znn,Zno,Znp,Zrd,Zos,Zo7,Zo8,Zpc,eq_self,true_and,and_true,zF_fc,fc_0,fc_17,fc_18,fc_19,fc_20,fc_53,fc_54,fc_55,fs_0,fs_17,fs_18,fs_19,fs_20,fs_53,fs_54,fs_55,fp_1,fp_21,fp_f,rb_1,rb_21,rb_0,fc_len,fc_ok,fc_id,fc_rs,v16,v32,cB_cells,fp_17,fz_fc,fcF1,callable_9]
  tactic =>
  refine cl none (hl) trivial ?_
  sym =>
  simp [Zab,Zad,Zak,Zam,Zaz,Za0,Za1,Za2,Za3,Za4,Za5,Za6,Za7,Za9,Zba,Zbb,Zbd,Zbf,Zbt,Zb1,Zb7,Zb9,Zcn,Zcv,Zcz,Zc3,Zdc,Zdd,Zde,Zdi,Zev,Zew,Zex,Zez,Ze0,Ze1,Ze2,Ze3,Ze5,Ze8,Zfc,Zfd,Zfe,Zfh,Zfi,Zfl,Zfn,Zfz,Zgr,Zgs,Zgt,Zgu,Zg4,Zg6,Zhb,Zhc,Zhd,Zhe,Zhf,Zhg,Zhh,Zho,Zh6,Zh7,Zin,Ziq,Zir,Ziu,Ziv,Ziw,Zi6,Zi7,Zjh,Zji,Zjl,Zjm,Zjp,Zjw,Zj2,Zj7,Zka,Zky,Zk0,Zk1,Zk4,Zla,Zlb,Zle,Zlf,Zlh,Zlj,Zll,Zlm,Zls,Zlt,Zlx,Zlz,Zl2,Zmt,Zmv,Zmw,Zmx,Zmz,Zm2,Zm5,Zm6,Zm9,Zna,Znb,Znc,Zne,Znf,Zng,Znh,Znl,Znm,Znn,Zno,Znp,Zrd,Zos,Zo7,Zo8,Zpc,eq_self,true_and,and_true,zF_fc,fc_0,fc_17,fc_18,fc_19,fc_20,fc_53,fc_54,fc_55,fs_0,fs_17,fs_18,fs_19,fs_20,fs_53,fs_54,fs_55,fp_1,fp_21,fp_f,rb_1,rb_21,rb_0,fc_len,fc_ok,fc_id,fc_rs,v16,v32,cB_cells,callable_19]
  tactic =>
  refine cl none (hp) trivial ?_
  sym =>
  simp [Zab,Zad,Zak,Zam,Zaz,Za0,Za1,Za2,Za3,Za4,Za5,Za6,Za7,Za9,Zba,Zbb,Zbd,Zbf,Zbt,Zb1,Zb7,Zb9,Zcn,Zcv,Zcz,Zc3,Zdc,Zdd,Zde,Zdi,Zev,Zew,Zex,Zez,Ze0,Ze1,Ze2,Ze3,Ze5,Ze8,Zfc,Zfd,Zfe,Zfh,Zfi,Zfl,Zfn,Zfz,Zgr,Zgs,Zgt,Zgu,Zg4,Zg6,Zhb,Zhc,Zhd,Zhe,Zhf,Zhg,Zhh,Zho,Zh6,Zh7,Zin,Ziq,Zir,Ziu,Ziv,Ziw,Zi6,Zi7,Zjh,Zji,Zjl,Zjm,Zjp,Zjw,Zj2,Zj7,Zka,Zky,Zk0,Zk1,Zk4,Zla,Zlb,Zle,Zlf,Zlh,Zlj,Zll,Zlm,Zls,Zlt,Zlx,Zlz,Zl2,Zmt,Zmv,Zmw,Zmx,Zmz,Zm2,Zm5,Zm6,Zm9,Zna,Znb,Znc,Zne,Znf,Zng,Znh,Znl,Znm,Znn,Zno,Znp,Zrd,Zos,Zo7,Zo8,Zpc,eq_self,true_and,and_true,zF_fc,fc_0,fc_17,fc_18,fc_19,fc_20,fc_53,fc_54,fc_55,fs_0,fs_17,fs_18,fs_19,fs_20,fs_53,fs_54,fs_55,fp_1,fp_21,fp_f,rb_1,rb_21,rb_0,fc_len,fc_ok,fc_id,fc_rs,v16,v32,cB_cells,h40,j0,j3,j35,g0,g3,g35,n3,n35,flL_fz,fz_fc,fcF1,callable_13]
  tactic =>
  and_intros <;> try (first | omega | rfl | assumption | simp only [IN]; omega)
  refine cl none (hs) trivial ?_
  sym =>
  simp [Zab,Zad,Zak,Zam,Zaz,Za0,Za1,Za2,Za3,Za4,Za5,Za6,Za7,Za9,Zba,Zbb,Zbd,Zbf,Zbt,Zb1,Zb7,Zb9,Zcn,Zcv,Zcz,Zc3,Zdc,Zdd,Zde,Zdi,Zev,Zew,Zex,Zez,Ze0,Ze1,Ze2,Ze3,Ze5,Ze8,Zfc,Zfd,Zfe,Zfh,Zfi,Zfl,Zfn,Zfz,Zgr,Zgs,Zgt,Zgu,Zg4,Zg6,Zhb,Zhc,Zhd,Zhe,Zhf,Zhg,Zhh,Zho,Zh6,Zh7,Zin,Ziq,Zir,Ziu,Ziv,Ziw,Zi6,Zi7,Zjh,Zji,Zjl,Zjm,Zjp,Zjw,Zj2,Zj7,Zka,Zky,Zk0,Zk1,Zk4,Zla,Zlb,Zle,Zlf,Zlh,Zlj,Zll,Zlm,Zls,Zlt,Zlx,Zlz,Zl2,Zmt,Zmv,Zmw,Zmx,Zmz,Zm2,Zm5,Zm6,Zm9,Zna,Znb,Znc,Zne,Znf,Zng,Znh,Znl,Znm,Znn,Zno,Znp,Zrd,Zos,Zo7,Zo8,Zpc,eq_self,true_and,and_true,zF_fc,fc_0,fc_17,fc_18,fc_19,fc_20,fc_53,fc_54,fc_55,fs_0,fs_17,fs_18,fs_19,fs_20,fs_53,fs_54,fs_55,fp_1,fp_21,fp_f,rb_1,rb_21,rb_0,fc_len,fc_ok,fc_id,fc_rs,v16,v32,cB_cells,callable_16]
  tactic =>
  refine cl none (hr) trivial ?_
  sym =>
  simp [Zab,Zad,Zak,Zam,Zaz,Za0,Za1,Za2,Za3,Za4,Za5,Za6,Za7,Za9,Zba,Zbb,Zbd,Zbf,Zbt,Zb1,Zb7,Zb9,Zcn,Zcv,Zcz,Zc3,Zdc,Zdd,Zde,Zdi,Zev,Zew,Zex,Zez,Ze0,Ze1,Ze2,Ze3,Ze5,Ze8,Zfc,Zfd,Zfe,Zfh,Zfi,Zfl,Zfn,Zfz,Zgr,Zgs,Zgt,Zgu,Zg4,Zg6,Zhb,Zhc,Zhd,Zhe,Zhf,Zhg,Zhh,Zho,Zh6,Zh7,Zin,Ziq,Zir,Ziu,Ziv,Ziw,Zi6,Zi7,Zjh,Zji,Zjl,Zjm,Zjp,Zjw,Zj2,Zj7,Zka,Zky,Zk0,Zk1,Zk4,Zla,Zlb,Zle,Zlf,Zlh,Zlj,Zll,Zlm,Zls,Zlt,Zlx,Zlz,Zl2,Zmt,Zmv,Zmw,Zmx,Zmz,Zm2,Zm5,Zm6,Zm9,Zna,Znb,Znc,Zne,Znf,Zng,Znh,Znl,Znm,Znn,Zno,Znp,Zrd,Zos,Zo7,Zo8,Zpc,eq_self,true_and,and_true]
  tactic =>
  refine endA ?_
  sym =>
  simp [Zab,Zad,Zak,Zam,Zaz,Za0,Za1,Za2,Za3,Za4,Za5,Za6,Za7,Za9,Zba,Zbb,Zbd,Zbf,Zbt,Zb1,Zb7,Zb9,Zcn,Zcv,Zcz,Zc3,Zdc,Zdd,Zde,Zdi,Zev,Zew,Zex,Zez,Ze0,Ze1,Ze2,Ze3,Ze5,Ze8,Zfc,Zfd,Zfe,Zfh,Zfi,Zfl,Zfn,Zfz,Zgr,Zgs,Zgt,Zgu,Zg4,Zg6,Zhb,Zhc,Zhd,Zhe,Zhf,Zhg,Zhh,Zho,Zh6,Zh7,Zin,Ziq,Zir,Ziu,Ziv,Ziw,Zi6,Zi7,Zjh,Zji,Zjl,Zjm,Zjp,Zjw,Zj2,Zj7,Zka,Zky,Zk0,Zk1,Zk4,Zla,Zlb,Zle,Zlf,Zlh,Zlj,Zll,Zlm,Zls,Zlt,Zlx,Zlz,Zl2,Zmt,Zmv,Zmw,Zmx,Zmz,Zm2,Zm5,Zm6,Zm9,Zna,Znb,Znc,Zne,Znf,Zng,Znh,Znl,Znm,Znn,Zno,Znp,Zrd,Zos,Zo7,Zo8,Zpc,eq_self,true_and,and_true]
end Go.Proofs.Ythhccabdlajngaa.FrmV
