import Derived.Test.YtbmdahhhgpbchaaSnI
namespace Go.Proofs.Ytbmdahhhgpbchaa.SnJ
open Go Go.Sim Go.Sim.E Go.RowKit Go.Proofs Go.Proofs.Ytbmdahhhgpbchaa.Cod Go.Proofs.Ytbmdahhhgpbchaa.Tab Go.Proofs.Ytbmdahhhgpbchaa.Bse Go.Proofs.Ytbmdahhhgpbchaa.SpnP Go.Proofs.Ytbmdahhhgpbchaa.SwA Go.Proofs.Ytbmdahhhgpbchaa.SwB Go.Proofs.Ytbmdahhhgpbchaa.SwC Go.Proofs.Ytbmdahhhgpbchaa.SwS Go.Proofs.Ytbmdahhhgpbchaa.SwD Go.Proofs.Ytbmdahhhgpbchaa.SwF Go.Proofs.Ytbmdahhhgpbchaa.SwG Go.Proofs.Ytbmdahhhgpbchaa.SwL Go.Proofs.Ytbmdahhhgpbchaa.ObA Go.Proofs.Ytbmdahhhgpbchaa.ObB Go.Proofs.Ytbmdahhhgpbchaa.ObC Go.Proofs.Ytbmdahhhgpbchaa.SnA Go.Proofs.Ytbmdahhhgpbchaa.SnB Go.Proofs.Ytbmdahhhgpbchaa.SnC Go.Proofs.Ytbmdahhhgpbchaa.SnD Go.Proofs.Ytbmdahhhgpbchaa.SnE Go.Proofs.Ytbmdahhhgpbchaa.SnF Go.Proofs.Ytbmdahhhgpbchaa.SnG Go.Proofs.Ytbmdahhhgpbchaa.SnH Go.Proofs.Ytbmdahhhgpbchaa.DgA Go.Proofs.Ytbmdahhhgpbchaa.DgB Go.Proofs.Ytbmdahhhgpbchaa.SnI
set_option linter.unusedVariables false
set_option linter.unusedSimpArgs false
set_option maxRecDepth 100000
set_option maxHeartbeats 4000000
def t1 : V 16 := ⟨[1, 0, 0, 0, 0, 0, 0, 0, 0, 0, 0, 0, 0, 0, 0, 0], rfl⟩
def z300 : List Int := List.replicate 300 0
theorem z300_l : z300.length = 300 := by simp [z300]
theorem z300_c : List.replicate 300 (AV.sc (Value.int IntKind.u8 0)) = cB z300 := by simp [z300, cB, List.map_replicate]
theorem z300_i : IN z300.length = 300 := by rw [z300_l]; rfl
theorem t1_c : [Y 1, Y 0, Y 0, Y 0, Y 0, Y 0, Y 0, Y 0, Y 0, Y 0, Y 0, Y 0, Y 0, Y 0, Y 0, Y 0] = cB t1.1 := rfl
def L2 : List Rg := [(0, 256), (256, 300)]
def o2 : List Rg := [(0, 300)]
def twoT : Tm := (true, 2, 2)
def X0 (su : V 32) : Sn := ⟨1, 0, z300, su, t1, 4, 0, [], 0, [], [], offT, oneT⟩
def X1 (su : V 32) : Sn := ⟨1, 0, z300, su, t1, 4, 0, [], 0, [], [], offT, twoT⟩
def X2 (su : V 32) : Sn := ⟨2, 0, z300, su, t1, 4, 2, z300, 300, [], o2, oneT, twoT⟩
def X3 (su : V 32) : Sn := ⟨3, 0, z300, su, t1, 4, 2, z300, 300, o2, [], offT, oneT⟩
def X4 (su : V 32) : Sn := ⟨4, 0, z300, su, t1, 4, 2, z300, 300, o2, [], offT, oneT⟩
def f2 : Fm := ⟨2, t1, 4, 2, 0, 0, z32, [], [], 0⟩
def f4 : Fm := ⟨4, t1, 4, 2, 300, 0, z32, [], [], 0⟩
def f6 : Fm := ⟨6, t1, 4, 0, 0, 300, z32, [], [], 0⟩
theorem w1 (su : V 32) : tcF (X0 su) = (X1 su, [whF (X0 su) 1]) := rfl
theorem w2 (su : V 32) : taF (X1 su) f2 = (X2 su, L2.map (pcF (X2 su))) := by
  have e0 : IntKind.i64.wrap 0 = 0 := by decide
  have e1 : plF (IN z300.length) 0 = true := by rw [z300_i]; decide
  have e2 : addS [] 0 0 = [] := by decide
  have e3 : tmF (IN z300.length) [] oneT = oneT := by rw [z300_i]; decide
  have h : taF (X1 su) f2 = rsF (X1 su) f2 := rfl
  rw [h]
  unfold rsF
  rw [if_neg (by simp [X1, f2]), if_neg (by simp [f2])]
  show (if plF (IN z300.length) (IntKind.i64.wrap 0) = false then _ else onF ⟨2, 0, z300, su, t1, 4, 2, z300, IN z300.length, addS [] 0 (IntKind.i64.wrap 0), [], tmF (IN z300.length) (addS [] 0 (IntKind.i64.wrap 0)) oneT, twoT⟩) = _
  rw [e0, e1, e2, e3, z300_i, if_neg (by simp)]
  unfold onF
  rw [if_neg (by decide : ¬ lfF 300 [] = 0)]
  have ep : pollF 300 [] (endF (lim 0) []) 9 [] = (L2, o2) := by decide
  unfold piF
  show (Sn.mk 2 0 z300 su t1 4 2 z300 300 [] (pollF 300 [] (endF (lim 0) []) 9 []).2 oneT twoT, (pollF 300 [] (endF (lim 0) []) 9 []).1.map _) = _
  rw [ep]
  rfl
theorem w3 (su : V 32) : taF (X2 su) f4 = (X3 su, [whF (X3 su) 5]) := by
  have h : taF (X2 su) f4 = skF (X2 su) f4 := rfl
  have e0 : IntKind.i64.wrap 300 = 300 := by decide
  have e1 : acS 300 [] 300 [] = o2 := by decide
  have e2 : acO 300 [] o2 300 [] = [] := by decide
  have e3 : acT 300 [] 300 [] oneT = offT := by decide
  have e4 : acM 300 [] 300 [] = true := by decide
  rw [h]
  unfold skF
  rw [if_neg (by simp [X2]), if_neg (by simp [X2, f4]), if_neg (by simp [X2, f4]), if_neg (by simp [f4])]
  show (if acM 300 [] (IntKind.i64.wrap 300) [] = true then onF ⟨2, 0, z300, su, t1, 4, 2, z300, 300, acS 300 [] (IntKind.i64.wrap 300) [], acO 300 [] o2 (IntKind.i64.wrap 300) [], acT 300 [] (IntKind.i64.wrap 300) [] oneT, twoT⟩ else _) = _
  rw [e0, e1, e2, e3, e4, if_pos rfl]
  unfold onF
  rw [if_pos (by decide : lfF 300 o2 = 0)]
  rfl
theorem w4 (su : V 32) : taF (X3 su) f6 = (X4 su, []) := by
  unfold taF
  rw [if_neg (by simp [X3]), if_neg (by simp [X3]), if_neg (by simp [X3, f6]), if_neg (by simp [X3, f6]), if_neg (by simp [f6]), if_neg (by simp [f6]), if_neg (by simp [f6]), if_pos (by simp [f6]), if_neg (by show ¬ (300 : Int) ≠ IN z300.length; rw [z300_i]; simp)]
  rfl
theorem iX0 (su : V 32) : Inv (X0 su) := ⟨by show z300.length ≤ 6000; rw [z300_l]; omega, Nat.zero_le _, rfl, Ok.nil _, Ok.nil _, TOk.off, TOk.one⟩
theorem iX1 (su : V 32) : Inv (X1 su) := by have := tcF_inv (iX0 su); rw [w1] at this; exact this
theorem iX2 (su : V 32) : Inv (X2 su) := by have := taF_inv (iX1 su) f2; rw [w2] at this; exact this
theorem iX3 (su : V 32) : Inv (X3 su) := by have := taF_inv (iX2 su) f4; rw [w3] at this; exact this
theorem alive_con : Con Try.prog 46 [] [] [] (Bo true) := by
  obtain ⟨su, hsu⟩ : ∃ su : V 32, su = ⟨digestF z300, dig_len z300⟩ := ⟨_, rfl⟩
  have c0 := snew_con z300 t1 4 (by rw [z300_l]; omega) (by rw [z300_l]; omega)
  rw [show newS z300 t1 4 = X0 su from by rw [hsu]; rfl] at c0
  rw [show fB z300 = .fz 300 (cB z300) from by unfold fB; rw [z300_l]] at c0
  have c1 := tick_con (X0 su) (iX0 su)
  rw [w1] at c1
  have c2 := take_con (X1 su) (iX1 su) f2 (Nat.zero_le _)
  rw [w2] at c2
  have c3 := take_con (X2 su) (iX2 su) f4 (Nat.zero_le _)
  rw [w3] at c3
  have c4 := take_con (X3 su) (iX3 su) f6 (Nat.zero_le _)
  rw [w4] at c4
  have c5 := state_con (X4 su)
  have c6 := sbase_con (X3 su) (iX3 su)
  rw [show endF (lim 0) (X3 su).s = 300 from (by decide : endF (lim 0) o2 = 300)] at c6
  obtain ⟨g1, hg1⟩ : ∃ g, g = [whF (X0 su) 1] := ⟨_, rfl⟩
  obtain ⟨g2, hg2⟩ : ∃ g, g = L2.map (pcF (X2 su)) := ⟨_, rfl⟩
  obtain ⟨g3, hg3⟩ : ∃ g, g = [whF (X3 su) 5] := ⟨_, rfl⟩
  have a1 : (cF g1).getD 0 .un = I 1 := by rw [hg1]; rfl
  have a2 : (cF g3).getD 0 .un = I 5 := by rw [hg3]; rfl
  have n1 : g1.length = 1 := by rw [hg1]; rfl
  have n2 : g2.length = 2 := by rw [hg2]; rfl
  have n3 : g3.length = 1 := by rw [hg3]; rfl
  rw [← hg1] at c1
  rw [← hg2] at c2
  rw [← hg3] at c3
  clear hg1 hg2 hg3
  simp only [sn, X0, X1, X2, X3, X4, offT, oneT, twoT] at c0 c1 c2 c3 c4 c5 c6
  refine con_j b46 rfl ?_
  sym =>
  simp [Zab,Zad,Zam,Zaz,Za0,Za1,Za2,Za4,Za5,Za9,Zba,Zbb,Zb9,Zc1,Zdc,Zdd,Zde,Zev,Zew,Zez,Ze0,Ze2,Ze3,Ze5,Zfc,Zfd,Zfe,Zfh,Zhd,Zhe,Zhf,Zhg,Zhh,Zho,Zis,Zit,Zi7,Zla,Zlb,Zlc,Zld,Zle,Zlf,Zlh,Zlj,Zlk,Zlt,Zlx,Zna,Znb,Zne,Znf,Zng,Znh,Znn,Zno,Znp,Zrd,Zos,Zo7,List.length_replicate,eq_self,true_and,and_true,zF_fc,zS_sc]
  tactic =>
  rw [z300_c, List.take_of_length_le (by rw [cB_length, z300_l]; exact Nat.le_refl _)]
  refine ⟨callable_47, cB_okI _, ?_⟩
  refine cl none (c0) trivial ?_
  sym =>
  simp [Zab,Zad,Zam,Zaz,Za0,Za1,Za2,Za3,Za4,Za5,Za9,Zba,Zbb,Zbt,Zb7,Zcv,Zc3,Zdc,Zdd,Zde,Zdi,Zev,Zew,Zez,Ze0,Ze1,Ze2,Ze3,Ze5,Ze8,Zfc,Zfd,Zfe,Zfh,Zgr,Zgs,Zgt,Zhb,Zhc,Zin,Ziu,Ziv,Ziw,Zi6,Zjh,Zji,Zj7,Zky,Zk0,Zk1,Zla,Zlb,Zle,Zlf,Zlh,Zlm,Zlz,Zl2,Zl3,Zl4,Zm5,Zm9,Zna,Znb,Zne,Znf,Zng,Zo7,eq_self,true_and,and_true,rd_0,sp_0,sc_len,sc_ok,fz_sc,scF1,flL_sc,callable_48]
  tactic =>
  refine cl none (c1) trivial ?_
  sym =>
  simp [Zab,Zad,Zam,Zaz,Za0,Za1,Za2,Za3,Za4,Za5,Za9,Zba,Zbb,Zbt,Zb7,Zb9,Zc3,Zdc,Zdd,Zde,Zdi,Zev,Zew,Zez,Ze0,Ze1,Ze2,Ze3,Ze5,Ze8,Zfc,Zfd,Zfe,Zfh,Zgr,Zgs,Zgt,Zhb,Zhc,Zhd,Zhe,Zhf,Zhg,Zhh,Ziu,Ziv,Ziw,Zi6,Zi7,Zjh,Zji,Zj7,Zky,Zk0,Zk1,Zla,Zlb,Zle,Zlf,Zlh,Zlm,Zls,Zlz,Zl2,Zm5,Zm9,Zna,Znb,Zne,Znf,Zng,Znn,Zno,Znp,Zo7,eq_self,true_and,and_true,fs_0,fs_17,fs_18,fp_1,fc_len,v16,fz_fc,fcF1,rd_0,sp_0,sc_len,sc_ok,fz_sc,scF1,flL_sc,t1_c,callable_49]
  tactic =>
  refine cl none (c2) trivial ?_
  sym =>
  simp [Zab,Zad,Zam,Zaz,Za0,Za1,Za2,Za3,Za4,Za5,Za9,Zba,Zbb,Zbt,Zb7,Zb9,Zcv,Zc3,Zdc,Zdd,Zde,Zdi,Zev,Zew,Zez,Ze0,Ze1,Ze2,Ze3,Ze5,Ze8,Zfc,Zfd,Zfe,Zfh,Zgr,Zgs,Zgt,Zhb,Zhc,Zhd,Zhe,Zhf,Zhg,Zhh,Zin,Ziu,Ziv,Ziw,Zi6,Zi7,Zjh,Zji,Zj7,Zky,Zk0,Zk1,Zla,Zlb,Zle,Zlf,Zlh,Zlm,Zls,Zlz,Zl2,Zm5,Zm9,Zna,Znb,Zne,Znf,Zng,Znn,Zno,Znp,Zo7,eq_self,true_and,and_true,fs_0,fs_17,fs_18,fs_19,fp_1,fc_len,v16,fz_fc,fcF1,rd_0,sp_0,sc_len,sc_ok,fz_sc,scF1,flL_sc,t1_c,callable_49]
  tactic =>
  refine cl none (c3) trivial ?_
  sym =>
  simp [Zab,Zad,Zam,Zaz,Za0,Za1,Za2,Za3,Za4,Za5,Za9,Zba,Zbb,Zbt,Zb7,Zb9,Zcv,Zc3,Zdc,Zdd,Zde,Zdi,Zev,Zew,Zez,Ze0,Ze1,Ze2,Ze3,Ze5,Ze8,Zfc,Zfd,Zfe,Zfh,Zgr,Zgs,Zgt,Zhb,Zhc,Zhd,Zhe,Zhf,Zhg,Zhh,Zin,Ziu,Ziv,Ziw,Zi6,Zi7,Zjh,Zji,Zj7,Zky,Zk0,Zk1,Zla,Zlb,Zle,Zlf,Zlh,Zlm,Zls,Zlz,Zl2,Zm5,Zm9,Zna,Znb,Zne,Znf,Zng,Znn,Zno,Znp,Zo7,eq_self,true_and,and_true,fs_0,fs_17,fs_18,fs_20,fp_1,fc_len,v16,fz_fc,fcF1,rd_0,sp_0,sc_len,sc_ok,fz_sc,scF1,flL_sc,t1_c,callable_49]
  tactic =>
  refine cl none (c4) trivial ?_
  sym =>
  simp [Zab,Zad,Zam,Zaz,Za0,Za1,Za2,Za3,Za4,Za5,Za9,Zba,Zbb,Zbt,Zb7,Zcv,Zc3,Zdc,Zdd,Zde,Zdi,Zev,Zew,Zez,Ze0,Ze1,Ze2,Ze3,Ze5,Ze8,Zfc,Zfd,Zfe,Zfh,Zgr,Zgs,Zgt,Zhb,Zhc,Zin,Ziu,Ziv,Ziw,Zi6,Zjh,Zji,Zj7,Zky,Zk0,Zk1,Zla,Zlb,Zle,Zlf,Zlh,Zlm,Zlz,Zl2,Zm5,Zm9,Zna,Znb,Zne,Znf,Zng,Zo7,eq_self,true_and,and_true,rd_0,sp_0,sc_len,sc_ok,fz_sc,scF1,flL_sc,callable_53]
  tactic =>
  refine cl none (c5) trivial ?_
  sym =>
  simp [Zab,Zad,Zam,Zaz,Za0,Za1,Za2,Za3,Za4,Za5,Za6,Za7,Za9,Zba,Zbb,Zbd,Zbf,Zbt,Zbv,Zb1,Zb7,Zcn,Zdc,Zdd,Zde,Zdi,Zev,Zew,Zex,Zez,Ze0,Ze2,Ze5,Ze8,Zfc,Zfd,Zfe,Zfh,Zfi,Zfl,Zfn,Zfz,Zgr,Zgs,Zgt,Zgu,Zgw,Zgy,Zg4,Zg6,Zhb,Zhc,Zho,Zh6,Zh7,Zjq,Zky,Zkz,Zk0,Zk2,Zla,Zlb,Zle,Zlf,Zlh,Zlm,Zlz,Zm5,Zm6,Zm9,Zna,Znb,Zne,Znf,Zng,Zn6,Zn7,Zrd,Zo7,Zo8,eq_self,true_and,and_true,rd_0,sc_len,fz_sc,scF1,n1,n2,n3,a1,a2,cF_length,callable_54]
  tactic =>
  refine cl none (c6) trivial ?_
  sym =>
  simp [Zak,Zam,Zaz,Za0,Za1,Za2,Za3,Za4,Za5,Za6,Za7,Za9,Zba,Zbb,Zbd,Zbf,Zdi,Zev,Zew,Zex,Zez,Ze0,Ze2,Zfd,Zfe,Zfh,Zfi,Zfl,Zfn,Zfz,Zjr,Zlz,Zmt,Zmv,Zmw,Zmx,Zmz,Zm2,Zo7,Zo8,eq_self,true_and]
  tactic =>
  refine endA ?_
  sym =>
  simp [Zpc,eq_self]
end Go.Proofs.Ytbmdahhhgpbchaa.SnJ
