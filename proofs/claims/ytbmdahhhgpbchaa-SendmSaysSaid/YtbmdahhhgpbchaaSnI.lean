import Derived.Test.YtbmdahhhgpbchaaSnH
import Derived.Test.YtbmdahhhgpbchaaDgB
namespace Go.Proofs.Ytbmdahhhgpbchaa.SnI
open Go Go.Sim Go.Sim.E Go.RowKit Go.Proofs Go.Proofs.Ytbmdahhhgpbchaa.Cod Go.Proofs.Ytbmdahhhgpbchaa.Tab Go.Proofs.Ytbmdahhhgpbchaa.Bse Go.Proofs.Ytbmdahhhgpbchaa.SpnP Go.Proofs.Ytbmdahhhgpbchaa.SwA Go.Proofs.Ytbmdahhhgpbchaa.SwB Go.Proofs.Ytbmdahhhgpbchaa.SwC Go.Proofs.Ytbmdahhhgpbchaa.SwS Go.Proofs.Ytbmdahhhgpbchaa.SwD Go.Proofs.Ytbmdahhhgpbchaa.SwF Go.Proofs.Ytbmdahhhgpbchaa.SwG Go.Proofs.Ytbmdahhhgpbchaa.SwL Go.Proofs.Ytbmdahhhgpbchaa.ObA Go.Proofs.Ytbmdahhhgpbchaa.ObB Go.Proofs.Ytbmdahhhgpbchaa.ObC Go.Proofs.Ytbmdahhhgpbchaa.SnA Go.Proofs.Ytbmdahhhgpbchaa.SnB Go.Proofs.Ytbmdahhhgpbchaa.SnC Go.Proofs.Ytbmdahhhgpbchaa.SnD Go.Proofs.Ytbmdahhhgpbchaa.SnE Go.Proofs.Ytbmdahhhgpbchaa.SnF Go.Proofs.Ytbmdahhhgpbchaa.SnG Go.Proofs.Ytbmdahhhgpbchaa.SnH Go.Proofs.Ytbmdahhhgpbchaa.DgA Go.Proofs.Ytbmdahhhgpbchaa.DgB
set_option linter.unusedVariables false
set_option linter.unusedSimpArgs false
set_option maxRecDepth 100000
set_option maxHeartbeats 4000000
theorem cB_idl (l : List Int) : idL (cB l) = [] := by
  unfold idL
  rw [List.flatMap_eq_nil_iff]
  intro x hx
  obtain ⟨v, rfl⟩ := cB_sc l x hx
  rfl
theorem dig_len (b : List Int) : (digestF b).length = 32 := out32_length _
def newS (src : List Int) (tk : V 16) (s : Int) : Sn := ⟨1, 0, src, ⟨digestF src, dig_len src⟩, tk, s, 0, [], 0, [], [], offT, oneT⟩
theorem snew_con (src : List Int) (tk : V 16) (s : Int) (h0 : 0 < src.length) (h : src.length ≤ 6000) : Con Try.prog 47 [] [fB src, .ag (cB tk.1), U s] [] (.tu [.ag (sn (newS src tk s)), I 0]) := by
  have g0 : ¬ src.length = 0 := by omega
  have g1 : ¬ (16777216 : Int) < IN src.length := by simp only [IN]; omega
  have rt : rdb (cB tk.1) 0 16 = cB tk.1 := rdb_all (v16 tk)
  have hdg := of_con src (by omega)
  obtain ⟨su, hsu⟩ : ∃ su : V 32, su = ⟨digestF src, dig_len src⟩ := ⟨_, rfl⟩
  have e : digestF src = su.1 := by rw [hsu]
  unfold newS
  rw [← hsu]
  rw [e] at hdg
  simp only [sn, offT, oneT]
  refine con_j b47 rfl ?_
  sym =>
  simp [Zaa,Zab,Zac,Zad,Zae,Zaf,Zak,Zal,Zam,Zaz,Za0,Za1,Za2,Za3,Za4,Za5,Za6,Za7,Za9,Zba,Zbb,Zbc,Zbd,Zbf,Zbu,Zb7,Zca,Zcn,Zcv,Zcx,Zc3,Zc4,Zc7,Zc8,Zc9,Zdc,Zdd,Zde,Zdf,Zdg,Zdh,Zdi,Zdj,Zdk,Zdm,Zdo,Zdp,Zdt,Zdu,Zdv,Zdw,Zdx,Zdy,Zdz,Zd0,Zd1,Zd2,Zd3,Zd6,Zeb,Zec,Zek,Zen,Zeq,Zer,Zes,Zet,Zev,Zew,Zex,Zez,Ze0,Ze1,Ze2,Ze3,Ze5,Ze8,Zfc,Zfd,Zfe,Zfh,Zfi,Zfl,Zfn,Zfz,Zf3,Zgr,Zgs,Zgt,Zhb,Zhc,Zhd,Zhe,Zhf,Zhg,Zhh,Zh6,Zh7,Zin,Zio,Zip,Ziu,Ziv,Ziw,Zi6,Zi7,Zjb,Zjh,Zji,Zjn,Zjq,Zjs,Zjv,Zj2,Zj7,Zkb,Zkv,Zkw,Zkx,Zky,Zkz,Zk0,Zk1,Zk2,Zla,Zlb,Zle,Zlj,Zll,Zlz,Zl2,Zmt,Zmv,Zmw,Zmx,Zmy,Zmz,Zm0,Zm1,Zm3,Zm5,Zm7,Zm9,Zna,Znb,Zne,Znf,Zng,Znn,Zno,Znp,Zny,Zof,Zog,Zos,Zot,Zo7,Zo9,Zpb,Zpg,Zpv,Zp7,Zp9,Zqd,Zqe,eq_self,true_and,and_true,zS_sc,rd_0,ss_0,ss_2,ss_51,ss_52,ss_60,ss_61,ss_62,sp_3,sp_35,sp_0,sc_len,sc_ok,sc_id,sc_rs,g0,g1,callable_67]
  tactic =>
  refine cl none (start_con) trivial ?_
  unfold oneT
  sym =>
  simp [Zaa,Zab,Zac,Zad,Zae,Zaf,Zak,Zal,Zam,Zaz,Za0,Za1,Za2,Za3,Za4,Za5,Za6,Za7,Za9,Zba,Zbb,Zbc,Zbd,Zbf,Zbu,Zb7,Zca,Zcn,Zcv,Zcx,Zc3,Zc4,Zc7,Zc8,Zc9,Zdc,Zdd,Zde,Zdf,Zdg,Zdh,Zdi,Zdj,Zdk,Zdm,Zdo,Zdp,Zdt,Zdu,Zdv,Zdw,Zdx,Zdy,Zdz,Zd0,Zd1,Zd2,Zd3,Zd6,Zeb,Zec,Zek,Zen,Zeq,Zer,Zes,Zet,Zev,Zew,Zex,Zez,Ze0,Ze1,Ze2,Ze3,Ze5,Ze8,Zfc,Zfd,Zfe,Zfh,Zfi,Zfl,Zfn,Zfz,Zf3,Zgr,Zgs,Zgt,Zhb,Zhc,Zhd,Zhe,Zhf,Zhg,Zhh,Zh6,Zh7,Zin,Zio,Zip,Ziu,Ziv,Ziw,Zi6,Zi7,Zjb,Zjh,Zji,Zjn,Zjq,Zjs,Zjv,Zj2,Zj7,Zkb,Zkv,Zkw,Zkx,Zky,Zkz,Zk0,Zk1,Zk2,Zla,Zlb,Zle,Zlj,Zll,Zlz,Zl2,Zmt,Zmv,Zmw,Zmx,Zmy,Zmz,Zm0,Zm1,Zm3,Zm5,Zm7,Zm9,Zna,Znb,Zne,Znf,Zng,Znn,Zno,Znp,Zny,Zof,Zog,Zos,Zot,Zo7,Zo9,Zpb,Zpg,Zpv,Zp7,Zp9,Zqd,Zqe,eq_self,true_and,and_true,zS_sc,rd_0,ss_0,ss_2,ss_51,ss_52,ss_60,ss_61,ss_62,sp_3,sp_35,sp_0,sc_len,sc_ok,sc_id,sc_rs,callable_68]
  tactic =>
  refine cl none (clone_con src (by omega)) trivial ?_
  sym =>
  simp [Zaa,Zab,Zac,Zad,Zae,Zaf,Zak,Zal,Zam,Zaz,Za0,Za1,Za2,Za3,Za4,Za5,Za6,Za7,Za9,Zba,Zbb,Zbc,Zbd,Zbf,Zbu,Zb7,Zca,Zcn,Zcv,Zcx,Zc3,Zc4,Zc7,Zc8,Zc9,Zdc,Zdd,Zde,Zdf,Zdg,Zdh,Zdi,Zdj,Zdk,Zdm,Zdo,Zdp,Zdt,Zdu,Zdv,Zdw,Zdx,Zdy,Zdz,Zd0,Zd1,Zd2,Zd3,Zd6,Zeb,Zec,Zek,Zen,Zeq,Zer,Zes,Zet,Zev,Zew,Zex,Zez,Ze0,Ze1,Ze2,Ze3,Ze5,Ze8,Zfc,Zfd,Zfe,Zfh,Zfi,Zfl,Zfn,Zfz,Zf3,Zgr,Zgs,Zgt,Zhb,Zhc,Zhd,Zhe,Zhf,Zhg,Zhh,Zh6,Zh7,Zin,Zio,Zip,Ziu,Ziv,Ziw,Zi6,Zi7,Zjb,Zjh,Zji,Zjn,Zjq,Zjs,Zjv,Zj2,Zj7,Zkb,Zkv,Zkw,Zkx,Zky,Zkz,Zk0,Zk1,Zk2,Zla,Zlb,Zle,Zlj,Zll,Zlz,Zl2,Zmt,Zmv,Zmw,Zmx,Zmy,Zmz,Zm0,Zm1,Zm3,Zm5,Zm7,Zm9,Zna,Znb,Zne,Znf,Zng,Znn,Zno,Znp,Zny,Zof,Zog,Zos,Zot,Zo7,Zo9,Zpb,Zpg,Zpv,Zp7,Zp9,Zqd,Zqe,eq_self,true_and,and_true,zS_sc,rd_0,ss_0,ss_2,ss_51,ss_52,ss_60,ss_61,ss_62,sp_3,sp_35,sp_0,sc_len,sc_ok,sc_id,sc_rs,callable_85]
  tactic =>
  refine cl none (hdg) trivial ?_
  have hfl := cB_fl su.1
  have i1 := cB_idl su.1
  have i2 := cB_idl tk.1
  sym =>
  simp [Zaa,Zab,Zac,Zad,Zae,Zaf,Zak,Zal,Zam,Zaz,Za0,Za1,Za2,Za3,Za4,Za5,Za6,Za7,Za9,Zba,Zbb,Zbc,Zbd,Zbf,Zbu,Zb7,Zca,Zcn,Zcv,Zcx,Zc3,Zc4,Zc7,Zc8,Zc9,Zdc,Zdd,Zde,Zdf,Zdg,Zdh,Zdi,Zdj,Zdk,Zdm,Zdo,Zdp,Zdt,Zdu,Zdv,Zdw,Zdx,Zdy,Zdz,Zd0,Zd1,Zd2,Zd3,Zd6,Zeb,Zec,Zek,Zen,Zeq,Zer,Zes,Zet,Zev,Zew,Zex,Zez,Ze0,Ze1,Ze2,Ze3,Ze5,Ze8,Zfc,Zfd,Zfe,Zfh,Zfi,Zfl,Zfn,Zfz,Zf3,Zgr,Zgs,Zgt,Zhb,Zhc,Zhd,Zhe,Zhf,Zhg,Zhh,Zh6,Zh7,Zin,Zio,Zip,Ziu,Ziv,Ziw,Zi6,Zi7,Zjb,Zjh,Zji,Zjn,Zjq,Zjs,Zjv,Zj2,Zj7,Zkb,Zkv,Zkw,Zkx,Zky,Zkz,Zk0,Zk1,Zk2,Zla,Zlb,Zle,Zlj,Zll,Zlz,Zl2,Zmt,Zmv,Zmw,Zmx,Zmy,Zmz,Zm0,Zm1,Zm3,Zm5,Zm7,Zm9,Zna,Znb,Zne,Znf,Zng,Znn,Zno,Znp,Zny,Zof,Zog,Zos,Zot,Zo7,Zo9,Zpb,Zpg,Zpv,Zp7,Zp9,Zqd,Zqe,eq_self,true_and,and_true,zS_sc,rd_0,ss_0,ss_2,ss_51,ss_52,ss_60,ss_61,ss_62,sp_3,sp_35,sp_0,sc_len,sc_ok,sc_id,sc_rs,rt,hfl,i1,i2,v16,v32]
  tactic =>
  refine endA ?_
  sym =>
  simp [Zaa,Zab,Zac,Zad,Zae,Zaf,Zak,Zal,Zam,Zaz,Za0,Za1,Za2,Za3,Za4,Za5,Za6,Za7,Za9,Zba,Zbb,Zbc,Zbd,Zbf,Zbu,Zb7,Zca,Zcn,Zcv,Zcx,Zc3,Zc4,Zc7,Zc8,Zc9,Zdc,Zdd,Zde,Zdf,Zdg,Zdh,Zdi,Zdj,Zdk,Zdm,Zdo,Zdp,Zdt,Zdu,Zdv,Zdw,Zdx,Zdy,Zdz,Zd0,Zd1,Zd2,Zd3,Zd6,Zeb,Zec,Zek,Zen,Zeq,Zer,Zes,Zet,Zev,Zew,Zex,Zez,Ze0,Ze1,Ze2,Ze3,Ze5,Ze8,Zfc,Zfd,Zfe,Zfh,Zfi,Zfl,Zfn,Zfz,Zf3,Zgr,Zgs,Zgt,Zhb,Zhc,Zhd,Zhe,Zhf,Zhg,Zhh,Zh6,Zh7,Zin,Zio,Zip,Ziu,Ziv,Ziw,Zi6,Zi7,Zjb,Zjh,Zji,Zjn,Zjq,Zjs,Zjv,Zj2,Zj7,Zkb,Zkv,Zkw,Zkx,Zky,Zkz,Zk0,Zk1,Zk2,Zla,Zlb,Zle,Zlj,Zll,Zlz,Zl2,Zmt,Zmv,Zmw,Zmx,Zmy,Zmz,Zm0,Zm1,Zm3,Zm5,Zm7,Zm9,Zna,Znb,Zne,Znf,Zng,Znn,Zno,Znp,Zny,Zof,Zog,Zos,Zot,Zo7,Zo9,Zpb,Zpg,Zpv,Zp7,Zp9,Zqd,Zqe,eq_self,true_and,and_true,zS_sc,rd_0,ss_0,ss_2,ss_51,ss_52,ss_60,ss_61,ss_62,sp_3,sp_35,sp_0,sc_len,sc_ok,sc_id,sc_rs]
  tactic =>
  exact ⟨rfl, rfl, rfl⟩
theorem newS_inv (src : List Int) (tk : V 16) (s : Int) (h : src.length ≤ 6000) : Inv (newS src tk s) :=
  ⟨h, Nat.zero_le _, rfl, Ok.nil _, Ok.nil _, TOk.off, TOk.one⟩
def zeS : Sn := ⟨0, 0, [], z32, z16, 0, 0, [], 0, [], [], offT, offT⟩
theorem onF_keep (x : Sn) : (onF x).1.tk = x.tk ∧ (onF x).1.es = x.es := by unfold onF; split <;> exact ⟨rfl, rfl⟩
theorem tcF_keep (x : Sn) : (tcF x).1.tk = x.tk ∧ (tcF x).1.es = x.es := by
  unfold tcF
  repeat' split
  all_goals exact ⟨rfl, rfl⟩
theorem rsF_keep (x : Sn) (f : Fm) : (rsF x f).1.tk = x.tk ∧ (rsF x f).1.es = x.es := by
  unfold rsF
  split
  · exact ⟨rfl, rfl⟩
  · split
    · exact ⟨rfl, rfl⟩
    · split
      · exact ⟨rfl, rfl⟩
      · exact onF_keep _
theorem skF_keep (x : Sn) (f : Fm) : (skF x f).1.tk = x.tk ∧ (skF x f).1.es = x.es := by
  unfold skF
  split
  · exact ⟨rfl, rfl⟩
  · split
    · exact ⟨rfl, rfl⟩
    · split
      · exact ⟨rfl, rfl⟩
      · split
        · exact ⟨rfl, rfl⟩
        · split
          · exact onF_keep _
          · exact ⟨rfl, rfl⟩
theorem taF_keep (x : Sn) (f : Fm) : (taF x f).1.tk = x.tk ∧ (taF x f).1.es = x.es := by
  unfold taF
  split
  · exact ⟨rfl, rfl⟩
  · split
    · exact ⟨rfl, rfl⟩
    · split
      · exact ⟨rfl, rfl⟩
      · split
        · exact ⟨rfl, rfl⟩
        · split
          · exact rsF_keep x f
          · split
            · exact skF_keep x f
            · repeat' split
              all_goals exact ⟨rfl, rfl⟩
end Go.Proofs.Ytbmdahhhgpbchaa.SnI
