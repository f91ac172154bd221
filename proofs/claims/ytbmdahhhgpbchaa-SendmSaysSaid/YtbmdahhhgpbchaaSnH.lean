import Derived.Test.YtbmdahhhgpbchaaSnG
namespace Go.Proofs.Ytbmdahhhgpbchaa.SnH
open Go Go.Sim Go.Sim.E Go.RowKit Go.Proofs Go.Proofs.Ytbmdahhhgpbchaa.Cod Go.Proofs.Ytbmdahhhgpbchaa.Tab Go.Proofs.Ytbmdahhhgpbchaa.Bse Go.Proofs.Ytbmdahhhgpbchaa.SpnP Go.Proofs.Ytbmdahhhgpbchaa.SwA Go.Proofs.Ytbmdahhhgpbchaa.SwB Go.Proofs.Ytbmdahhhgpbchaa.SwC Go.Proofs.Ytbmdahhhgpbchaa.SwS Go.Proofs.Ytbmdahhhgpbchaa.SwD Go.Proofs.Ytbmdahhhgpbchaa.SwF Go.Proofs.Ytbmdahhhgpbchaa.SwG Go.Proofs.Ytbmdahhhgpbchaa.SwL Go.Proofs.Ytbmdahhhgpbchaa.ObA Go.Proofs.Ytbmdahhhgpbchaa.ObB Go.Proofs.Ytbmdahhhgpbchaa.ObC Go.Proofs.Ytbmdahhhgpbchaa.SnA Go.Proofs.Ytbmdahhhgpbchaa.SnB Go.Proofs.Ytbmdahhhgpbchaa.SnC Go.Proofs.Ytbmdahhhgpbchaa.SnD Go.Proofs.Ytbmdahhhgpbchaa.SnE Go.Proofs.Ytbmdahhhgpbchaa.SnF Go.Proofs.Ytbmdahhhgpbchaa.SnG
set_option linter.unusedVariables false
set_option linter.unusedSimpArgs false
set_option maxRecDepth 100000
set_option maxHeartbeats 4000000
def i50 (z : List AV) (g : AV → List AV) (r : List Rg) (k : Nat) (s : St) : Prop := ∃ i : Nat, i + k = r.length ∧ s = ⟨[(2, .pt 0 0), (3, .pt 1 0), (24, fQ r), (25, I (IN r.length)), (26, I (IN i))], [(0, ⟨z, 1, 0⟩), (1, ⟨g (.lv 2 0 i), 1, 0⟩), (2, ⟨cQ (r.take i), 2, 0⟩)], 3⟩
theorem theirs_con (f : Fm) (hr : f.r.length ≤ 1000000) : Con Try.prog 50 [] [.ag (fr f)] [] (.ag (fr f)) := by
  obtain ⟨k, t, es, er, o, n, su, d, r, c⟩ := f
  simp only at hr
  simp only [fr]
  refine con_j b50 rfl ?_
  sym =>
  simp [Zab,Zad,Zag,Zah,Zam,Zaz,Za0,Za1,Za2,Za3,Za4,Za5,Za9,Zba,Zbb,Zbt,Zbv,Zb9,Zcn,Zcv,Zcx,Zc3,Zev,Zew,Zez,Ze0,Ze1,Ze2,Ze3,Ze5,Ze8,Zfc,Zfd,Zfe,Zfh,Zgr,Zgs,Zgt,Zgv,Zgw,Zgx,Zhd,Zhe,Zhf,Zhg,Zhh,Zh6,Zh7,Zin,Zio,Zip,Ziu,Ziv,Ziw,Zi6,Zi7,Zjb,Zjh,Zji,Zj2,Zj7,Zm5,Zm6,Zm7,Zna,Znb,Znn,Zno,Zos,Zot,Zo7,eq_self,true_and,and_true,zF_fc,fc_0,fc_17,fc_18,fc_19,fc_20,fc_53,fc_54,fc_55,fs_0,fs_17,fs_18,fs_19,fs_20,fs_53,fs_55,fp_1,fp_21,fp_f,rb_1,rb_21,fc_len,fc_ok,v16,v32]
  tactic =>
  refine lpA (i50 (fc 0 z16 0 0 0 0 z32 .nl .nl 0) (fun x => fc k t es er o n su (fB d) x c) r) r.length [(0, 1), (1, 19)] _ ⟨0, by omega, rfl⟩ (wkA ?_) ?_
  · sym =>
    simp [Za2,Za3,Zez,Zfb,Zfc,Znr,Zn5,Zpc,Zpd,Zpg,Zpi,Zpp,Zpu,Zqf,Zqg,Zqh,Zqi,Zqj,Zqk,Zql,Zqm,Zqn,eq_self,true_and,and_true,fc_rs]
    tactic =>
    all_goals rfl
  rintro kk s ⟨i, hi, rfl⟩
  simp only
  by_cases h : i < r.length
  · have hw := w64s i (by omega)
    have a0 := cQ_q0 r i h
    have a1 := cQ_q1 r i h
    have hl : (r.take i).length * 2 = i * 2 := by rw [List.length_take]; omega
    have ht := cQ_take r i h
    sym =>
    simp [Zaa,Zab,Zad,Zae,Zaf,Zag,Zal,Zam,Zap,Zav,Zay,Zaz,Za0,Za1,Za2,Za3,Za4,Za5,Za9,Zba,Zbb,Zbf,Zbt,Zbv,Zb1,Zcv,Zcz,Zc3,Zc5,Zev,Zew,Zez,Ze0,Ze1,Ze2,Ze3,Ze4,Ze5,Ze8,Zfc,Zfd,Zfe,Zff,Zfg,Zfh,Zfn,Zfq,Zf1,Zgr,Zgs,Zgt,Zgu,Zgv,Zgw,Zgx,Zg4,Zg6,Zhf,Zhg,Zhh,Zho,Zin,Ziq,Zir,Ziu,Ziv,Ziw,Zix,Ziz,Zi0,Zi2,Zi3,Zi6,Zje,Zjg,Zjh,Zji,Zjj,Zjk,Zjn,Zjo,Zkl,Zm5,Zm6,Zm7,Zm9,Zna,Znb,Znh,Znl,Znm,Znn,Zno,Znp,Znr,Zns,Znt,Znw,Zo7,Zo8,eq_self,true_and,and_true,fc_54,fs_54,fc_len,h,hw,a0,a1,cQ_length,hl]
    tactic =>
    and_intros <;> try (first | omega | rfl | assumption | simp only [IN]; omega)
    unfold NextL; refine ⟨(kk - 1), [(0, 0), (1, 1), (2, 12)], _, by omega, ⟨i + 1, by omega, rfl⟩, wkA ?_⟩
    rw [ht]
    sym =>
    simp [Za2,Za3,Zez,Zfc,Znr,Zpc,Zpd,Zpg,Zpi,Zpm,Zpu,Zqf,Zqg,Zqh,Zqi,Zqk,Zql,Zqm,Zqn,eq_self,true_and,and_true,fc_rs]
    tactic =>
    exact rs_self (by rw [← ht]; exact cQ_okI _)
  · have e : r.take i = r := List.take_of_length_le (by omega)
    obtain rfl : i = r.length := by omega
    rw [e]
    sym =>
    simp [Zab,Zad,Zae,Zaf,Zai,Zak,Zam,Zan,Zaq,Zaw,Zay,Zaz,Za0,Za1,Za2,Za3,Za4,Za5,Za9,Zba,Zbf,Zbt,Zc3,Zev,Zez,Ze0,Ze1,Ze2,Ze3,Ze5,Ze8,Zfc,Zfd,Zfe,Zfn,Zf1,Zgr,Zgs,Zgt,Ziu,Ziv,Ziw,Zi6,Zjh,Zji,Zj7,Zkl,Zmt,Zmv,Zmw,Zmy,Zm0,Zm1,Zm2,Zm5,Zna,Znb,Znr,Znt,Zo7,Zo9,eq_self,true_and,and_true,fp_f,rb_0,fc_len,fc_ok,h]
    tactic =>
    refine endA ?_
    sym =>
    simp [Zfc,Znh,Zpg,Zpy,Zp1,Zp2,Zp8,eq_self,true_and,and_true,Nat.zero_add,fc_rs]
    tactic =>
    exact ⟨(cQ_all r).symm, by rw [cQ_length]; exact Nat.le_refl _, cQ_okI r⟩
def farF (f : Fm) : Bool := decide (600 < f.d.length) || decide (20 < f.r.length)
theorem far_con (f : Fm) : Con Try.prog 45 [] [.ag (fr f)] [] (Bo (farF f)) := by
  obtain ⟨k, t, es, er, o, n, su, d, r, c⟩ := f
  simp only [fr, farF]
  refine con_j b45 rfl ?_
  by_cases h1 : 600 < d.length
  · have h2 : (600 : Int) < IN d.length := by simp only [IN]; omega
    sym =>
    simp [Zab,Zad,Zak,Zam,Zaz,Za0,Za1,Za2,Za3,Za4,Za5,Za6,Za7,Za8,Za9,Zba,Zbb,Zbd,Zbf,Zbt,Zbv,Zcn,Zcx,Zev,Zew,Zex,Zez,Ze0,Ze2,Ze3,Ze5,Ze8,Zfc,Zfd,Zfe,Zfh,Zfi,Zfj,Zfn,Zf3,Zgr,Zgs,Zgt,Zgv,Zgw,Zgx,Zh6,Zh7,Zio,Zip,Zi6,Zmt,Zmv,Zmw,Zmx,Zmz,Zm2,Zm6,Zna,Znb,Zos,Zot,Zo6,Zo7,Zo8,eq_self,true_and,fc_53,fc_len,h2]
    tactic =>
    refine endA ?_
    sym =>
    simp [Zpc,Zqs,eq_self,Bool.true_or]
    tactic =>
    simp [h1]
  · have h2 : ¬ (600 : Int) < IN d.length := by simp only [IN]; omega
    by_cases h3 : 20 < r.length
    · have h4 : (20 : Int) < IN r.length := by simp only [IN]; omega
      sym =>
      simp [Zab,Zad,Zak,Zam,Zaz,Za0,Za1,Za2,Za3,Za4,Za5,Za6,Za7,Za9,Zba,Zbb,Zbd,Zbf,Zbt,Zbv,Zcn,Zcx,Zev,Zew,Zex,Zez,Ze0,Ze2,Ze3,Ze5,Ze8,Zfc,Zfd,Zfe,Zfh,Zfi,Zfl,Zfn,Zf3,Zgr,Zgs,Zgt,Zgv,Zgw,Zgx,Zh6,Zh7,Zio,Zip,Zi6,Zmt,Zmv,Zmw,Zmx,Zmz,Zm2,Zm6,Zna,Znb,Zos,Zot,Zo7,Zo8,Zo9,eq_self,true_and,fc_53,fc_54,fc_len,h2,h4]
      tactic =>
      refine endA ?_
      sym =>
      simp [Zpc,Zqs,eq_self,Bool.or_true]
      tactic =>
      simp [h1, h3]
    · have h4 : ¬ (20 : Int) < IN r.length := by simp only [IN]; omega
      sym =>
      simp [Zab,Zad,Zak,Zam,Zaz,Za0,Za1,Za2,Za3,Za4,Za5,Za6,Za7,Za9,Zba,Zbb,Zbd,Zbf,Zbt,Zbv,Zcn,Zcx,Zev,Zew,Zex,Zez,Ze0,Ze2,Ze3,Ze5,Ze8,Zfc,Zfd,Zfe,Zfh,Zfi,Zfl,Zfn,Zf3,Zgr,Zgs,Zgt,Zgv,Zgw,Zgx,Zh6,Zh7,Zio,Zip,Zi6,Zmt,Zmv,Zmw,Zmx,Zmz,Zm2,Zm6,Zna,Znb,Zos,Zot,Zo7,Zo9,eq_self,true_and,fc_53,fc_54,fc_len,h2,h4]
      tactic =>
      refine endA ?_
      sym =>
      simp [Zpc,Zqs,eq_self]
      tactic =>
      simp [h1, h3]
theorem rd_t (x y z : AV) (k : Int) (t : V 16) (es er o n : Int) (su : V 32) (d r : AV) (c : Int) : rdb (x :: y :: z :: fc k t es er o n su d r c) 3 56 = fc k t es er o n su d r c := rdb_all (fc_len ..)
def frmF (own now : Bool) (f : Fm) (tk : V 16) (s r : Int) : Fm :=
  let f1 := if own = true then {f with t := tk, es := s} else f
  if now = true then {f1 with es := s, er := r} else f1
theorem frame_con (a own now : Bool) (f : Fm) (tk : V 16) (s r : Int) : Con Try.prog 51 [] [.ag (Bo a :: Bo own :: Bo now :: fr f), .ag (cB tk.1), .ag [U s, U r]] [] (.ag (fr (frmF own now f tk s r))) := by
  obtain ⟨k, t, es, er, o, n, su, d, rr, c⟩ := f
  have rt : rdb (cB tk.1) 0 16 = cB tk.1 := rdb_all (v16 tk)
  cases own <;> cases now
  · have e : frmF false false ⟨k, t, es, er, o, n, su, d, rr, c⟩ tk s r = ⟨k, t, es, er, o, n, su, d, rr, c⟩ := rfl
    rw [e]
    simp only [fr]
    refine con_j b51 rfl ?_
    sym =>
    simp [Zaa,Zab,Zac,Zad,Zae,Zaf,Zak,Zal,Zam,Zaz,Za0,Za1,Za2,Za3,Za4,Za5,Za9,Zba,Zbt,Zbu,Zbv,Zbw,Zcv,Zcx,Zc3,Zc4,Zc7,Zc8,Zc9,Zdo,Zdp,Zdt,Zdu,Zdv,Zdw,Zdx,Zdy,Zdz,Zd0,Zd1,Zd2,Zek,Zen,Zev,Zez,Ze0,Ze1,Ze2,Ze3,Ze5,Ze8,Zfc,Zfd,Zfe,Zgr,Zgs,Zgt,Zgv,Zgw,Zgx,Zin,Zio,Zip,Ziu,Ziv,Ziw,Zi6,Zi7,Zjh,Zji,Zjn,Zj7,Zmt,Zmv,Zmw,Zmy,Zm0,Zm1,Zm2,Zm5,Zm6,Zm7,Zm9,Zna,Znb,Znc,Znd,Zne,Znn,Zno,Zos,Zot,Zo7,Zpg,Zp8,eq_self,true_and,and_true,zF_fc,fs_17,fs_18,fp_1,fp_f,rb_0,fc_len,fc_ok,fc_rs,v16,cB_cells,rd_t]
    tactic =>
    refine endA ?_
    sym =>
    simp [Zaa,Zab,Zac,Zad,Zae,Zaf,Zak,Zal,Zam,Zaz,Za0,Za1,Za2,Za3,Za4,Za5,Za9,Zba,Zbt,Zbu,Zbv,Zbw,Zcv,Zcx,Zc3,Zc4,Zc7,Zc8,Zc9,Zdo,Zdp,Zdt,Zdu,Zdv,Zdw,Zdx,Zdy,Zdz,Zd0,Zd1,Zd2,Zek,Zen,Zev,Zez,Ze0,Ze1,Ze2,Ze3,Ze5,Ze8,Zfc,Zfd,Zfe,Zgr,Zgs,Zgt,Zgv,Zgw,Zgx,Zin,Zio,Zip,Ziu,Ziv,Ziw,Zi6,Zi7,Zjh,Zji,Zjn,Zj7,Zmt,Zmv,Zmw,Zmy,Zm0,Zm1,Zm2,Zm5,Zm6,Zm7,Zm9,Zna,Znb,Znc,Znd,Zne,Znn,Zno,Zos,Zot,Zo7,Zpg,Zp8,eq_self,true_and,and_true,zF_fc,fs_17,fs_18,fp_1,fp_f,rb_0,fc_len,fc_ok,fc_rs,v16,cB_cells]
  · have e : frmF false true ⟨k, t, es, er, o, n, su, d, rr, c⟩ tk s r = ⟨k, t, s, r, o, n, su, d, rr, c⟩ := rfl
    rw [e]
    simp only [fr]
    refine con_j b51 rfl ?_
    sym =>
    simp [Zaa,Zab,Zac,Zad,Zae,Zaf,Zak,Zal,Zam,Zaz,Za0,Za1,Za2,Za3,Za4,Za5,Za9,Zba,Zbt,Zbu,Zbv,Zbw,Zcv,Zcx,Zc3,Zc4,Zc7,Zc8,Zc9,Zdo,Zdp,Zdt,Zdu,Zdv,Zdw,Zdx,Zdy,Zdz,Zd0,Zd1,Zd2,Zek,Zen,Zev,Zez,Ze0,Ze1,Ze2,Ze3,Ze5,Ze8,Zfc,Zfd,Zfe,Zgr,Zgs,Zgt,Zgv,Zgw,Zgx,Zin,Zio,Zip,Ziu,Ziv,Ziw,Zi6,Zi7,Zjh,Zji,Zjn,Zj7,Zmt,Zmv,Zmw,Zmy,Zm0,Zm1,Zm2,Zm5,Zm6,Zm7,Zm9,Zna,Znb,Znc,Znd,Zne,Znn,Zno,Zos,Zot,Zo7,Zpg,Zp8,eq_self,true_and,and_true,zF_fc,fs_17,fs_18,fp_1,fp_f,rb_0,fc_len,fc_ok,fc_rs,v16,cB_cells,rd_t]
    tactic =>
    refine endA ?_
    sym =>
    simp [Zaa,Zab,Zac,Zad,Zae,Zaf,Zak,Zal,Zam,Zaz,Za0,Za1,Za2,Za3,Za4,Za5,Za9,Zba,Zbt,Zbu,Zbv,Zbw,Zcv,Zcx,Zc3,Zc4,Zc7,Zc8,Zc9,Zdo,Zdp,Zdt,Zdu,Zdv,Zdw,Zdx,Zdy,Zdz,Zd0,Zd1,Zd2,Zek,Zen,Zev,Zez,Ze0,Ze1,Ze2,Ze3,Ze5,Ze8,Zfc,Zfd,Zfe,Zgr,Zgs,Zgt,Zgv,Zgw,Zgx,Zin,Zio,Zip,Ziu,Ziv,Ziw,Zi6,Zi7,Zjh,Zji,Zjn,Zj7,Zmt,Zmv,Zmw,Zmy,Zm0,Zm1,Zm2,Zm5,Zm6,Zm7,Zm9,Zna,Znb,Znc,Znd,Zne,Znn,Zno,Zos,Zot,Zo7,Zpg,Zp8,eq_self,true_and,and_true,zF_fc,fs_17,fs_18,fp_1,fp_f,rb_0,fc_len,fc_ok,fc_rs,v16,cB_cells]
  · have e : frmF true false ⟨k, t, es, er, o, n, su, d, rr, c⟩ tk s r = ⟨k, tk, s, er, o, n, su, d, rr, c⟩ := rfl
    rw [e]
    simp only [fr]
    refine con_j b51 rfl ?_
    sym =>
    simp [Zaa,Zab,Zac,Zad,Zae,Zaf,Zak,Zal,Zam,Zaz,Za0,Za1,Za2,Za3,Za4,Za5,Za9,Zba,Zbt,Zbu,Zbv,Zbw,Zcv,Zcx,Zc3,Zc4,Zc7,Zc8,Zc9,Zdo,Zdp,Zdt,Zdu,Zdv,Zdw,Zdx,Zdy,Zdz,Zd0,Zd1,Zd2,Zek,Zen,Zev,Zez,Ze0,Ze1,Ze2,Ze3,Ze5,Ze8,Zfc,Zfd,Zfe,Zgr,Zgs,Zgt,Zgv,Zgw,Zgx,Zin,Zio,Zip,Ziu,Ziv,Ziw,Zi6,Zi7,Zjh,Zji,Zjn,Zj7,Zmt,Zmv,Zmw,Zmy,Zm0,Zm1,Zm2,Zm5,Zm6,Zm7,Zm9,Zna,Znb,Znc,Znd,Zne,Znn,Zno,Zos,Zot,Zo7,Zpg,Zp8,eq_self,true_and,and_true,zF_fc,fs_17,fs_18,fp_1,fp_f,rb_0,fc_len,fc_ok,fc_rs,v16,cB_cells,rd_t,rt]
    tactic =>
    refine endA ?_
    sym =>
    simp [Zaa,Zab,Zac,Zad,Zae,Zaf,Zak,Zal,Zam,Zaz,Za0,Za1,Za2,Za3,Za4,Za5,Za9,Zba,Zbt,Zbu,Zbv,Zbw,Zcv,Zcx,Zc3,Zc4,Zc7,Zc8,Zc9,Zdo,Zdp,Zdt,Zdu,Zdv,Zdw,Zdx,Zdy,Zdz,Zd0,Zd1,Zd2,Zek,Zen,Zev,Zez,Ze0,Ze1,Ze2,Ze3,Ze5,Ze8,Zfc,Zfd,Zfe,Zgr,Zgs,Zgt,Zgv,Zgw,Zgx,Zin,Zio,Zip,Ziu,Ziv,Ziw,Zi6,Zi7,Zjh,Zji,Zjn,Zj7,Zmt,Zmv,Zmw,Zmy,Zm0,Zm1,Zm2,Zm5,Zm6,Zm7,Zm9,Zna,Znb,Znc,Znd,Zne,Znn,Zno,Zos,Zot,Zo7,Zpg,Zp8,eq_self,true_and,and_true,zF_fc,fs_17,fs_18,fp_1,fp_f,rb_0,fc_len,fc_ok,fc_rs,v16,cB_cells]
  · have e : frmF true true ⟨k, t, es, er, o, n, su, d, rr, c⟩ tk s r = ⟨k, tk, s, r, o, n, su, d, rr, c⟩ := rfl
    rw [e]
    simp only [fr]
    refine con_j b51 rfl ?_
    sym =>
    simp [Zaa,Zab,Zac,Zad,Zae,Zaf,Zak,Zal,Zam,Zaz,Za0,Za1,Za2,Za3,Za4,Za5,Za9,Zba,Zbt,Zbu,Zbv,Zbw,Zcv,Zcx,Zc3,Zc4,Zc7,Zc8,Zc9,Zdo,Zdp,Zdt,Zdu,Zdv,Zdw,Zdx,Zdy,Zdz,Zd0,Zd1,Zd2,Zek,Zen,Zev,Zez,Ze0,Ze1,Ze2,Ze3,Ze5,Ze8,Zfc,Zfd,Zfe,Zgr,Zgs,Zgt,Zgv,Zgw,Zgx,Zin,Zio,Zip,Ziu,Ziv,Ziw,Zi6,Zi7,Zjh,Zji,Zjn,Zj7,Zmt,Zmv,Zmw,Zmy,Zm0,Zm1,Zm2,Zm5,Zm6,Zm7,Zm9,Zna,Znb,Znc,Znd,Zne,Znn,Zno,Zos,Zot,Zo7,Zpg,Zp8,eq_self,true_and,and_true,zF_fc,fs_17,fs_18,fp_1,fp_f,rb_0,fc_len,fc_ok,fc_rs,v16,cB_cells,rd_t,rt]
    tactic =>
    refine endA ?_
    sym =>
    simp [Zaa,Zab,Zac,Zad,Zae,Zaf,Zak,Zal,Zam,Zaz,Za0,Za1,Za2,Za3,Za4,Za5,Za9,Zba,Zbt,Zbu,Zbv,Zbw,Zcv,Zcx,Zc3,Zc4,Zc7,Zc8,Zc9,Zdo,Zdp,Zdt,Zdu,Zdv,Zdw,Zdx,Zdy,Zdz,Zd0,Zd1,Zd2,Zek,Zen,Zev,Zez,Ze0,Ze1,Ze2,Ze3,Ze5,Ze8,Zfc,Zfd,Zfe,Zgr,Zgs,Zgt,Zgv,Zgw,Zgx,Zin,Zio,Zip,Ziu,Ziv,Ziw,Zi6,Zi7,Zjh,Zji,Zjn,Zj7,Zmt,Zmv,Zmw,Zmy,Zm0,Zm1,Zm2,Zm5,Zm6,Zm7,Zm9,Zna,Znb,Znc,Znd,Zne,Znn,Zno,Zos,Zot,Zo7,Zpg,Zp8,eq_self,true_and,and_true,zF_fc,fs_17,fs_18,fp_1,fp_f,rb_0,fc_len,fc_ok,fc_rs,v16,cB_cells]
theorem state_con (x : Sn) : Con Try.prog 53 [] [.ag (sn x)] [] (.tu [I x.st, I x.cd]) := by
  obtain ⟨st, cd, src, su, tk, es, er, os, t, s, o, ⟨a, b, c⟩, ⟨a2, b2, c2⟩⟩ := x
  simp only [sn]
  refine con_j b53 rfl ?_
  sym =>
  simp [Zab,Zac,Zad,Zak,Zam,Zaz,Za0,Za1,Za2,Za3,Za4,Za5,Za9,Zba,Zbb,Zbc,Zbu,Zbw,Zcx,Zc7,Zc8,Zdo,Zdp,Zdt,Zdu,Zdv,Zdw,Zdx,Zdy,Zdz,Zd0,Zd1,Zd2,Zek,Zev,Zew,Zez,Ze0,Ze2,Ze3,Ze5,Ze8,Zfc,Zfd,Zfe,Zfh,Zgr,Zgs,Zgt,Zgv,Zgw,Zgx,Zio,Zip,Zi6,Zmt,Zmv,Zmw,Zmx,Zmz,Zm3,Zm6,Zna,Znb,Zne,Zos,Zot,Zo7,eq_self,true_and,and_true,sc_0,sc_1,sc_len]
  tactic =>
  refine endA ?_
  sym =>
  simp [Zpb,Zp9,Zqd,Zqe,eq_self,and_true]
theorem epoch_con (x : Sn) : Con Try.prog 52 [] [.ag (sn x)] [] (.ag [U x.es, U x.er]) := by
  obtain ⟨st, cd, src, su, tk, es, er, os, t, s, o, ⟨a, b, c⟩, ⟨a2, b2, c2⟩⟩ := x
  simp only [sn]
  refine con_j b52 rfl ?_
  sym =>
  simp [Zab,Zad,Zak,Zam,Zaz,Za0,Za1,Za2,Za3,Za4,Za5,Za9,Zba,Zbt,Zbv,Zcv,Zcx,Zc3,Zev,Zez,Ze0,Ze1,Ze2,Ze3,Ze5,Ze8,Zfc,Zfd,Zfe,Zgr,Zgs,Zgt,Zgv,Zgw,Zgx,Zin,Zio,Zip,Ziu,Ziv,Ziw,Zi6,Zjh,Zji,Zjn,Zmt,Zmv,Zmw,Zmy,Zm0,Zm1,Zm2,Zm5,Zm7,Zm9,Zna,Znb,Znn,Zno,Znp,Zos,Zot,Zo7,eq_self,true_and,and_true,sc_51,sc_52,sc_len]
  tactic =>
  refine endA ?_
  sym =>
  simp [Zpa,Zp8,Zqb,Zqc,eq_self,and_true]
theorem sbase_con (x : Sn) (h : Inv x) : Con Try.prog 54 [] [.ag (sn x)] [] (I (endF (lim 0) x.s)) := by
  have hb := h.bd
  have ls := h.s.len (by omega)
  have hc := base_con' x.os x.t x.s x.o x.T (by omega)
  obtain ⟨st, cd, src, su, tk, es, er, os, t, s, o, ⟨a, b, c⟩, ⟨a2, b2, c2⟩⟩ := x
  simp only [sn] at hc ⊢
  refine con_j b54 rfl ?_
  sym =>
  simp [Zab,Zad,Zam,Zaz,Za0,Za1,Za2,Za3,Za4,Za5,Za9,Zba,Zbb,Zbt,Zbv,Zcx,Zdc,Zdd,Zde,Zev,Zew,Zez,Ze0,Ze2,Ze3,Ze5,Ze8,Zfc,Zfd,Zfe,Zfh,Zgr,Zgs,Zgt,Zgv,Zgw,Zgx,Zio,Zip,Zi6,Zla,Zlb,Zlc,Zld,Zle,Zlf,Zlh,Zlk,Zlm,Zm5,Zm7,Zna,Znb,Zne,Znf,Zng,Zos,Zot,Zo7,eq_self,true_and,and_true,sc_53,sc_54,sc_55,sc_56,sc_57,sc_58,sc_59,sc_len,callable_34]
  tactic =>
  refine cl none (hc) trivial ?_
  sym =>
  simp [Zak,Zam,Zaz,Za0,Za1,Za2,Za3,Za4,Za5,Za9,Zba,Zbb,Zdi,Zev,Zez,Ze0,Ze2,Zfd,Zfe,Zfh,Zjr,Zlz,Zmt,Zmv,Zmw,Zmx,Zmz,Zm2,Zo7,eq_self,true_and]
  tactic =>
  refine endA ?_
  sym =>
  simp [Zpc,eq_self]
end Go.Proofs.Ytbmdahhhgpbchaa.SnH
