import Derived.Test.YtbmdahhhgpbchaaSnC
namespace Go.Proofs.Ytbmdahhhgpbchaa.SnD
open Go Go.Sim Go.Sim.E Go.RowKit Go.Proofs Go.Proofs.Ytbmdahhhgpbchaa.Cod Go.Proofs.Ytbmdahhhgpbchaa.Tab Go.Proofs.Ytbmdahhhgpbchaa.Bse Go.Proofs.Ytbmdahhhgpbchaa.SpnP Go.Proofs.Ytbmdahhhgpbchaa.SwA Go.Proofs.Ytbmdahhhgpbchaa.SwB Go.Proofs.Ytbmdahhhgpbchaa.SwC Go.Proofs.Ytbmdahhhgpbchaa.SwS Go.Proofs.Ytbmdahhhgpbchaa.SwD Go.Proofs.Ytbmdahhhgpbchaa.SwF Go.Proofs.Ytbmdahhhgpbchaa.SwG Go.Proofs.Ytbmdahhhgpbchaa.SwL Go.Proofs.Ytbmdahhhgpbchaa.ObA Go.Proofs.Ytbmdahhhgpbchaa.ObB Go.Proofs.Ytbmdahhhgpbchaa.ObC Go.Proofs.Ytbmdahhhgpbchaa.SnA Go.Proofs.Ytbmdahhhgpbchaa.SnB Go.Proofs.Ytbmdahhhgpbchaa.SnC
set_option linter.unusedVariables false
set_option linter.unusedSimpArgs false
set_option maxRecDepth 100000
set_option maxHeartbeats 4000000
theorem fc_tk (k : Int) (t : V 16) (es er o n : Int) (su : V 32) (d r : AV) (c : Int) : List.take 56 (fc k t es er o n su d r c) = fc k t es er o n su d r c := List.take_of_length_le (by rw [fc_len]; exact Nat.le_refl _)
theorem fc_okF (k : Int) (t : V 16) (es er o n : Int) (su : V 32) (a b : Nat) (x y : List AV) (c : Int) : okF (fc k t es er o n su (.fz a x) (.fz b y) c) := by
  rw [fc_split]
  intro z hz
  rcases List.mem_append.1 hz with hz | hz
  · simp only [List.mem_cons, List.mem_append] at hz
    rcases hz with rfl | hz | rfl | rfl | rfl | rfl | hz
    · rfl
    · exact cB_okF _ z hz
    · rfl
    · rfl
    · rfl
    · rfl
    · exact cB_okF _ z hz
  · simp only [List.mem_cons, List.not_mem_nil, or_false] at hz
    rcases hz with rfl | rfl | rfl <;> rfl
def i87 (x : Sn) (rs : List Rg) (k : Nat) (q : St) : Prop := ∃ i : Nat, i + k = rs.length ∧
  q = ⟨[(1, .pt 0 0), (2, .pt 1 0), (6, .lv 2 0 i), (18, fP x.os rs), (19, I (IN rs.length)), (20, I (IN i))], [(0, ⟨sn x, 1, 0⟩), (1, ⟨zF1, 1, 0⟩), (2, ⟨cF ((rs.take i).map (pcF x)), 56, 0⟩)], 3⟩
theorem pieces_con (x : Sn) (h : Inv x) : Con Try.prog 87 [] [.ag (sn x)] [] (.tu [.ag (sn (piF x).1), fF (piF x).2]) := by
  have hb := h.bd
  have hsay := say_con {x with o := (pollF x.t x.s (endF (lim 0) x.s) 9 x.o).2} 3
  have hp := poll_con x.os x.s x.o x.T x.t h.t (by have := h.os; omega) h.s h.o _ rfl
  have pln := poll_len (s := x.s) (b := endF (lim 0) x.s) (by omega : 0 ≤ x.t ∧ x.t ≤ 1099511627776) (h.s.base hb.1).1 h.o 9
  unfold piF
  generalize pollF x.t x.s (endF (lim 0) x.s) 9 x.o = R at *
  obtain ⟨rs, o2⟩ := R
  obtain ⟨y, hy⟩ : ∃ y, y = {x with o := o2} := ⟨_, rfl⟩
  have hpc : ∀ r, pcF y r = pcF x r := by rw [hy]; exact fun _ => rfl
  have hmap : List.map (pcF x) rs = List.map (pcF y) rs := List.map_congr_left (fun r _ => (hpc r).symm)
  simp only at hsay hp pln ⊢
  rw [← hy] at hsay
  rw [hmap]
  rw [← hy]
  obtain ⟨fs, hfs⟩ : ∃ fs, fs = List.map (pcF y) rs := ⟨_, rfl⟩
  rw [← hfs]
  rw [show fF fs = .fz rs.length (cF fs) from by unfold fF; rw [hfs, List.length_map]]
  obtain ⟨st, cd, src, su, tk, es, er, os, t, s, o, ⟨a, b, c⟩, ⟨a2, b2, c2⟩⟩ := x
  simp only [sn] at hp ⊢
  refine con_j b87 rfl ?_
  sym =>
  simp [Zaa,Zab,Zac,Zad,Zae,Zaf,Zag,Zah,Zai,Zak,Zal,Zam,Zan,Zap,Zaq,Zav,Zaw,Zay,Zaz,Za0,Za1,Za2,Za3,Za4,Za5,Za9,Zba,Zbb,Zbf,Zbm,Zbt,Zbu,Zbv,Zbw,Zb1,Zb7,Zcn,Zcv,Zcx,Zcz,Zc3,Zc4,Zc5,Zc7,Zc8,Zc9,Zdc,Zdd,Zde,Zdi,Zdo,Zdp,Zdt,Zdu,Zdv,Zdw,Zdx,Zdy,Zdz,Zd0,Zd1,Zd2,Zeb,Zek,Zev,Zew,Zez,Ze0,Ze1,Ze2,Ze3,Ze4,Ze5,Ze8,Zfb,Zfc,Zfd,Zfe,Zff,Zfg,Zfh,Zfn,Zfq,Zf1,Zgh,Zgi,Zgr,Zgs,Zgt,Zgu,Zgv,Zgw,Zgx,Zg4,Zg6,Zhb,Zhc,Zhf,Zhg,Zhh,Zho,Zh6,Zh7,Zin,Zio,Zip,Ziq,Zir,Ziu,Ziv,Ziw,Zix,Ziz,Zi0,Zi2,Zi3,Zi6,Zi7,Zjb,Zjh,Zji,Zjn,Zjs,Zj7,Zka,Zkv,Zkx,Zky,Zk0,Zk1,Zla,Zlb,Zlc,Zld,Zle,Zlf,Zlh,Zlj,Zlk,Zlm,Zlz,Zl2,Zmt,Zmv,Zmw,Zmx,Zmy,Zmz,Zm0,Zm1,Zm3,Zm5,Zm6,Zm7,Zm9,Zna,Znb,Zne,Znf,Zng,Znh,Znn,Zno,Znp,Znr,Zns,Znt,Znw,Zn5,Zof,Zog,Zos,Zot,Zo7,Zo8,Zo9,Zpc,Zpd,Zpg,Zpi,Zpo,Zpr,Zpu,Zpz,Zp1,Zp2,Zp7,Zp9,Zqd,Zqe,Zqf,Zqg,Zqh,Zqi,Zqj,Zqk,Zql,Zqm,Zqn,List.length_map,eq_self,true_and,and_true,Nat.zero_add,zF_fc,fs_19,fs_53,fp_f,rb_0,fc_len,fc_ok,flL_fz,zS_sc,sc_53,sc_54,sc_55,sc_56,sc_57,sc_58,sc_59,rd_0,ss_53,ss_54,ss_55,ss_56,ss_57,ss_58,ss_59,sp_0,sc_len,sc_ok,sc_rs,fz_sc,scF1,callable_32]
  tactic =>
  refine cl none (hp) trivial ?_
  sym =>
  simp [Zaa,Zab,Zac,Zad,Zae,Zaf,Zag,Zah,Zai,Zak,Zal,Zam,Zan,Zap,Zaq,Zav,Zaw,Zay,Zaz,Za0,Za1,Za2,Za3,Za4,Za5,Za9,Zba,Zbb,Zbf,Zbm,Zbt,Zbu,Zbv,Zbw,Zb1,Zb7,Zcn,Zcv,Zcx,Zcz,Zc3,Zc4,Zc5,Zc7,Zc8,Zc9,Zdc,Zdd,Zde,Zdi,Zdo,Zdp,Zdt,Zdu,Zdv,Zdw,Zdx,Zdy,Zdz,Zd0,Zd1,Zd2,Zeb,Zek,Zev,Zew,Zez,Ze0,Ze1,Ze2,Ze3,Ze4,Ze5,Ze8,Zfb,Zfc,Zfd,Zfe,Zff,Zfg,Zfh,Zfn,Zfq,Zf1,Zgh,Zgi,Zgr,Zgs,Zgt,Zgu,Zgv,Zgw,Zgx,Zg4,Zg6,Zhb,Zhc,Zhf,Zhg,Zhh,Zho,Zh6,Zh7,Zin,Zio,Zip,Ziq,Zir,Ziu,Ziv,Ziw,Zix,Ziz,Zi0,Zi2,Zi3,Zi6,Zi7,Zjb,Zjh,Zji,Zjn,Zjs,Zj7,Zka,Zkv,Zkx,Zky,Zk0,Zk1,Zla,Zlb,Zlc,Zld,Zle,Zlf,Zlh,Zlj,Zlk,Zlm,Zlz,Zl2,Zmt,Zmv,Zmw,Zmx,Zmy,Zmz,Zm0,Zm1,Zm3,Zm5,Zm6,Zm7,Zm9,Zna,Znb,Zne,Znf,Zng,Znh,Znn,Zno,Znp,Znr,Zns,Znt,Znw,Zn5,Zof,Zog,Zos,Zot,Zo7,Zo8,Zo9,Zpc,Zpd,Zpg,Zpi,Zpo,Zpr,Zpu,Zpz,Zp1,Zp2,Zp7,Zp9,Zqd,Zqe,Zqf,Zqg,Zqh,Zqi,Zqj,Zqk,Zql,Zqm,Zqn,List.length_map,eq_self,true_and,and_true,Nat.zero_add,zF_fc,fs_19,fs_53,fp_f,rb_0,fc_len,fc_ok,flL_fz,zS_sc,sc_53,sc_54,sc_55,sc_56,sc_57,sc_58,sc_59,rd_0,ss_53,ss_54,ss_55,ss_56,ss_57,ss_58,ss_59,sp_0,sc_len,sc_ok,sc_rs,fz_sc,scF1]
  tactic =>
  refine lpA (i87 y rs) rs.length [(0, 0), (1, 1)] _ ⟨0, by omega, rfl⟩ (wkA ?_) ?_
  · rw [hy]
    simp only [sn]
    sym =>
    simp [Zaa,Zab,Zac,Zad,Zae,Zaf,Zag,Zah,Zai,Zak,Zal,Zam,Zan,Zap,Zaq,Zav,Zaw,Zay,Zaz,Za0,Za1,Za2,Za3,Za4,Za5,Za9,Zba,Zbb,Zbf,Zbm,Zbt,Zbu,Zbv,Zbw,Zb1,Zb7,Zcn,Zcv,Zcx,Zcz,Zc3,Zc4,Zc5,Zc7,Zc8,Zc9,Zdc,Zdd,Zde,Zdi,Zdo,Zdp,Zdt,Zdu,Zdv,Zdw,Zdx,Zdy,Zdz,Zd0,Zd1,Zd2,Zeb,Zek,Zev,Zew,Zez,Ze0,Ze1,Ze2,Ze3,Ze4,Ze5,Ze8,Zfb,Zfc,Zfd,Zfe,Zff,Zfg,Zfh,Zfn,Zfq,Zf1,Zgh,Zgi,Zgr,Zgs,Zgt,Zgu,Zgv,Zgw,Zgx,Zg4,Zg6,Zhb,Zhc,Zhf,Zhg,Zhh,Zho,Zh6,Zh7,Zin,Zio,Zip,Ziq,Zir,Ziu,Ziv,Ziw,Zix,Ziz,Zi0,Zi2,Zi3,Zi6,Zi7,Zjb,Zjh,Zji,Zjn,Zjs,Zj7,Zka,Zkv,Zkx,Zky,Zk0,Zk1,Zla,Zlb,Zlc,Zld,Zle,Zlf,Zlh,Zlj,Zlk,Zlm,Zlz,Zl2,Zmt,Zmv,Zmw,Zmx,Zmy,Zmz,Zm0,Zm1,Zm3,Zm5,Zm6,Zm7,Zm9,Zna,Znb,Zne,Znf,Zng,Znh,Znn,Zno,Znp,Znr,Zns,Znt,Znw,Zn5,Zof,Zog,Zos,Zot,Zo7,Zo8,Zo9,Zpc,Zpd,Zpg,Zpi,Zpo,Zpr,Zpu,Zpz,Zp1,Zp2,Zp7,Zp9,Zqd,Zqe,Zqf,Zqg,Zqh,Zqi,Zqj,Zqk,Zql,Zqm,Zqn,List.length_map,eq_self,true_and,and_true,Nat.zero_add,zF_fc,fs_19,fs_53,fp_f,rb_0,fc_len,fc_ok,flL_fz,zS_sc,sc_53,sc_54,sc_55,sc_56,sc_57,sc_58,sc_59,rd_0,ss_53,ss_54,ss_55,ss_56,ss_57,ss_58,ss_59,sp_0,sc_len,sc_ok,sc_rs,fz_sc,scF1]
    tactic =>
    rfl
  rintro k q ⟨i, hi, rfl⟩
  clear hy hmap hpc
  obtain ⟨yst, ycd, ysrc, ysu, ytk, yes, yer, yos, yt, ys, yo, ⟨ya, yb, yc⟩, ⟨ya2, yb2, yc2⟩⟩ := y
  obtain ⟨G, hG⟩ : ∃ G, G = pcF ⟨yst, ycd, ysrc, ysu, ytk, yes, yer, yos, yt, ys, yo, ⟨ya, yb, yc⟩, ⟨ya2, yb2, yc2⟩⟩ := ⟨_, rfl⟩
  rw [← hG] at hfs ⊢
  have hGr : ∀ r, fr (G r) = fc 3 ytk yes yer (IntKind.u64.wrap r.1) 0 z32 (fB (pc yos r)) (fQ []) 0 := fun r => by rw [hG]; rfl
  simp only [sn] at hsay ⊢
  by_cases h : i < rs.length
  · have hw := w64s i (by omega)
    have p0 := cP_q0 yos rs i h
    have p1 := cP_q1 yos rs i h
    have ht : cF ((rs.take (i + 1)).map G) = cF ((rs.take i).map G) ++ fr (G rs[i]) := by rw [take_one rs i h, List.map_append, List.map_singleton, cF_snoc]
    have hl : (cF ((rs.take i).map G)).length = i * 56 := by rw [cF_length, List.length_map, List.length_take]; omega
    sym =>
    simp [Zaa,Zab,Zac,Zad,Zae,Zaf,Zag,Zah,Zai,Zak,Zal,Zam,Zan,Zap,Zaq,Zav,Zaw,Zay,Zaz,Za0,Za1,Za2,Za3,Za4,Za5,Za9,Zba,Zbb,Zbf,Zbm,Zbt,Zbu,Zbv,Zbw,Zb1,Zb7,Zcn,Zcv,Zcx,Zcz,Zc3,Zc4,Zc5,Zc7,Zc8,Zc9,Zdc,Zdd,Zde,Zdi,Zdo,Zdp,Zdt,Zdu,Zdv,Zdw,Zdx,Zdy,Zdz,Zd0,Zd1,Zd2,Zeb,Zek,Zev,Zew,Zez,Ze0,Ze1,Ze2,Ze3,Ze4,Ze5,Ze8,Zfb,Zfc,Zfd,Zfe,Zff,Zfg,Zfh,Zfn,Zfq,Zf1,Zgh,Zgi,Zgr,Zgs,Zgt,Zgu,Zgv,Zgw,Zgx,Zg4,Zg6,Zhb,Zhc,Zhf,Zhg,Zhh,Zho,Zh6,Zh7,Zin,Zio,Zip,Ziq,Zir,Ziu,Ziv,Ziw,Zix,Ziz,Zi0,Zi2,Zi3,Zi6,Zi7,Zjb,Zjh,Zji,Zjn,Zjs,Zj7,Zka,Zkv,Zkx,Zky,Zk0,Zk1,Zla,Zlb,Zlc,Zld,Zle,Zlf,Zlh,Zlj,Zlk,Zlm,Zlz,Zl2,Zmt,Zmv,Zmw,Zmx,Zmy,Zmz,Zm0,Zm1,Zm3,Zm5,Zm6,Zm7,Zm9,Zna,Znb,Zne,Znf,Zng,Znh,Znn,Zno,Znp,Znr,Zns,Znt,Znw,Zn5,Zof,Zog,Zos,Zot,Zo7,Zo8,Zo9,Zpc,Zpd,Zpg,Zpi,Zpo,Zpr,Zpu,Zpz,Zp1,Zp2,Zp7,Zp9,Zqd,Zqe,Zqf,Zqg,Zqh,Zqi,Zqj,Zqk,Zql,Zqm,Zqn,List.length_map,eq_self,true_and,and_true,Nat.zero_add,zF_fc,fs_19,fs_53,fp_f,rb_0,fc_len,fc_ok,flL_fz,zS_sc,sc_53,sc_54,sc_55,sc_56,sc_57,sc_58,sc_59,rd_0,ss_53,ss_54,ss_55,ss_56,ss_57,ss_58,ss_59,sp_0,sc_len,sc_ok,sc_rs,fz_sc,scF1,h,hw,p0,p1,cP_length,callable_120]
    tactic =>
    refine ⟨by omega, by omega, ?_⟩
    generalize rs[i] = r at *
    refine cl none (hsay) trivial ?_
    simp only [sayF, fr]
    sym =>
    simp [Zaa,Zab,Zac,Zad,Zae,Zaf,Zag,Zah,Zai,Zak,Zal,Zam,Zan,Zap,Zaq,Zav,Zaw,Zay,Zaz,Za0,Za1,Za2,Za3,Za4,Za5,Za9,Zba,Zbb,Zbf,Zbm,Zbt,Zbu,Zbv,Zbw,Zb1,Zb7,Zcn,Zcv,Zcx,Zcz,Zc3,Zc4,Zc5,Zc7,Zc8,Zc9,Zdc,Zdd,Zde,Zdi,Zdo,Zdp,Zdt,Zdu,Zdv,Zdw,Zdx,Zdy,Zdz,Zd0,Zd1,Zd2,Zeb,Zek,Zev,Zew,Zez,Ze0,Ze1,Ze2,Ze3,Ze4,Ze5,Ze8,Zfb,Zfc,Zfd,Zfe,Zff,Zfg,Zfh,Zfn,Zfq,Zf1,Zgh,Zgi,Zgr,Zgs,Zgt,Zgu,Zgv,Zgw,Zgx,Zg4,Zg6,Zhb,Zhc,Zhf,Zhg,Zhh,Zho,Zh6,Zh7,Zin,Zio,Zip,Ziq,Zir,Ziu,Ziv,Ziw,Zix,Ziz,Zi0,Zi2,Zi3,Zi6,Zi7,Zjb,Zjh,Zji,Zjn,Zjs,Zj7,Zka,Zkv,Zkx,Zky,Zk0,Zk1,Zla,Zlb,Zlc,Zld,Zle,Zlf,Zlh,Zlj,Zlk,Zlm,Zlz,Zl2,Zmt,Zmv,Zmw,Zmx,Zmy,Zmz,Zm0,Zm1,Zm3,Zm5,Zm6,Zm7,Zm9,Zna,Znb,Zne,Znf,Zng,Znh,Znn,Zno,Znp,Znr,Zns,Znt,Znw,Zn5,Zof,Zog,Zos,Zot,Zo7,Zo8,Zo9,Zpc,Zpd,Zpg,Zpi,Zpo,Zpr,Zpu,Zpz,Zp1,Zp2,Zp7,Zp9,Zqd,Zqe,Zqf,Zqg,Zqh,Zqi,Zqj,Zqk,Zql,Zqm,Zqn,List.length_map,eq_self,true_and,and_true,Nat.zero_add,zF_fc,fs_19,fs_53,fp_f,rb_0,fc_len,fc_ok,flL_fz,zS_sc,sc_53,sc_54,sc_55,sc_56,sc_57,sc_58,sc_59,rd_0,ss_53,ss_54,ss_55,ss_56,ss_57,ss_58,ss_59,sp_0,sc_len,sc_ok,sc_rs,fz_sc,scF1,hw,hl,fc_tk]
    tactic =>
    refine ⟨⟨fc_okF _ _ _ _ _ _ _ _ _ _ _ _, by omega, by omega, by omega⟩, ?_⟩
    unfold NextL; refine ⟨(k - 1), [(0, 0), (1, 1), (2, 24)], _, by omega, ⟨i + 1, by omega, rfl⟩, wkA ?_⟩
    have hg := hGr r
    simp only [sn]
    rw [← hG, ht, hg]
    sym =>
    simp [Zaa,Zab,Zac,Zad,Zae,Zaf,Zag,Zah,Zai,Zak,Zal,Zam,Zan,Zap,Zaq,Zav,Zaw,Zay,Zaz,Za0,Za1,Za2,Za3,Za4,Za5,Za9,Zba,Zbb,Zbf,Zbm,Zbt,Zbu,Zbv,Zbw,Zb1,Zb7,Zcn,Zcv,Zcx,Zcz,Zc3,Zc4,Zc5,Zc7,Zc8,Zc9,Zdc,Zdd,Zde,Zdi,Zdo,Zdp,Zdt,Zdu,Zdv,Zdw,Zdx,Zdy,Zdz,Zd0,Zd1,Zd2,Zeb,Zek,Zev,Zew,Zez,Ze0,Ze1,Ze2,Ze3,Ze4,Ze5,Ze8,Zfb,Zfc,Zfd,Zfe,Zff,Zfg,Zfh,Zfn,Zfq,Zf1,Zgh,Zgi,Zgr,Zgs,Zgt,Zgu,Zgv,Zgw,Zgx,Zg4,Zg6,Zhb,Zhc,Zhf,Zhg,Zhh,Zho,Zh6,Zh7,Zin,Zio,Zip,Ziq,Zir,Ziu,Ziv,Ziw,Zix,Ziz,Zi0,Zi2,Zi3,Zi6,Zi7,Zjb,Zjh,Zji,Zjn,Zjs,Zj7,Zka,Zkv,Zkx,Zky,Zk0,Zk1,Zla,Zlb,Zlc,Zld,Zle,Zlf,Zlh,Zlj,Zlk,Zlm,Zlz,Zl2,Zmt,Zmv,Zmw,Zmx,Zmy,Zmz,Zm0,Zm1,Zm3,Zm5,Zm6,Zm7,Zm9,Zna,Znb,Zne,Znf,Zng,Znh,Znn,Zno,Znp,Znr,Zns,Znt,Znw,Zn5,Zof,Zog,Zos,Zot,Zo7,Zo8,Zo9,Zpc,Zpd,Zpg,Zpi,Zpo,Zpr,Zpu,Zpz,Zp1,Zp2,Zp7,Zp9,Zqd,Zqe,Zqf,Zqg,Zqh,Zqi,Zqj,Zqk,Zql,Zqm,Zqn,List.length_map,eq_self,true_and,and_true,Nat.zero_add,zF_fc,fs_19,fs_53,fp_f,rb_0,fc_len,fc_ok,flL_fz,zS_sc,sc_53,sc_54,sc_55,sc_56,sc_57,sc_58,sc_59,rd_0,ss_53,ss_54,ss_55,ss_56,ss_57,ss_58,ss_59,sp_0,sc_len,sc_ok,sc_rs,fz_sc,scF1]
    tactic =>
    exact rs_self (by have h9 := cF_okI ((rs.take i).map G ++ [G r]); rw [cF_snoc, hg] at h9; exact h9)
  · have e : rs.take i = rs := List.take_of_length_le (by omega)
    have ei : i = rs.length := by omega
    subst ei
    rw [e, ← hfs]
    sym =>
    simp [Zaa,Zab,Zac,Zad,Zae,Zaf,Zag,Zah,Zai,Zak,Zal,Zam,Zan,Zap,Zaq,Zav,Zaw,Zay,Zaz,Za0,Za1,Za2,Za3,Za4,Za5,Za9,Zba,Zbb,Zbf,Zbm,Zbt,Zbu,Zbv,Zbw,Zb1,Zb7,Zcn,Zcv,Zcx,Zcz,Zc3,Zc4,Zc5,Zc7,Zc8,Zc9,Zdc,Zdd,Zde,Zdi,Zdo,Zdp,Zdt,Zdu,Zdv,Zdw,Zdx,Zdy,Zdz,Zd0,Zd1,Zd2,Zeb,Zek,Zev,Zew,Zez,Ze0,Ze1,Ze2,Ze3,Ze4,Ze5,Ze8,Zfb,Zfc,Zfd,Zfe,Zff,Zfg,Zfh,Zfn,Zfq,Zf1,Zgh,Zgi,Zgr,Zgs,Zgt,Zgu,Zgv,Zgw,Zgx,Zg4,Zg6,Zhb,Zhc,Zhf,Zhg,Zhh,Zho,Zh6,Zh7,Zin,Zio,Zip,Ziq,Zir,Ziu,Ziv,Ziw,Zix,Ziz,Zi0,Zi2,Zi3,Zi6,Zi7,Zjb,Zjh,Zji,Zjn,Zjs,Zj7,Zka,Zkv,Zkx,Zky,Zk0,Zk1,Zla,Zlb,Zlc,Zld,Zle,Zlf,Zlh,Zlj,Zlk,Zlm,Zlz,Zl2,Zmt,Zmv,Zmw,Zmx,Zmy,Zmz,Zm0,Zm1,Zm3,Zm5,Zm6,Zm7,Zm9,Zna,Znb,Zne,Znf,Zng,Znh,Znn,Zno,Znp,Znr,Zns,Znt,Znw,Zn5,Zof,Zog,Zos,Zot,Zo7,Zo8,Zo9,Zpc,Zpd,Zpg,Zpi,Zpo,Zpr,Zpu,Zpz,Zp1,Zp2,Zp7,Zp9,Zqd,Zqe,Zqf,Zqg,Zqh,Zqi,Zqj,Zqk,Zql,Zqm,Zqn,List.length_map,eq_self,true_and,and_true,Nat.zero_add,zF_fc,fs_19,fs_53,fp_f,rb_0,fc_len,fc_ok,flL_fz,zS_sc,sc_53,sc_54,sc_55,sc_56,sc_57,sc_58,sc_59,rd_0,ss_53,ss_54,ss_55,ss_56,ss_57,ss_58,ss_59,sp_0,sc_len,sc_ok,sc_rs,fz_sc,scF1,h]
    tactic =>
    refine endA ?_
    sym =>
    simp [Zaa,Zab,Zac,Zad,Zae,Zaf,Zag,Zah,Zai,Zak,Zal,Zam,Zan,Zap,Zaq,Zav,Zaw,Zay,Zaz,Za0,Za1,Za2,Za3,Za4,Za5,Za9,Zba,Zbb,Zbf,Zbm,Zbt,Zbu,Zbv,Zbw,Zb1,Zb7,Zcn,Zcv,Zcx,Zcz,Zc3,Zc4,Zc5,Zc7,Zc8,Zc9,Zdc,Zdd,Zde,Zdi,Zdo,Zdp,Zdt,Zdu,Zdv,Zdw,Zdx,Zdy,Zdz,Zd0,Zd1,Zd2,Zeb,Zek,Zev,Zew,Zez,Ze0,Ze1,Ze2,Ze3,Ze4,Ze5,Ze8,Zfb,Zfc,Zfd,Zfe,Zff,Zfg,Zfh,Zfn,Zfq,Zf1,Zgh,Zgi,Zgr,Zgs,Zgt,Zgu,Zgv,Zgw,Zgx,Zg4,Zg6,Zhb,Zhc,Zhf,Zhg,Zhh,Zho,Zh6,Zh7,Zin,Zio,Zip,Ziq,Zir,Ziu,Ziv,Ziw,Zix,Ziz,Zi0,Zi2,Zi3,Zi6,Zi7,Zjb,Zjh,Zji,Zjn,Zjs,Zj7,Zka,Zkv,Zkx,Zky,Zk0,Zk1,Zla,Zlb,Zlc,Zld,Zle,Zlf,Zlh,Zlj,Zlk,Zlm,Zlz,Zl2,Zmt,Zmv,Zmw,Zmx,Zmy,Zmz,Zm0,Zm1,Zm3,Zm5,Zm6,Zm7,Zm9,Zna,Znb,Zne,Znf,Zng,Znh,Znn,Zno,Znp,Znr,Zns,Znt,Znw,Zn5,Zof,Zog,Zos,Zot,Zo7,Zo8,Zo9,Zpc,Zpd,Zpg,Zpi,Zpo,Zpr,Zpu,Zpz,Zp1,Zp2,Zp7,Zp9,Zqd,Zqe,Zqf,Zqg,Zqh,Zqi,Zqj,Zqk,Zql,Zqm,Zqn,List.length_map,eq_self,true_and,and_true,Nat.zero_add,zF_fc,fs_19,fs_53,fp_f,rb_0,fc_len,fc_ok,flL_fz,zS_sc,sc_53,sc_54,sc_55,sc_56,sc_57,sc_58,sc_59,rd_0,ss_53,ss_54,ss_55,ss_56,ss_57,ss_58,ss_59,sp_0,sc_len,sc_ok,sc_rs,fz_sc,scF1]
    tactic =>
    have hl2 : (cF fs).length = rs.length * 56 := by rw [cF_length, hfs, List.length_map]
    exact ⟨(List.take_of_length_le (by omega)).symm, by omega, cF_okI _⟩
theorem fires_con (x : Sn) (h : Inv x) (k : Int) : Con Try.prog 86 [] [.ag (sn x), I k] [] (.tu [.ag (sn (fiF x k).1), fF (fiF x k).2]) := by
  have hs := h.src
  have hwh := whole_con (fiF x k).1 k (by show x.src.length ≤ 100000; omega)
  have htk := ttick_con x.T2 h.T2
  have e : whF (fiF x k).1 k = whF x k := rfl
  rw [e] at hwh
  unfold fiF at hwh ⊢
  obtain ⟨st, cd, src, su, tk, es, er, os, t, s, o, ⟨a, b, c⟩, ⟨a2, b2, c2⟩⟩ := x
  simp only [sn] at hwh htk ⊢
  refine con_j b86 rfl ?_
  sym =>
  simp [Zab,Zad,Zam,Zaz,Za0,Za1,Za2,Za3,Za4,Za5,Za9,Zba,Zbb,Zbt,Zbv,Zcv,Zcx,Zdc,Zdd,Zde,Zev,Zew,Zez,Ze0,Ze2,Ze3,Ze5,Ze8,Zfc,Zfd,Zfe,Zfh,Zgr,Zgs,Zgt,Zgv,Zgw,Zgx,Zin,Zio,Zip,Zi6,Zla,Zlb,Zlc,Zld,Zle,Zlf,Zlh,Zlk,Zm5,Zm7,Zna,Znb,Zne,Znf,Zng,Zos,Zot,Zo7,eq_self,true_and,and_true,zS_sc,sc_60,sc_61,sc_62,sc_len,callable_74]
  tactic =>
  refine cl none (htk) trivial ?_
  by_cases h2 : (tkF (a2, b2, c2)).2 = true
  · rw [if_pos h2]
    sym =>
    simp [Zaa,Zab,Zac,Zad,Zae,Zaf,Zal,Zam,Zaz,Za0,Za1,Za2,Za3,Za4,Za5,Za9,Zba,Zbb,Zbc,Zbj,Zbt,Zbu,Zbv,Zb7,Zcv,Zc3,Zc7,Zc8,Zdf,Zdg,Zdh,Zdi,Zdp,Zdt,Zdu,Zdv,Zdw,Zdx,Zdy,Zdz,Zd0,Zd1,Zd2,Zec,Zek,Zen,Zeq,Zet,Zev,Zew,Zez,Ze0,Ze1,Ze2,Ze3,Ze5,Ze8,Zfc,Zfd,Zfe,Zfh,Zgd,Zgg,Zgr,Zgs,Zgt,Zgv,Zgw,Zgx,Zhb,Zhc,Zin,Ziu,Ziv,Ziw,Zi6,Zjh,Zji,Zjn,Zjq,Zjs,Zjv,Zkw,Zkx,Zky,Zkz,Zk0,Zk1,Zk2,Zla,Zlb,Zle,Zlf,Zlh,Zlj,Zlm,Zlz,Zm5,Zm7,Zm9,Zna,Znb,Zne,Znf,Zng,Znn,Zno,Znp,Zo3,Zo7,eq_self,true_and,and_true,rd_0,ss_60,ss_61,ss_62,sc_len,sc_id,fz_sc,scF1,h2,callable_119]
    tactic =>
    refine cl none (hwh) trivial ?_
    sym =>
    simp [Zak,Zam,Zaz,Za0,Za1,Za2,Za3,Zbc,Zc4,Zc7,Zc8,Zc9,Zdj,Zdk,Zdm,Zdo,Zdp,Zdt,Zdu,Zdv,Zdw,Zdx,Zdy,Zdz,Zd0,Zd1,Zeb,Zec,Zek,Zen,Zev,Zez,Ze0,Ze1,Ze2,Ze3,Ze5,Zfc,Zfd,Zfe,Zfh,Ziu,Ziv,Ziw,Zi6,Zjh,Zji,Zj7,Zkb,Zlz,Zl2,Zmt,Zmv,Zmw,Zmx,Zmy,Zmz,Zm0,Zm1,Zm3,Zm5,Zna,Znb,Zne,Zo7,eq_self,true_and,and_true,rd_0,sp_0,sc_len,sc_ok,sc_id]
    tactic =>
    refine endA ?_
    sym =>
    simp [Zpg,Zph,Zp7,Zp9,Zqd,Zqe,eq_self,and_true,sc_rs]
  · rw [if_neg h2]
    have h2 : (tkF (a2, b2, c2)).2 = false := by cases hh : (tkF (a2, b2, c2)).2; rfl; exact absurd hh h2
    sym =>
    simp [Zab,Zad,Zae,Zaf,Zak,Zal,Zam,Zao,Zaz,Za0,Za1,Za2,Za3,Za4,Za5,Za9,Zba,Zbb,Zbj,Zbt,Zbv,Zb7,Zcv,Zc3,Zdi,Zev,Zew,Zez,Ze0,Ze1,Ze2,Ze3,Ze5,Ze8,Zfc,Zfd,Zfe,Zfh,Zgd,Zgg,Zgr,Zgs,Zgt,Zgv,Zgw,Zgx,Zhb,Zhc,Zin,Ziu,Ziv,Ziw,Zi6,Zjh,Zji,Zjn,Zjq,Zjs,Zjv,Zj7,Zkw,Zkx,Zky,Zkz,Zk0,Zk1,Zk2,Zlz,Zmt,Zmv,Zmw,Zmx,Zmy,Zmz,Zm0,Zm1,Zm3,Zm5,Zm7,Zm9,Zna,Znb,Znn,Zno,Znp,Zo4,Zo7,eq_self,true_and,and_true,rd_0,ss_60,ss_61,ss_62,sp_0,sc_len,sc_ok,h2]
    tactic =>
    refine endA ?_
    sym =>
    simp [Zpg,Zpw,Zp7,Zp9,Zqd,Zqe,eq_self,true_and,and_true,sc_rs]
    tactic =>
    rfl
end Go.Proofs.Ytbmdahhhgpbchaa.SnD
