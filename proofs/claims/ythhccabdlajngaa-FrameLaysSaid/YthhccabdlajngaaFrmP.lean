import Derived.Test.YthhccabdlajngaaFrmO
namespace Go.Proofs.Ythhccabdlajngaa.FrmP
open Go Go.Sim Go.Sim.E Go.RowKit Go.Proofs Go.Proofs.Ythhccabdlajngaa.Cod Go.Proofs.Ythhccabdlajngaa.Tab Go.Proofs.Ythhccabdlajngaa.Bse Go.Proofs.Ythhccabdlajngaa.Krc Go.Proofs.Ythhccabdlajngaa.FrmA Go.Proofs.Ythhccabdlajngaa.FrmB Go.Proofs.Ythhccabdlajngaa.FrmC Go.Proofs.Ythhccabdlajngaa.FrmD Go.Proofs.Ythhccabdlajngaa.FrmE Go.Proofs.Ythhccabdlajngaa.FrmF Go.Proofs.Ythhccabdlajngaa.FrmN Go.Proofs.Ythhccabdlajngaa.FrmO Go.Proofs.Ythhccabdlajngaa.FrmO
set_option linter.unusedVariables false
set_option linter.unusedSimpArgs false
set_option maxRecDepth 100000
set_option maxHeartbeats 4000000
theorem okF_beN (w : Nat) (n : Int) : okF (cB (beN w n)) := cB_okF _
def u64R (x : Int) : Prop := 0 ≤ x ∧ x < 18446744073709551616
theorem rnumber_con' (n : Int) (w : Nat) (wi : Int) (hwi : wi = IN w) (hw : w ≤ 8) (h0 : u64R n) : Con Try.prog 29 [] [L n, I wi] [] (.fz w (cB (beN w n))) := by
  subst hwi
  have := rnumber_con n w hw h0
  simp only [fB, beN_length] at this
  exact this
theorem cBb_length (w : Nat) (n : Int) : (cB (beN w n)).length = w := by rw [cB_length, beN_length]
def i11 (g : List AV) (b : List Int) (r : List Rg) (k : Nat) (s : St) : Prop := ∃ i : Nat, i + k = r.length ∧ s = ⟨[(1, .pt 0 0), (5, .lv 1 0 (b.length + 16 * i)), (6, I (IN i))], [(0, ⟨g, 1, 0⟩), (1, ⟨cB (b ++ rgB (r.take i)), 1, 0⟩)], 2⟩
theorem rlay_con (f : Fm) (hd : f.d.length ≤ 5000) (hr : f.r.length ≤ 5000) (ht : byt8 f.t.1) (hs : byt8 f.su.1) (hdb : byt8 f.d) (h1 : 0 ≤ f.es ∧ f.es < 4294967296) (h2 : 0 ≤ f.er ∧ f.er < 4294967296) (ho : u64R f.o) (hn : u64R f.n) (hrr : ∀ p ∈ f.r, u64R p.1 ∧ u64R p.2) : Con Try.prog 11 [] [.ag (fr f)] [] (.tu [fB (layF f).1, I (layF f).2]) := by
  obtain ⟨k, t, es, er, o, n, su, d, r, c⟩ := f
  simp only at hd hr h1 h2 ho hn hrr
  have hmay := rmay_con ⟨k, t, es, er, o, n, su, d, r, c⟩ (Nat.le_trans hr (by decide))
  have hhb := hdB_byt ⟨k, t, es, er, o, n, su, d, r, c⟩ ht
  have hbb := bare_byt ⟨k, t, es, er, o, n, su, d, r, c⟩ hs hdb
  have hbb2 := bodyF_byt _ hbb.1 hbb.2
  have hbln := bodyF_len (bare ⟨k, t, es, er, o, n, su, d, r, c⟩)
  have hbl := bare_len ⟨k, t, es, er, o, n, su, d, r, c⟩
  simp only at hbl
  have hmark := rmark_con es er h1 h2
  obtain ⟨R, hR⟩ : ∃ R, R = layF ⟨k, t, es, er, o, n, su, d, r, c⟩ := ⟨_, rfl⟩
  rw [← hR]
  unfold layF at hR
  simp only [fr] at hmay ⊢
  obtain ⟨M, hM⟩ : ∃ M, M = mayF ⟨k, t, es, er, o, n, su, d, r, c⟩ := ⟨_, rfl⟩
  rw [← hM] at hmay hR
  refine con_j b11 rfl ?_
  sym =>
  simp [Zaa,Zab,Zac,Zad,Zae,Zaf,Zag,Zah,Zai,Zak,Zal,Zam,Zan,Zao,Zap,Zaq,Zav,Zaw,Zay,Zaz,Za0,Za1,Za2,Za3,Za4,Za5,Za9,Zba,Zbb,Zbc,Zbf,Zbl,Zbm,Zbt,Zbu,Zbv,Zbw,Zb2,Zck,Zcn,Zcx,Zcz,Zc0,Zc5,Zc6,Zc7,Zc8,Zc9,Zdc,Zdd,Zde,Zdf,Zdg,Zdh,Zdi,Zdj,Zdk,Zdm,Zdo,Zdp,Zdt,Zdu,Zdv,Zdw,Zdx,Zdy,Zdz,Zd0,Zd1,Zd2,Zd3,Zeb,Zee,Zeh,Zek,Zen,Zeq,Zer,Zes,Zet,Zev,Zew,Zez,Ze0,Ze2,Ze3,Ze4,Ze5,Ze8,Ze9,Zfc,Zfd,Zfe,Zff,Zfg,Zfh,Zfn,Zfq,Zfz,Zf0,Zf1,Zgh,Zgi,Zgr,Zgs,Zgt,Zgu,Zgv,Zgw,Zgx,Zgy,Zg4,Zg6,Zhf,Zhg,Zhh,Zhm,Zho,Zh1,Zh2,Zh3,Zh6,Zh7,Zio,Zip,Ziq,Zir,Zix,Ziz,Zi0,Zi1,Zi2,Zi3,Zi6,Zi7,Zjj,Zjk,Zjo,Zjr,Zkb,Zla,Zlb,Zlc,Zld,Zle,Zlf,Zlh,Zlj,Zlk,Zlm,Zlt,Zlx,Zlz,Zl2,Zl3,Zl4,Zmt,Zmv,Zmw,Zmx,Zmz,Zm3,Zm5,Zm6,Zm7,Zna,Znb,Znc,Znd,Zne,Znf,Zng,Znh,Znl,Znm,Znn,Zno,Znp,Znr,Zns,Znt,Znw,Zn5,Zob,Zoc,Zof,Zog,Zrd,Zos,Zot,Zo3,Zo4,Zo7,Zo8,Zo9,Zpb,Zpc,Zpg,Zph,Zpo,Zpu,Zpw,Zp9,Zqd,Zqe,Zqf,Zqg,Zqh,Zqi,Zqk,Zql,Zqm,Zqn,List.append_assoc,List.length_append,eq_self,true_and,and_true,Nat.zero_add,Nat.add_zero,Nat.mul_one,zF_fc,fc_0,fc_17,fc_18,fc_19,fc_20,fc_53,fc_54,fc_55,fs_0,fs_17,fs_18,fs_19,fs_20,fs_53,fs_54,fs_55,fp_1,fp_21,fp_f,rb_1,rb_21,rb_0,fc_len,fc_ok,fc_id,fc_rs,v16,v32,cB_cells,fz_fc,fcF1,callable_27]
  tactic =>
  refine cl none (hmay) trivial ?_
  by_cases h0 : M = 0
  rotate_left
  · rw [if_neg h0] at hR
    subst hR
    sym =>
    simp [Zaa,Zab,Zac,Zad,Zae,Zaf,Zag,Zah,Zai,Zak,Zal,Zam,Zan,Zao,Zap,Zaq,Zav,Zaw,Zay,Zaz,Za0,Za1,Za2,Za3,Za4,Za5,Za9,Zba,Zbb,Zbc,Zbf,Zbl,Zbm,Zbt,Zbu,Zbv,Zbw,Zb2,Zck,Zcn,Zcx,Zcz,Zc0,Zc5,Zc6,Zc7,Zc8,Zc9,Zdc,Zdd,Zde,Zdf,Zdg,Zdh,Zdi,Zdj,Zdk,Zdm,Zdo,Zdp,Zdt,Zdu,Zdv,Zdw,Zdx,Zdy,Zdz,Zd0,Zd1,Zd2,Zd3,Zeb,Zee,Zeh,Zek,Zen,Zeq,Zer,Zes,Zet,Zev,Zew,Zez,Ze0,Ze2,Ze3,Ze4,Ze5,Ze8,Ze9,Zfc,Zfd,Zfe,Zff,Zfg,Zfh,Zfn,Zfq,Zfz,Zf0,Zf1,Zgh,Zgi,Zgr,Zgs,Zgt,Zgu,Zgv,Zgw,Zgx,Zgy,Zg4,Zg6,Zhf,Zhg,Zhh,Zhm,Zho,Zh1,Zh2,Zh3,Zh6,Zh7,Zio,Zip,Ziq,Zir,Zix,Ziz,Zi0,Zi1,Zi2,Zi3,Zi6,Zi7,Zjj,Zjk,Zjo,Zjr,Zkb,Zla,Zlb,Zlc,Zld,Zle,Zlf,Zlh,Zlj,Zlk,Zlm,Zlt,Zlx,Zlz,Zl2,Zl3,Zl4,Zmt,Zmv,Zmw,Zmx,Zmz,Zm3,Zm5,Zm6,Zm7,Zna,Znb,Znc,Znd,Zne,Znf,Zng,Znh,Znl,Znm,Znn,Zno,Znp,Znr,Zns,Znt,Znw,Zn5,Zob,Zoc,Zof,Zog,Zrd,Zos,Zot,Zo3,Zo4,Zo7,Zo8,Zo9,Zpb,Zpc,Zpg,Zph,Zpo,Zpu,Zpw,Zp9,Zqd,Zqe,Zqf,Zqg,Zqh,Zqi,Zqk,Zql,Zqm,Zqn,List.append_assoc,List.length_append,eq_self,true_and,and_true,Nat.zero_add,Nat.add_zero,Nat.mul_one,h0]
    tactic =>
    refine endA ?_
    sym =>
    simp [Zaa,Zab,Zac,Zad,Zae,Zaf,Zag,Zah,Zai,Zak,Zal,Zam,Zan,Zao,Zap,Zaq,Zav,Zaw,Zay,Zaz,Za0,Za1,Za2,Za3,Za4,Za5,Za9,Zba,Zbb,Zbc,Zbf,Zbl,Zbm,Zbt,Zbu,Zbv,Zbw,Zb2,Zck,Zcn,Zcx,Zcz,Zc0,Zc5,Zc6,Zc7,Zc8,Zc9,Zdc,Zdd,Zde,Zdf,Zdg,Zdh,Zdi,Zdj,Zdk,Zdm,Zdo,Zdp,Zdt,Zdu,Zdv,Zdw,Zdx,Zdy,Zdz,Zd0,Zd1,Zd2,Zd3,Zeb,Zee,Zeh,Zek,Zen,Zeq,Zer,Zes,Zet,Zev,Zew,Zez,Ze0,Ze2,Ze3,Ze4,Ze5,Ze8,Ze9,Zfc,Zfd,Zfe,Zff,Zfg,Zfh,Zfn,Zfq,Zfz,Zf0,Zf1,Zgh,Zgi,Zgr,Zgs,Zgt,Zgu,Zgv,Zgw,Zgx,Zgy,Zg4,Zg6,Zhf,Zhg,Zhh,Zhm,Zho,Zh1,Zh2,Zh3,Zh6,Zh7,Zio,Zip,Ziq,Zir,Zix,Ziz,Zi0,Zi1,Zi2,Zi3,Zi6,Zi7,Zjj,Zjk,Zjo,Zjr,Zkb,Zla,Zlb,Zlc,Zld,Zle,Zlf,Zlh,Zlj,Zlk,Zlm,Zlt,Zlx,Zlz,Zl2,Zl3,Zl4,Zmt,Zmv,Zmw,Zmx,Zmz,Zm3,Zm5,Zm6,Zm7,Zna,Znb,Znc,Znd,Zne,Znf,Zng,Znh,Znl,Znm,Znn,Zno,Znp,Znr,Zns,Znt,Znw,Zn5,Zob,Zoc,Zof,Zog,Zrd,Zos,Zot,Zo3,Zo4,Zo7,Zo8,Zo9,Zpb,Zpc,Zpg,Zph,Zpo,Zpu,Zpw,Zp9,Zqd,Zqe,Zqf,Zqg,Zqh,Zqi,Zqk,Zql,Zqm,Zqn,List.append_assoc,List.length_append,eq_self,true_and,and_true,Nat.zero_add,Nat.add_zero,Nat.mul_one]
    tactic =>
    rfl
  rw [if_pos h0] at hR
  subst h0
  have hwk := w8u k
  sym =>
  simp [Zaa,Zab,Zac,Zad,Zae,Zaf,Zag,Zah,Zai,Zak,Zal,Zam,Zan,Zao,Zap,Zaq,Zav,Zaw,Zay,Zaz,Za0,Za1,Za2,Za3,Za4,Za5,Za9,Zba,Zbb,Zbc,Zbf,Zbl,Zbm,Zbt,Zbu,Zbv,Zbw,Zb2,Zck,Zcn,Zcx,Zcz,Zc0,Zc5,Zc6,Zc7,Zc8,Zc9,Zdc,Zdd,Zde,Zdf,Zdg,Zdh,Zdi,Zdj,Zdk,Zdm,Zdo,Zdp,Zdt,Zdu,Zdv,Zdw,Zdx,Zdy,Zdz,Zd0,Zd1,Zd2,Zd3,Zeb,Zee,Zeh,Zek,Zen,Zeq,Zer,Zes,Zet,Zev,Zew,Zez,Ze0,Ze2,Ze3,Ze4,Ze5,Ze8,Ze9,Zfc,Zfd,Zfe,Zff,Zfg,Zfh,Zfn,Zfq,Zfz,Zf0,Zf1,Zgh,Zgi,Zgr,Zgs,Zgt,Zgu,Zgv,Zgw,Zgx,Zgy,Zg4,Zg6,Zhf,Zhg,Zhh,Zhm,Zho,Zh1,Zh2,Zh3,Zh6,Zh7,Zio,Zip,Ziq,Zir,Zix,Ziz,Zi0,Zi1,Zi2,Zi3,Zi6,Zi7,Zjj,Zjk,Zjo,Zjr,Zkb,Zla,Zlb,Zlc,Zld,Zle,Zlf,Zlh,Zlj,Zlk,Zlm,Zlt,Zlx,Zlz,Zl2,Zl3,Zl4,Zmt,Zmv,Zmw,Zmx,Zmz,Zm3,Zm5,Zm6,Zm7,Zna,Znb,Znc,Znd,Zne,Znf,Zng,Znh,Znl,Znm,Znn,Zno,Znp,Znr,Zns,Znt,Znw,Zn5,Zob,Zoc,Zof,Zog,Zrd,Zos,Zot,Zo3,Zo4,Zo7,Zo8,Zo9,Zpb,Zpc,Zpg,Zph,Zpo,Zpu,Zpw,Zp9,Zqd,Zqe,Zqf,Zqg,Zqh,Zqi,Zqk,Zql,Zqm,Zqn,List.append_assoc,List.length_append,eq_self,true_and,and_true,Nat.zero_add,Nat.add_zero,Nat.mul_one,zF_fc,fc_0,fc_17,fc_18,fc_19,fc_20,fc_53,fc_54,fc_55,fs_0,fs_17,fs_18,fs_19,fs_20,fs_53,fs_54,fs_55,fp_1,fp_21,fp_f,rb_1,rb_21,rb_0,fc_len,fc_ok,fc_id,fc_rs,v16,v32,cB_cells,hwk,callable_28]
  tactic =>
  and_intros <;> try (first | omega | rfl | assumption | simp only [IN]; omega)
  refine cl none (hmark) trivial ?_
  obtain ⟨h1', hh1⟩ : ∃ h1', h1' = [84, 87, k % 256, mkF es er] ++ t.1 := ⟨_, rfl⟩
  have hc : Y 84 :: Y 87 :: Y (k % 256) :: Y (mkF es er) :: cB t.1 = cB h1' := by rw [hh1]; rfl
  have hl1 : h1'.length = 20 := by rw [hh1, List.length_append, t.2]; rfl
  have hq := cB_length h1'
  rw [hl1] at hq
  have htF := cB_okF t.1
  have hI := cB_okI h1'
  have we : IntKind.u64.wrap es = es := by rw [wu64]; omega
  have wr : IntKind.u64.wrap er = er := by rw [wu64]; omega
  sym =>
  simp [Zaa,Zab,Zac,Zad,Zae,Zaf,Zag,Zah,Zai,Zak,Zal,Zam,Zan,Zao,Zap,Zaq,Zav,Zaw,Zay,Zaz,Za0,Za1,Za2,Za3,Za4,Za5,Za9,Zba,Zbb,Zbc,Zbf,Zbl,Zbm,Zbt,Zbu,Zbv,Zbw,Zb2,Zck,Zcn,Zcx,Zcz,Zc0,Zc5,Zc6,Zc7,Zc8,Zc9,Zdc,Zdd,Zde,Zdf,Zdg,Zdh,Zdi,Zdj,Zdk,Zdm,Zdo,Zdp,Zdt,Zdu,Zdv,Zdw,Zdx,Zdy,Zdz,Zd0,Zd1,Zd2,Zd3,Zeb,Zee,Zeh,Zek,Zen,Zeq,Zer,Zes,Zet,Zev,Zew,Zez,Ze0,Ze2,Ze3,Ze4,Ze5,Ze8,Ze9,Zfc,Zfd,Zfe,Zff,Zfg,Zfh,Zfn,Zfq,Zfz,Zf0,Zf1,Zgh,Zgi,Zgr,Zgs,Zgt,Zgu,Zgv,Zgw,Zgx,Zgy,Zg4,Zg6,Zhf,Zhg,Zhh,Zhm,Zho,Zh1,Zh2,Zh3,Zh6,Zh7,Zio,Zip,Ziq,Zir,Zix,Ziz,Zi0,Zi1,Zi2,Zi3,Zi6,Zi7,Zjj,Zjk,Zjo,Zjr,Zkb,Zla,Zlb,Zlc,Zld,Zle,Zlf,Zlh,Zlj,Zlk,Zlm,Zlt,Zlx,Zlz,Zl2,Zl3,Zl4,Zmt,Zmv,Zmw,Zmx,Zmz,Zm3,Zm5,Zm6,Zm7,Zna,Znb,Znc,Znd,Zne,Znf,Zng,Znh,Znl,Znm,Znn,Zno,Znp,Znr,Zns,Znt,Znw,Zn5,Zob,Zoc,Zof,Zog,Zrd,Zos,Zot,Zo3,Zo4,Zo7,Zo8,Zo9,Zpb,Zpc,Zpg,Zph,Zpo,Zpu,Zpw,Zp9,Zqd,Zqe,Zqf,Zqg,Zqh,Zqi,Zqk,Zql,Zqm,Zqn,List.append_assoc,List.length_append,eq_self,true_and,and_true,Nat.zero_add,Nat.add_zero,Nat.mul_one,zF_fc,fc_0,fc_17,fc_18,fc_19,fc_20,fc_53,fc_54,fc_55,fs_0,fs_17,fs_18,fs_19,fs_20,fs_53,fs_54,fs_55,fp_1,fp_21,fp_f,rb_1,rb_21,rb_0,fc_len,fc_ok,fc_id,fc_rs,v16,v32,cB_cells,hc,hq,fc_tok,we,wr,callable_29]
  tactic =>
  and_intros <;> try (first | omega | rfl | assumption | simp only [IN]; omega)
  obtain ⟨h2', hh2⟩ : ∃ h2', h2' = h1' ++ beN 4 es := ⟨_, rfl⟩
  obtain ⟨h3', hh3⟩ : ∃ h3', h3' = h2' ++ beN 4 er := ⟨_, rfl⟩
  have hl2 : h2'.length = 24 := by rw [hh2, List.length_append, hl1, beN_length]
  have hl3 : h3'.length = 28 := by rw [hh3, List.length_append, hl2, beN_length]
  have hc2 : cB h1' ++ cB (beN 4 es) = cB h2' := by rw [hh2, cB_append]
  have hc3 : cB h2' ++ cB (beN 4 er) = cB h3' := by rw [hh3, cB_append]
  have hq2 := cB_length h2'
  rw [hl2] at hq2
  have hq3 := cB_length h3'
  rw [hl3] at hq3
  have fe := okF_beN 4 es
  have fr' := okF_beN 4 er
  refine cl none (rnumber_con' es 4 4 rfl (by omega) ⟨h1.1, by omega⟩) trivial ?_
  sym =>
  simp [Zaa,Zab,Zac,Zad,Zae,Zaf,Zag,Zah,Zai,Zak,Zal,Zam,Zan,Zao,Zap,Zaq,Zav,Zaw,Zay,Zaz,Za0,Za1,Za2,Za3,Za4,Za5,Za9,Zba,Zbb,Zbc,Zbf,Zbl,Zbm,Zbt,Zbu,Zbv,Zbw,Zb2,Zck,Zcn,Zcx,Zcz,Zc0,Zc5,Zc6,Zc7,Zc8,Zc9,Zdc,Zdd,Zde,Zdf,Zdg,Zdh,Zdi,Zdj,Zdk,Zdm,Zdo,Zdp,Zdt,Zdu,Zdv,Zdw,Zdx,Zdy,Zdz,Zd0,Zd1,Zd2,Zd3,Zeb,Zee,Zeh,Zek,Zen,Zeq,Zer,Zes,Zet,Zev,Zew,Zez,Ze0,Ze2,Ze3,Ze4,Ze5,Ze8,Ze9,Zfc,Zfd,Zfe,Zff,Zfg,Zfh,Zfn,Zfq,Zfz,Zf0,Zf1,Zgh,Zgi,Zgr,Zgs,Zgt,Zgu,Zgv,Zgw,Zgx,Zgy,Zg4,Zg6,Zhf,Zhg,Zhh,Zhm,Zho,Zh1,Zh2,Zh3,Zh6,Zh7,Zio,Zip,Ziq,Zir,Zix,Ziz,Zi0,Zi1,Zi2,Zi3,Zi6,Zi7,Zjj,Zjk,Zjo,Zjr,Zkb,Zla,Zlb,Zlc,Zld,Zle,Zlf,Zlh,Zlj,Zlk,Zlm,Zlt,Zlx,Zlz,Zl2,Zl3,Zl4,Zmt,Zmv,Zmw,Zmx,Zmz,Zm3,Zm5,Zm6,Zm7,Zna,Znb,Znc,Znd,Zne,Znf,Zng,Znh,Znl,Znm,Znn,Zno,Znp,Znr,Zns,Znt,Znw,Zn5,Zob,Zoc,Zof,Zog,Zrd,Zos,Zot,Zo3,Zo4,Zo7,Zo8,Zo9,Zpb,Zpc,Zpg,Zph,Zpo,Zpu,Zpw,Zp9,Zqd,Zqe,Zqf,Zqg,Zqh,Zqi,Zqk,Zql,Zqm,Zqn,List.append_assoc,List.length_append,eq_self,true_and,and_true,Nat.zero_add,Nat.add_zero,Nat.mul_one,zF_fc,fc_0,fc_17,fc_18,fc_19,fc_20,fc_53,fc_54,fc_55,fs_0,fs_17,fs_18,fs_19,fs_20,fs_53,fs_54,fs_55,fp_1,fp_21,fp_f,rb_1,rb_21,rb_0,fc_len,fc_ok,fc_id,fc_rs,v16,v32,cB_cells,we,wr,hc2,hq2,cBb_length,callable_29]
  tactic =>
  and_intros <;> try (first | omega | rfl | assumption | simp only [IN]; omega)
  refine cl none (rnumber_con' er 4 4 rfl (by omega) ⟨h2.1, by omega⟩) trivial ?_
  have hh : h3' = hdB ⟨k, t, es, er, o, n, su, d, r, c⟩ := by rw [hh3, hh2, hh1]; rfl

  have hI3 := cB_okI h3'
  rw [← hh] at hR hhb
  have fn8 := okF_beN 8 n
  have fo8 := okF_beN 8 o
  have fsu := cB_okF su.1
  have fd := cB_okF d
  have hs32 := v32 su
  by_cases k1 : k = 1
  · subst k1
    have hbo : bodyF (bare ⟨1, t, es, er, o, n, su, d, r, c⟩) = beN 8 n ++ su.1 := rfl
    obtain ⟨z, hz⟩ : ∃ z, z = h3' ++ (beN 8 n ++ su.1) := ⟨_, rfl⟩
    have hzl : z.length = 68 := by rw [hz, List.length_append, List.length_append, hl3, beN_length, su.2]
    have hc4 : cB h3' ++ (cB (beN 8 n) ++ cB su.1) = cB z := by rw [hz, cB_append, cB_append]
    rw [hbo, ← hz] at hR
    rw [hbo] at hbb2
    have hzb : byt8 z := by rw [hz]; exact byt8_app hhb hbb2
    have hIz := cB_okI z
    have hzc := cB_length z
    have hs := rseal_con z hzb (by omega)
    have hza : List.take z.length (cB z) = cB z := List.take_of_length_le (by rw [cB_length]; exact Nat.le_refl _)
    simp only [fB, hzl] at hs
    rw [hzl] at hzc hza
    sym =>
    simp [Zaa,Zab,Zac,Zad,Zae,Zaf,Zag,Zah,Zai,Zak,Zal,Zam,Zan,Zao,Zap,Zaq,Zav,Zaw,Zay,Zaz,Za0,Za1,Za2,Za3,Za4,Za5,Za9,Zba,Zbb,Zbc,Zbf,Zbl,Zbm,Zbt,Zbu,Zbv,Zbw,Zb2,Zck,Zcn,Zcx,Zcz,Zc0,Zc5,Zc6,Zc7,Zc8,Zc9,Zdc,Zdd,Zde,Zdf,Zdg,Zdh,Zdi,Zdj,Zdk,Zdm,Zdo,Zdp,Zdt,Zdu,Zdv,Zdw,Zdx,Zdy,Zdz,Zd0,Zd1,Zd2,Zd3,Zeb,Zee,Zeh,Zek,Zen,Zeq,Zer,Zes,Zet,Zev,Zew,Zez,Ze0,Ze2,Ze3,Ze4,Ze5,Ze8,Ze9,Zfc,Zfd,Zfe,Zff,Zfg,Zfh,Zfn,Zfq,Zfz,Zf0,Zf1,Zgh,Zgi,Zgr,Zgs,Zgt,Zgu,Zgv,Zgw,Zgx,Zgy,Zg4,Zg6,Zhf,Zhg,Zhh,Zhm,Zho,Zh1,Zh2,Zh3,Zh6,Zh7,Zio,Zip,Ziq,Zir,Zix,Ziz,Zi0,Zi1,Zi2,Zi3,Zi6,Zi7,Zjj,Zjk,Zjo,Zjr,Zkb,Zla,Zlb,Zlc,Zld,Zle,Zlf,Zlh,Zlj,Zlk,Zlm,Zlt,Zlx,Zlz,Zl2,Zl3,Zl4,Zmt,Zmv,Zmw,Zmx,Zmz,Zm3,Zm5,Zm6,Zm7,Zna,Znb,Znc,Znd,Zne,Znf,Zng,Znh,Znl,Znm,Znn,Zno,Znp,Znr,Zns,Znt,Znw,Zn5,Zob,Zoc,Zof,Zog,Zrd,Zos,Zot,Zo3,Zo4,Zo7,Zo8,Zo9,Zpb,Zpc,Zpg,Zph,Zpo,Zpu,Zpw,Zp9,Zqd,Zqe,Zqf,Zqg,Zqh,Zqi,Zqk,Zql,Zqm,Zqn,List.append_assoc,List.length_append,eq_self,true_and,and_true,Nat.zero_add,Nat.add_zero,Nat.mul_one,zF_fc,fc_0,fc_17,fc_18,fc_19,fc_20,fc_53,fc_54,fc_55,fs_0,fs_17,fs_18,fs_19,fs_20,fs_53,fs_54,fs_55,fp_1,fp_21,fp_f,rb_1,rb_21,rb_0,fc_len,fc_ok,fc_id,fc_rs,v16,v32,cB_cells,hc3,hq3,cBb_length,callable_29]
    tactic =>
    and_intros <;> try (first | omega | rfl | assumption | simp only [IN]; omega)
    refine cl none (rnumber_con' n 8 8 rfl (by omega) hn) trivial ?_
    sym =>
    simp [Zaa,Zab,Zac,Zad,Zae,Zaf,Zag,Zah,Zai,Zak,Zal,Zam,Zan,Zao,Zap,Zaq,Zav,Zaw,Zay,Zaz,Za0,Za1,Za2,Za3,Za4,Za5,Za9,Zba,Zbb,Zbc,Zbf,Zbl,Zbm,Zbt,Zbu,Zbv,Zbw,Zb2,Zck,Zcn,Zcx,Zcz,Zc0,Zc5,Zc6,Zc7,Zc8,Zc9,Zdc,Zdd,Zde,Zdf,Zdg,Zdh,Zdi,Zdj,Zdk,Zdm,Zdo,Zdp,Zdt,Zdu,Zdv,Zdw,Zdx,Zdy,Zdz,Zd0,Zd1,Zd2,Zd3,Zeb,Zee,Zeh,Zek,Zen,Zeq,Zer,Zes,Zet,Zev,Zew,Zez,Ze0,Ze2,Ze3,Ze4,Ze5,Ze8,Ze9,Zfc,Zfd,Zfe,Zff,Zfg,Zfh,Zfn,Zfq,Zfz,Zf0,Zf1,Zgh,Zgi,Zgr,Zgs,Zgt,Zgu,Zgv,Zgw,Zgx,Zgy,Zg4,Zg6,Zhf,Zhg,Zhh,Zhm,Zho,Zh1,Zh2,Zh3,Zh6,Zh7,Zio,Zip,Ziq,Zir,Zix,Ziz,Zi0,Zi1,Zi2,Zi3,Zi6,Zi7,Zjj,Zjk,Zjo,Zjr,Zkb,Zla,Zlb,Zlc,Zld,Zle,Zlf,Zlh,Zlj,Zlk,Zlm,Zlt,Zlx,Zlz,Zl2,Zl3,Zl4,Zmt,Zmv,Zmw,Zmx,Zmz,Zm3,Zm5,Zm6,Zm7,Zna,Znb,Znc,Znd,Zne,Znf,Zng,Znh,Znl,Znm,Znn,Zno,Znp,Znr,Zns,Znt,Znw,Zn5,Zob,Zoc,Zof,Zog,Zrd,Zos,Zot,Zo3,Zo4,Zo7,Zo8,Zo9,Zpb,Zpc,Zpg,Zph,Zpo,Zpu,Zpw,Zp9,Zqd,Zqe,Zqf,Zqg,Zqh,Zqi,Zqk,Zql,Zqm,Zqn,List.append_assoc,List.length_append,eq_self,true_and,and_true,Nat.zero_add,Nat.add_zero,Nat.mul_one,zF_fc,fc_0,fc_17,fc_18,fc_19,fc_20,fc_53,fc_54,fc_55,fs_0,fs_17,fs_18,fs_19,fs_20,fs_53,fs_54,fs_55,fp_1,fp_21,fp_f,rb_1,rb_21,rb_0,fc_len,fc_ok,fc_id,fc_rs,v16,v32,cB_cells,hc3,hq3,hc4,hza,hzc,hs32,fc_sum,cBb_length,callable_18]
    tactic =>
    and_intros <;> try (first | omega | rfl | assumption | simp only [IN]; omega)
    refine cl none (hs) trivial ?_
    sym =>
    simp [Zaa,Zab,Zac,Zad,Zae,Zaf,Zag,Zah,Zai,Zak,Zal,Zam,Zan,Zao,Zap,Zaq,Zav,Zaw,Zay,Zaz,Za0,Za1,Za2,Za3,Za4,Za5,Za9,Zba,Zbb,Zbc,Zbf,Zbl,Zbm,Zbt,Zbu,Zbv,Zbw,Zb2,Zck,Zcn,Zcx,Zcz,Zc0,Zc5,Zc6,Zc7,Zc8,Zc9,Zdc,Zdd,Zde,Zdf,Zdg,Zdh,Zdi,Zdj,Zdk,Zdm,Zdo,Zdp,Zdt,Zdu,Zdv,Zdw,Zdx,Zdy,Zdz,Zd0,Zd1,Zd2,Zd3,Zeb,Zee,Zeh,Zek,Zen,Zeq,Zer,Zes,Zet,Zev,Zew,Zez,Ze0,Ze2,Ze3,Ze4,Ze5,Ze8,Ze9,Zfc,Zfd,Zfe,Zff,Zfg,Zfh,Zfn,Zfq,Zfz,Zf0,Zf1,Zgh,Zgi,Zgr,Zgs,Zgt,Zgu,Zgv,Zgw,Zgx,Zgy,Zg4,Zg6,Zhf,Zhg,Zhh,Zhm,Zho,Zh1,Zh2,Zh3,Zh6,Zh7,Zio,Zip,Ziq,Zir,Zix,Ziz,Zi0,Zi1,Zi2,Zi3,Zi6,Zi7,Zjj,Zjk,Zjo,Zjr,Zkb,Zla,Zlb,Zlc,Zld,Zle,Zlf,Zlh,Zlj,Zlk,Zlm,Zlt,Zlx,Zlz,Zl2,Zl3,Zl4,Zmt,Zmv,Zmw,Zmx,Zmz,Zm3,Zm5,Zm6,Zm7,Zna,Znb,Znc,Znd,Zne,Znf,Zng,Znh,Znl,Znm,Znn,Zno,Znp,Znr,Zns,Znt,Znw,Zn5,Zob,Zoc,Zof,Zog,Zrd,Zos,Zot,Zo3,Zo4,Zo7,Zo8,Zo9,Zpb,Zpc,Zpg,Zph,Zpo,Zpu,Zpw,Zp9,Zqd,Zqe,Zqf,Zqg,Zqh,Zqi,Zqk,Zql,Zqm,Zqn,List.append_assoc,List.length_append,eq_self,true_and,and_true,Nat.zero_add,Nat.add_zero,Nat.mul_one]
    tactic =>
    refine endA ?_
    rw [hR]
    sym =>
    simp [Zaa,Zab,Zac,Zad,Zae,Zaf,Zag,Zah,Zai,Zak,Zal,Zam,Zan,Zao,Zap,Zaq,Zav,Zaw,Zay,Zaz,Za0,Za1,Za2,Za3,Za4,Za5,Za9,Zba,Zbb,Zbc,Zbf,Zbl,Zbm,Zbt,Zbu,Zbv,Zbw,Zb2,Zck,Zcn,Zcx,Zcz,Zc0,Zc5,Zc6,Zc7,Zc8,Zc9,Zdc,Zdd,Zde,Zdf,Zdg,Zdh,Zdi,Zdj,Zdk,Zdm,Zdo,Zdp,Zdt,Zdu,Zdv,Zdw,Zdx,Zdy,Zdz,Zd0,Zd1,Zd2,Zd3,Zeb,Zee,Zeh,Zek,Zen,Zeq,Zer,Zes,Zet,Zev,Zew,Zez,Ze0,Ze2,Ze3,Ze4,Ze5,Ze8,Ze9,Zfc,Zfd,Zfe,Zff,Zfg,Zfh,Zfn,Zfq,Zfz,Zf0,Zf1,Zgh,Zgi,Zgr,Zgs,Zgt,Zgu,Zgv,Zgw,Zgx,Zgy,Zg4,Zg6,Zhf,Zhg,Zhh,Zhm,Zho,Zh1,Zh2,Zh3,Zh6,Zh7,Zio,Zip,Ziq,Zir,Zix,Ziz,Zi0,Zi1,Zi2,Zi3,Zi6,Zi7,Zjj,Zjk,Zjo,Zjr,Zkb,Zla,Zlb,Zlc,Zld,Zle,Zlf,Zlh,Zlj,Zlk,Zlm,Zlt,Zlx,Zlz,Zl2,Zl3,Zl4,Zmt,Zmv,Zmw,Zmx,Zmz,Zm3,Zm5,Zm6,Zm7,Zna,Znb,Znc,Znd,Zne,Znf,Zng,Znh,Znl,Znm,Znn,Zno,Znp,Znr,Zns,Znt,Znw,Zn5,Zob,Zoc,Zof,Zog,Zrd,Zos,Zot,Zo3,Zo4,Zo7,Zo8,Zo9,Zpb,Zpc,Zpg,Zph,Zpo,Zpu,Zpw,Zp9,Zqd,Zqe,Zqf,Zqg,Zqh,Zqi,Zqk,Zql,Zqm,Zqn,List.append_assoc,List.length_append,eq_self,true_and,and_true,Nat.zero_add,Nat.add_zero,Nat.mul_one]
  by_cases k5 : k = 5
  · subst k5
    have hbo : bodyF (bare ⟨5, t, es, er, o, n, su, d, r, c⟩) = beN 8 n ++ su.1 := rfl
    obtain ⟨z, hz⟩ : ∃ z, z = h3' ++ (beN 8 n ++ su.1) := ⟨_, rfl⟩
    have hzl : z.length = 68 := by rw [hz, List.length_append, List.length_append, hl3, beN_length, su.2]
    have hc4 : cB h3' ++ (cB (beN 8 n) ++ cB su.1) = cB z := by rw [hz, cB_append, cB_append]
    rw [hbo, ← hz] at hR
    rw [hbo] at hbb2
    have hzb : byt8 z := by rw [hz]; exact byt8_app hhb hbb2
    have hIz := cB_okI z
    have hzc := cB_length z
    have hs := rseal_con z hzb (by omega)
    have hza : List.take z.length (cB z) = cB z := List.take_of_length_le (by rw [cB_length]; exact Nat.le_refl _)
    simp only [fB, hzl] at hs
    rw [hzl] at hzc hza
    sym =>
    simp [Zaa,Zab,Zac,Zad,Zae,Zaf,Zag,Zah,Zai,Zak,Zal,Zam,Zan,Zao,Zap,Zaq,Zav,Zaw,Zay,Zaz,Za0,Za1,Za2,Za3,Za4,Za5,Za9,Zba,Zbb,Zbc,Zbf,Zbl,Zbm,Zbt,Zbu,Zbv,Zbw,Zb2,Zck,Zcn,Zcx,Zcz,Zc0,Zc5,Zc6,Zc7,Zc8,Zc9,Zdc,Zdd,Zde,Zdf,Zdg,Zdh,Zdi,Zdj,Zdk,Zdm,Zdo,Zdp,Zdt,Zdu,Zdv,Zdw,Zdx,Zdy,Zdz,Zd0,Zd1,Zd2,Zd3,Zeb,Zee,Zeh,Zek,Zen,Zeq,Zer,Zes,Zet,Zev,Zew,Zez,Ze0,Ze2,Ze3,Ze4,Ze5,Ze8,Ze9,Zfc,Zfd,Zfe,Zff,Zfg,Zfh,Zfn,Zfq,Zfz,Zf0,Zf1,Zgh,Zgi,Zgr,Zgs,Zgt,Zgu,Zgv,Zgw,Zgx,Zgy,Zg4,Zg6,Zhf,Zhg,Zhh,Zhm,Zho,Zh1,Zh2,Zh3,Zh6,Zh7,Zio,Zip,Ziq,Zir,Zix,Ziz,Zi0,Zi1,Zi2,Zi3,Zi6,Zi7,Zjj,Zjk,Zjo,Zjr,Zkb,Zla,Zlb,Zlc,Zld,Zle,Zlf,Zlh,Zlj,Zlk,Zlm,Zlt,Zlx,Zlz,Zl2,Zl3,Zl4,Zmt,Zmv,Zmw,Zmx,Zmz,Zm3,Zm5,Zm6,Zm7,Zna,Znb,Znc,Znd,Zne,Znf,Zng,Znh,Znl,Znm,Znn,Zno,Znp,Znr,Zns,Znt,Znw,Zn5,Zob,Zoc,Zof,Zog,Zrd,Zos,Zot,Zo3,Zo4,Zo7,Zo8,Zo9,Zpb,Zpc,Zpg,Zph,Zpo,Zpu,Zpw,Zp9,Zqd,Zqe,Zqf,Zqg,Zqh,Zqi,Zqk,Zql,Zqm,Zqn,List.append_assoc,List.length_append,eq_self,true_and,and_true,Nat.zero_add,Nat.add_zero,Nat.mul_one,zF_fc,fc_0,fc_17,fc_18,fc_19,fc_20,fc_53,fc_54,fc_55,fs_0,fs_17,fs_18,fs_19,fs_20,fs_53,fs_54,fs_55,fp_1,fp_21,fp_f,rb_1,rb_21,rb_0,fc_len,fc_ok,fc_id,fc_rs,v16,v32,cB_cells,hc3,hq3,cBb_length,callable_29]
    tactic =>
    and_intros <;> try (first | omega | rfl | assumption | simp only [IN]; omega)
    refine cl none (rnumber_con' n 8 8 rfl (by omega) hn) trivial ?_
    sym =>
    simp [Zaa,Zab,Zac,Zad,Zae,Zaf,Zag,Zah,Zai,Zak,Zal,Zam,Zan,Zao,Zap,Zaq,Zav,Zaw,Zay,Zaz,Za0,Za1,Za2,Za3,Za4,Za5,Za9,Zba,Zbb,Zbc,Zbf,Zbl,Zbm,Zbt,Zbu,Zbv,Zbw,Zb2,Zck,Zcn,Zcx,Zcz,Zc0,Zc5,Zc6,Zc7,Zc8,Zc9,Zdc,Zdd,Zde,Zdf,Zdg,Zdh,Zdi,Zdj,Zdk,Zdm,Zdo,Zdp,Zdt,Zdu,Zdv,Zdw,Zdx,Zdy,Zdz,Zd0,Zd1,Zd2,Zd3,Zeb,Zee,Zeh,Zek,Zen,Zeq,Zer,Zes,Zet,Zev,Zew,Zez,Ze0,Ze2,Ze3,Ze4,Ze5,Ze8,Ze9,Zfc,Zfd,Zfe,Zff,Zfg,Zfh,Zfn,Zfq,Zfz,Zf0,Zf1,Zgh,Zgi,Zgr,Zgs,Zgt,Zgu,Zgv,Zgw,Zgx,Zgy,Zg4,Zg6,Zhf,Zhg,Zhh,Zhm,Zho,Zh1,Zh2,Zh3,Zh6,Zh7,Zio,Zip,Ziq,Zir,Zix,Ziz,Zi0,Zi1,Zi2,Zi3,Zi6,Zi7,Zjj,Zjk,Zjo,Zjr,Zkb,Zla,Zlb,Zlc,Zld,Zle,Zlf,Zlh,Zlj,Zlk,Zlm,Zlt,Zlx,Zlz,Zl2,Zl3,Zl4,Zmt,Zmv,Zmw,Zmx,Zmz,Zm3,Zm5,Zm6,Zm7,Zna,Znb,Znc,Znd,Zne,Znf,Zng,Znh,Znl,Znm,Znn,Zno,Znp,Znr,Zns,Znt,Znw,Zn5,Zob,Zoc,Zof,Zog,Zrd,Zos,Zot,Zo3,Zo4,Zo7,Zo8,Zo9,Zpb,Zpc,Zpg,Zph,Zpo,Zpu,Zpw,Zp9,Zqd,Zqe,Zqf,Zqg,Zqh,Zqi,Zqk,Zql,Zqm,Zqn,List.append_assoc,List.length_append,eq_self,true_and,and_true,Nat.zero_add,Nat.add_zero,Nat.mul_one,zF_fc,fc_0,fc_17,fc_18,fc_19,fc_20,fc_53,fc_54,fc_55,fs_0,fs_17,fs_18,fs_19,fs_20,fs_53,fs_54,fs_55,fp_1,fp_21,fp_f,rb_1,rb_21,rb_0,fc_len,fc_ok,fc_id,fc_rs,v16,v32,cB_cells,hc3,hq3,hc4,hza,hzc,hs32,fc_sum,cBb_length,callable_18]
    tactic =>
    and_intros <;> try (first | omega | rfl | assumption | simp only [IN]; omega)
    refine cl none (hs) trivial ?_
    sym =>
    simp [Zaa,Zab,Zac,Zad,Zae,Zaf,Zag,Zah,Zai,Zak,Zal,Zam,Zan,Zao,Zap,Zaq,Zav,Zaw,Zay,Zaz,Za0,Za1,Za2,Za3,Za4,Za5,Za9,Zba,Zbb,Zbc,Zbf,Zbl,Zbm,Zbt,Zbu,Zbv,Zbw,Zb2,Zck,Zcn,Zcx,Zcz,Zc0,Zc5,Zc6,Zc7,Zc8,Zc9,Zdc,Zdd,Zde,Zdf,Zdg,Zdh,Zdi,Zdj,Zdk,Zdm,Zdo,Zdp,Zdt,Zdu,Zdv,Zdw,Zdx,Zdy,Zdz,Zd0,Zd1,Zd2,Zd3,Zeb,Zee,Zeh,Zek,Zen,Zeq,Zer,Zes,Zet,Zev,Zew,Zez,Ze0,Ze2,Ze3,Ze4,Ze5,Ze8,Ze9,Zfc,Zfd,Zfe,Zff,Zfg,Zfh,Zfn,Zfq,Zfz,Zf0,Zf1,Zgh,Zgi,Zgr,Zgs,Zgt,Zgu,Zgv,Zgw,Zgx,Zgy,Zg4,Zg6,Zhf,Zhg,Zhh,Zhm,Zho,Zh1,Zh2,Zh3,Zh6,Zh7,Zio,Zip,Ziq,Zir,Zix,Ziz,Zi0,Zi1,Zi2,Zi3,Zi6,Zi7,Zjj,Zjk,Zjo,Zjr,Zkb,Zla,Zlb,Zlc,Zld,Zle,Zlf,Zlh,Zlj,Zlk,Zlm,Zlt,Zlx,Zlz,Zl2,Zl3,Zl4,Zmt,Zmv,Zmw,Zmx,Zmz,Zm3,Zm5,Zm6,Zm7,Zna,Znb,Znc,Znd,Zne,Znf,Zng,Znh,Znl,Znm,Znn,Zno,Znp,Znr,Zns,Znt,Znw,Zn5,Zob,Zoc,Zof,Zog,Zrd,Zos,Zot,Zo3,Zo4,Zo7,Zo8,Zo9,Zpb,Zpc,Zpg,Zph,Zpo,Zpu,Zpw,Zp9,Zqd,Zqe,Zqf,Zqg,Zqh,Zqi,Zqk,Zql,Zqm,Zqn,List.append_assoc,List.length_append,eq_self,true_and,and_true,Nat.zero_add,Nat.add_zero,Nat.mul_one]
    tactic =>
    refine endA ?_
    rw [hR]
    sym =>
    simp [Zaa,Zab,Zac,Zad,Zae,Zaf,Zag,Zah,Zai,Zak,Zal,Zam,Zan,Zao,Zap,Zaq,Zav,Zaw,Zay,Zaz,Za0,Za1,Za2,Za3,Za4,Za5,Za9,Zba,Zbb,Zbc,Zbf,Zbl,Zbm,Zbt,Zbu,Zbv,Zbw,Zb2,Zck,Zcn,Zcx,Zcz,Zc0,Zc5,Zc6,Zc7,Zc8,Zc9,Zdc,Zdd,Zde,Zdf,Zdg,Zdh,Zdi,Zdj,Zdk,Zdm,Zdo,Zdp,Zdt,Zdu,Zdv,Zdw,Zdx,Zdy,Zdz,Zd0,Zd1,Zd2,Zd3,Zeb,Zee,Zeh,Zek,Zen,Zeq,Zer,Zes,Zet,Zev,Zew,Zez,Ze0,Ze2,Ze3,Ze4,Ze5,Ze8,Ze9,Zfc,Zfd,Zfe,Zff,Zfg,Zfh,Zfn,Zfq,Zfz,Zf0,Zf1,Zgh,Zgi,Zgr,Zgs,Zgt,Zgu,Zgv,Zgw,Zgx,Zgy,Zg4,Zg6,Zhf,Zhg,Zhh,Zhm,Zho,Zh1,Zh2,Zh3,Zh6,Zh7,Zio,Zip,Ziq,Zir,Zix,Ziz,Zi0,Zi1,Zi2,Zi3,Zi6,Zi7,Zjj,Zjk,Zjo,Zjr,Zkb,Zla,Zlb,Zlc,Zld,Zle,Zlf,Zlh,Zlj,Zlk,Zlm,Zlt,Zlx,Zlz,Zl2,Zl3,Zl4,Zmt,Zmv,Zmw,Zmx,Zmz,Zm3,Zm5,Zm6,Zm7,Zna,Znb,Znc,Znd,Zne,Znf,Zng,Znh,Znl,Znm,Znn,Zno,Znp,Znr,Zns,Znt,Znw,Zn5,Zob,Zoc,Zof,Zog,Zrd,Zos,Zot,Zo3,Zo4,Zo7,Zo8,Zo9,Zpb,Zpc,Zpg,Zph,Zpo,Zpu,Zpw,Zp9,Zqd,Zqe,Zqf,Zqg,Zqh,Zqi,Zqk,Zql,Zqm,Zqn,List.append_assoc,List.length_append,eq_self,true_and,and_true,Nat.zero_add,Nat.add_zero,Nat.mul_one]
  by_cases k2 : k = 2
  · subst k2
    have hbo : bodyF (bare ⟨2, t, es, er, o, n, su, d, r, c⟩) = beN 8 o := by show beN 8 o ++ [] ++ rgB [] = _; simp [rgB]
    obtain ⟨z, hz⟩ : ∃ z, z = h3' ++ beN 8 o := ⟨_, rfl⟩
    have hzl : z.length = 36 := by rw [hz, List.length_append, hl3, beN_length]
    have hc4 : cB h3' ++ cB (beN 8 o) = cB z := by rw [hz, cB_append]
    rw [hbo, ← hz] at hR
    rw [hbo] at hbb2
    have hzb : byt8 z := by rw [hz]; exact byt8_app hhb hbb2
    have hIz := cB_okI z
    have hzc := cB_length z
    have hs := rseal_con z hzb (by omega)
    have hza : List.take z.length (cB z) = cB z := List.take_of_length_le (by rw [cB_length]; exact Nat.le_refl _)
    simp only [fB, hzl] at hs
    rw [hzl] at hzc hza
    sym =>
    simp [Zaa,Zab,Zac,Zad,Zae,Zaf,Zag,Zah,Zai,Zak,Zal,Zam,Zan,Zao,Zap,Zaq,Zav,Zaw,Zay,Zaz,Za0,Za1,Za2,Za3,Za4,Za5,Za9,Zba,Zbb,Zbc,Zbf,Zbl,Zbm,Zbt,Zbu,Zbv,Zbw,Zb2,Zck,Zcn,Zcx,Zcz,Zc0,Zc5,Zc6,Zc7,Zc8,Zc9,Zdc,Zdd,Zde,Zdf,Zdg,Zdh,Zdi,Zdj,Zdk,Zdm,Zdo,Zdp,Zdt,Zdu,Zdv,Zdw,Zdx,Zdy,Zdz,Zd0,Zd1,Zd2,Zd3,Zeb,Zee,Zeh,Zek,Zen,Zeq,Zer,Zes,Zet,Zev,Zew,Zez,Ze0,Ze2,Ze3,Ze4,Ze5,Ze8,Ze9,Zfc,Zfd,Zfe,Zff,Zfg,Zfh,Zfn,Zfq,Zfz,Zf0,Zf1,Zgh,Zgi,Zgr,Zgs,Zgt,Zgu,Zgv,Zgw,Zgx,Zgy,Zg4,Zg6,Zhf,Zhg,Zhh,Zhm,Zho,Zh1,Zh2,Zh3,Zh6,Zh7,Zio,Zip,Ziq,Zir,Zix,Ziz,Zi0,Zi1,Zi2,Zi3,Zi6,Zi7,Zjj,Zjk,Zjo,Zjr,Zkb,Zla,Zlb,Zlc,Zld,Zle,Zlf,Zlh,Zlj,Zlk,Zlm,Zlt,Zlx,Zlz,Zl2,Zl3,Zl4,Zmt,Zmv,Zmw,Zmx,Zmz,Zm3,Zm5,Zm6,Zm7,Zna,Znb,Znc,Znd,Zne,Znf,Zng,Znh,Znl,Znm,Znn,Zno,Znp,Znr,Zns,Znt,Znw,Zn5,Zob,Zoc,Zof,Zog,Zrd,Zos,Zot,Zo3,Zo4,Zo7,Zo8,Zo9,Zpb,Zpc,Zpg,Zph,Zpo,Zpu,Zpw,Zp9,Zqd,Zqe,Zqf,Zqg,Zqh,Zqi,Zqk,Zql,Zqm,Zqn,List.append_assoc,List.length_append,eq_self,true_and,and_true,Nat.zero_add,Nat.add_zero,Nat.mul_one,zF_fc,fc_0,fc_17,fc_18,fc_19,fc_20,fc_53,fc_54,fc_55,fs_0,fs_17,fs_18,fs_19,fs_20,fs_53,fs_54,fs_55,fp_1,fp_21,fp_f,rb_1,rb_21,rb_0,fc_len,fc_ok,fc_id,fc_rs,v16,v32,cB_cells,hc3,hq3,cBb_length,callable_29]
    tactic =>
    and_intros <;> try (first | omega | rfl | assumption | simp only [IN]; omega)
    refine cl none (rnumber_con' o 8 8 rfl (by omega) ho) trivial ?_
    sym =>
    simp [Zaa,Zab,Zac,Zad,Zae,Zaf,Zag,Zah,Zai,Zak,Zal,Zam,Zan,Zao,Zap,Zaq,Zav,Zaw,Zay,Zaz,Za0,Za1,Za2,Za3,Za4,Za5,Za9,Zba,Zbb,Zbc,Zbf,Zbl,Zbm,Zbt,Zbu,Zbv,Zbw,Zb2,Zck,Zcn,Zcx,Zcz,Zc0,Zc5,Zc6,Zc7,Zc8,Zc9,Zdc,Zdd,Zde,Zdf,Zdg,Zdh,Zdi,Zdj,Zdk,Zdm,Zdo,Zdp,Zdt,Zdu,Zdv,Zdw,Zdx,Zdy,Zdz,Zd0,Zd1,Zd2,Zd3,Zeb,Zee,Zeh,Zek,Zen,Zeq,Zer,Zes,Zet,Zev,Zew,Zez,Ze0,Ze2,Ze3,Ze4,Ze5,Ze8,Ze9,Zfc,Zfd,Zfe,Zff,Zfg,Zfh,Zfn,Zfq,Zfz,Zf0,Zf1,Zgh,Zgi,Zgr,Zgs,Zgt,Zgu,Zgv,Zgw,Zgx,Zgy,Zg4,Zg6,Zhf,Zhg,Zhh,Zhm,Zho,Zh1,Zh2,Zh3,Zh6,Zh7,Zio,Zip,Ziq,Zir,Zix,Ziz,Zi0,Zi1,Zi2,Zi3,Zi6,Zi7,Zjj,Zjk,Zjo,Zjr,Zkb,Zla,Zlb,Zlc,Zld,Zle,Zlf,Zlh,Zlj,Zlk,Zlm,Zlt,Zlx,Zlz,Zl2,Zl3,Zl4,Zmt,Zmv,Zmw,Zmx,Zmz,Zm3,Zm5,Zm6,Zm7,Zna,Znb,Znc,Znd,Zne,Znf,Zng,Znh,Znl,Znm,Znn,Zno,Znp,Znr,Zns,Znt,Znw,Zn5,Zob,Zoc,Zof,Zog,Zrd,Zos,Zot,Zo3,Zo4,Zo7,Zo8,Zo9,Zpb,Zpc,Zpg,Zph,Zpo,Zpu,Zpw,Zp9,Zqd,Zqe,Zqf,Zqg,Zqh,Zqi,Zqk,Zql,Zqm,Zqn,List.append_assoc,List.length_append,eq_self,true_and,and_true,Nat.zero_add,Nat.add_zero,Nat.mul_one,zF_fc,fc_0,fc_17,fc_18,fc_19,fc_20,fc_53,fc_54,fc_55,fs_0,fs_17,fs_18,fs_19,fs_20,fs_53,fs_54,fs_55,fp_1,fp_21,fp_f,rb_1,rb_21,rb_0,fc_len,fc_ok,fc_id,fc_rs,v16,v32,cB_cells,hc3,hq3,hc4,hza,hzc,cBb_length,callable_18]
    tactic =>
    and_intros <;> try (first | omega | rfl | assumption | simp only [IN]; omega)
    refine cl none (hs) trivial ?_
    sym =>
    simp [Zaa,Zab,Zac,Zad,Zae,Zaf,Zag,Zah,Zai,Zak,Zal,Zam,Zan,Zao,Zap,Zaq,Zav,Zaw,Zay,Zaz,Za0,Za1,Za2,Za3,Za4,Za5,Za9,Zba,Zbb,Zbc,Zbf,Zbl,Zbm,Zbt,Zbu,Zbv,Zbw,Zb2,Zck,Zcn,Zcx,Zcz,Zc0,Zc5,Zc6,Zc7,Zc8,Zc9,Zdc,Zdd,Zde,Zdf,Zdg,Zdh,Zdi,Zdj,Zdk,Zdm,Zdo,Zdp,Zdt,Zdu,Zdv,Zdw,Zdx,Zdy,Zdz,Zd0,Zd1,Zd2,Zd3,Zeb,Zee,Zeh,Zek,Zen,Zeq,Zer,Zes,Zet,Zev,Zew,Zez,Ze0,Ze2,Ze3,Ze4,Ze5,Ze8,Ze9,Zfc,Zfd,Zfe,Zff,Zfg,Zfh,Zfn,Zfq,Zfz,Zf0,Zf1,Zgh,Zgi,Zgr,Zgs,Zgt,Zgu,Zgv,Zgw,Zgx,Zgy,Zg4,Zg6,Zhf,Zhg,Zhh,Zhm,Zho,Zh1,Zh2,Zh3,Zh6,Zh7,Zio,Zip,Ziq,Zir,Zix,Ziz,Zi0,Zi1,Zi2,Zi3,Zi6,Zi7,Zjj,Zjk,Zjo,Zjr,Zkb,Zla,Zlb,Zlc,Zld,Zle,Zlf,Zlh,Zlj,Zlk,Zlm,Zlt,Zlx,Zlz,Zl2,Zl3,Zl4,Zmt,Zmv,Zmw,Zmx,Zmz,Zm3,Zm5,Zm6,Zm7,Zna,Znb,Znc,Znd,Zne,Znf,Zng,Znh,Znl,Znm,Znn,Zno,Znp,Znr,Zns,Znt,Znw,Zn5,Zob,Zoc,Zof,Zog,Zrd,Zos,Zot,Zo3,Zo4,Zo7,Zo8,Zo9,Zpb,Zpc,Zpg,Zph,Zpo,Zpu,Zpw,Zp9,Zqd,Zqe,Zqf,Zqg,Zqh,Zqi,Zqk,Zql,Zqm,Zqn,List.append_assoc,List.length_append,eq_self,true_and,and_true,Nat.zero_add,Nat.add_zero,Nat.mul_one]
    tactic =>
    refine endA ?_
    rw [hR]
    sym =>
    simp [Zaa,Zab,Zac,Zad,Zae,Zaf,Zag,Zah,Zai,Zak,Zal,Zam,Zan,Zao,Zap,Zaq,Zav,Zaw,Zay,Zaz,Za0,Za1,Za2,Za3,Za4,Za5,Za9,Zba,Zbb,Zbc,Zbf,Zbl,Zbm,Zbt,Zbu,Zbv,Zbw,Zb2,Zck,Zcn,Zcx,Zcz,Zc0,Zc5,Zc6,Zc7,Zc8,Zc9,Zdc,Zdd,Zde,Zdf,Zdg,Zdh,Zdi,Zdj,Zdk,Zdm,Zdo,Zdp,Zdt,Zdu,Zdv,Zdw,Zdx,Zdy,Zdz,Zd0,Zd1,Zd2,Zd3,Zeb,Zee,Zeh,Zek,Zen,Zeq,Zer,Zes,Zet,Zev,Zew,Zez,Ze0,Ze2,Ze3,Ze4,Ze5,Ze8,Ze9,Zfc,Zfd,Zfe,Zff,Zfg,Zfh,Zfn,Zfq,Zfz,Zf0,Zf1,Zgh,Zgi,Zgr,Zgs,Zgt,Zgu,Zgv,Zgw,Zgx,Zgy,Zg4,Zg6,Zhf,Zhg,Zhh,Zhm,Zho,Zh1,Zh2,Zh3,Zh6,Zh7,Zio,Zip,Ziq,Zir,Zix,Ziz,Zi0,Zi1,Zi2,Zi3,Zi6,Zi7,Zjj,Zjk,Zjo,Zjr,Zkb,Zla,Zlb,Zlc,Zld,Zle,Zlf,Zlh,Zlj,Zlk,Zlm,Zlt,Zlx,Zlz,Zl2,Zl3,Zl4,Zmt,Zmv,Zmw,Zmx,Zmz,Zm3,Zm5,Zm6,Zm7,Zna,Znb,Znc,Znd,Zne,Znf,Zng,Znh,Znl,Znm,Znn,Zno,Znp,Znr,Zns,Znt,Znw,Zn5,Zob,Zoc,Zof,Zog,Zrd,Zos,Zot,Zo3,Zo4,Zo7,Zo8,Zo9,Zpb,Zpc,Zpg,Zph,Zpo,Zpu,Zpw,Zp9,Zqd,Zqe,Zqf,Zqg,Zqh,Zqi,Zqk,Zql,Zqm,Zqn,List.append_assoc,List.length_append,eq_self,true_and,and_true,Nat.zero_add,Nat.add_zero,Nat.mul_one]
  by_cases k6 : k = 6
  · subst k6
    have hbo : bodyF (bare ⟨6, t, es, er, o, n, su, d, r, c⟩) = beN 8 n := rfl
    obtain ⟨z, hz⟩ : ∃ z, z = h3' ++ beN 8 n := ⟨_, rfl⟩
    have hzl : z.length = 36 := by rw [hz, List.length_append, hl3, beN_length]
    have hc4 : cB h3' ++ cB (beN 8 n) = cB z := by rw [hz, cB_append]
    rw [hbo, ← hz] at hR
    rw [hbo] at hbb2
    have hzb : byt8 z := by rw [hz]; exact byt8_app hhb hbb2
    have hIz := cB_okI z
    have hzc := cB_length z
    have hs := rseal_con z hzb (by omega)
    have hza : List.take z.length (cB z) = cB z := List.take_of_length_le (by rw [cB_length]; exact Nat.le_refl _)
    simp only [fB, hzl] at hs
    rw [hzl] at hzc hza
    sym =>
    simp [Zaa,Zab,Zac,Zad,Zae,Zaf,Zag,Zah,Zai,Zak,Zal,Zam,Zan,Zao,Zap,Zaq,Zav,Zaw,Zay,Zaz,Za0,Za1,Za2,Za3,Za4,Za5,Za9,Zba,Zbb,Zbc,Zbf,Zbl,Zbm,Zbt,Zbu,Zbv,Zbw,Zb2,Zck,Zcn,Zcx,Zcz,Zc0,Zc5,Zc6,Zc7,Zc8,Zc9,Zdc,Zdd,Zde,Zdf,Zdg,Zdh,Zdi,Zdj,Zdk,Zdm,Zdo,Zdp,Zdt,Zdu,Zdv,Zdw,Zdx,Zdy,Zdz,Zd0,Zd1,Zd2,Zd3,Zeb,Zee,Zeh,Zek,Zen,Zeq,Zer,Zes,Zet,Zev,Zew,Zez,Ze0,Ze2,Ze3,Ze4,Ze5,Ze8,Ze9,Zfc,Zfd,Zfe,Zff,Zfg,Zfh,Zfn,Zfq,Zfz,Zf0,Zf1,Zgh,Zgi,Zgr,Zgs,Zgt,Zgu,Zgv,Zgw,Zgx,Zgy,Zg4,Zg6,Zhf,Zhg,Zhh,Zhm,Zho,Zh1,Zh2,Zh3,Zh6,Zh7,Zio,Zip,Ziq,Zir,Zix,Ziz,Zi0,Zi1,Zi2,Zi3,Zi6,Zi7,Zjj,Zjk,Zjo,Zjr,Zkb,Zla,Zlb,Zlc,Zld,Zle,Zlf,Zlh,Zlj,Zlk,Zlm,Zlt,Zlx,Zlz,Zl2,Zl3,Zl4,Zmt,Zmv,Zmw,Zmx,Zmz,Zm3,Zm5,Zm6,Zm7,Zna,Znb,Znc,Znd,Zne,Znf,Zng,Znh,Znl,Znm,Znn,Zno,Znp,Znr,Zns,Znt,Znw,Zn5,Zob,Zoc,Zof,Zog,Zrd,Zos,Zot,Zo3,Zo4,Zo7,Zo8,Zo9,Zpb,Zpc,Zpg,Zph,Zpo,Zpu,Zpw,Zp9,Zqd,Zqe,Zqf,Zqg,Zqh,Zqi,Zqk,Zql,Zqm,Zqn,List.append_assoc,List.length_append,eq_self,true_and,and_true,Nat.zero_add,Nat.add_zero,Nat.mul_one,zF_fc,fc_0,fc_17,fc_18,fc_19,fc_20,fc_53,fc_54,fc_55,fs_0,fs_17,fs_18,fs_19,fs_20,fs_53,fs_54,fs_55,fp_1,fp_21,fp_f,rb_1,rb_21,rb_0,fc_len,fc_ok,fc_id,fc_rs,v16,v32,cB_cells,hc3,hq3,cBb_length,callable_29]
    tactic =>
    and_intros <;> try (first | omega | rfl | assumption | simp only [IN]; omega)
    refine cl none (rnumber_con' n 8 8 rfl (by omega) hn) trivial ?_
    sym =>
    simp [Zaa,Zab,Zac,Zad,Zae,Zaf,Zag,Zah,Zai,Zak,Zal,Zam,Zan,Zao,Zap,Zaq,Zav,Zaw,Zay,Zaz,Za0,Za1,Za2,Za3,Za4,Za5,Za9,Zba,Zbb,Zbc,Zbf,Zbl,Zbm,Zbt,Zbu,Zbv,Zbw,Zb2,Zck,Zcn,Zcx,Zcz,Zc0,Zc5,Zc6,Zc7,Zc8,Zc9,Zdc,Zdd,Zde,Zdf,Zdg,Zdh,Zdi,Zdj,Zdk,Zdm,Zdo,Zdp,Zdt,Zdu,Zdv,Zdw,Zdx,Zdy,Zdz,Zd0,Zd1,Zd2,Zd3,Zeb,Zee,Zeh,Zek,Zen,Zeq,Zer,Zes,Zet,Zev,Zew,Zez,Ze0,Ze2,Ze3,Ze4,Ze5,Ze8,Ze9,Zfc,Zfd,Zfe,Zff,Zfg,Zfh,Zfn,Zfq,Zfz,Zf0,Zf1,Zgh,Zgi,Zgr,Zgs,Zgt,Zgu,Zgv,Zgw,Zgx,Zgy,Zg4,Zg6,Zhf,Zhg,Zhh,Zhm,Zho,Zh1,Zh2,Zh3,Zh6,Zh7,Zio,Zip,Ziq,Zir,Zix,Ziz,Zi0,Zi1,Zi2,Zi3,Zi6,Zi7,Zjj,Zjk,Zjo,Zjr,Zkb,Zla,Zlb,Zlc,Zld,Zle,Zlf,Zlh,Zlj,Zlk,Zlm,Zlt,Zlx,Zlz,Zl2,Zl3,Zl4,Zmt,Zmv,Zmw,Zmx,Zmz,Zm3,Zm5,Zm6,Zm7,Zna,Znb,Znc,Znd,Zne,Znf,Zng,Znh,Znl,Znm,Znn,Zno,Znp,Znr,Zns,Znt,Znw,Zn5,Zob,Zoc,Zof,Zog,Zrd,Zos,Zot,Zo3,Zo4,Zo7,Zo8,Zo9,Zpb,Zpc,Zpg,Zph,Zpo,Zpu,Zpw,Zp9,Zqd,Zqe,Zqf,Zqg,Zqh,Zqi,Zqk,Zql,Zqm,Zqn,List.append_assoc,List.length_append,eq_self,true_and,and_true,Nat.zero_add,Nat.add_zero,Nat.mul_one,zF_fc,fc_0,fc_17,fc_18,fc_19,fc_20,fc_53,fc_54,fc_55,fs_0,fs_17,fs_18,fs_19,fs_20,fs_53,fs_54,fs_55,fp_1,fp_21,fp_f,rb_1,rb_21,rb_0,fc_len,fc_ok,fc_id,fc_rs,v16,v32,cB_cells,hc3,hq3,hc4,hza,hzc,cBb_length,callable_18]
    tactic =>
    and_intros <;> try (first | omega | rfl | assumption | simp only [IN]; omega)
    refine cl none (hs) trivial ?_
    sym =>
    simp [Zaa,Zab,Zac,Zad,Zae,Zaf,Zag,Zah,Zai,Zak,Zal,Zam,Zan,Zao,Zap,Zaq,Zav,Zaw,Zay,Zaz,Za0,Za1,Za2,Za3,Za4,Za5,Za9,Zba,Zbb,Zbc,Zbf,Zbl,Zbm,Zbt,Zbu,Zbv,Zbw,Zb2,Zck,Zcn,Zcx,Zcz,Zc0,Zc5,Zc6,Zc7,Zc8,Zc9,Zdc,Zdd,Zde,Zdf,Zdg,Zdh,Zdi,Zdj,Zdk,Zdm,Zdo,Zdp,Zdt,Zdu,Zdv,Zdw,Zdx,Zdy,Zdz,Zd0,Zd1,Zd2,Zd3,Zeb,Zee,Zeh,Zek,Zen,Zeq,Zer,Zes,Zet,Zev,Zew,Zez,Ze0,Ze2,Ze3,Ze4,Ze5,Ze8,Ze9,Zfc,Zfd,Zfe,Zff,Zfg,Zfh,Zfn,Zfq,Zfz,Zf0,Zf1,Zgh,Zgi,Zgr,Zgs,Zgt,Zgu,Zgv,Zgw,Zgx,Zgy,Zg4,Zg6,Zhf,Zhg,Zhh,Zhm,Zho,Zh1,Zh2,Zh3,Zh6,Zh7,Zio,Zip,Ziq,Zir,Zix,Ziz,Zi0,Zi1,Zi2,Zi3,Zi6,Zi7,Zjj,Zjk,Zjo,Zjr,Zkb,Zla,Zlb,Zlc,Zld,Zle,Zlf,Zlh,Zlj,Zlk,Zlm,Zlt,Zlx,Zlz,Zl2,Zl3,Zl4,Zmt,Zmv,Zmw,Zmx,Zmz,Zm3,Zm5,Zm6,Zm7,Zna,Znb,Znc,Znd,Zne,Znf,Zng,Znh,Znl,Znm,Znn,Zno,Znp,Znr,Zns,Znt,Znw,Zn5,Zob,Zoc,Zof,Zog,Zrd,Zos,Zot,Zo3,Zo4,Zo7,Zo8,Zo9,Zpb,Zpc,Zpg,Zph,Zpo,Zpu,Zpw,Zp9,Zqd,Zqe,Zqf,Zqg,Zqh,Zqi,Zqk,Zql,Zqm,Zqn,List.append_assoc,List.length_append,eq_self,true_and,and_true,Nat.zero_add,Nat.add_zero,Nat.mul_one]
    tactic =>
    refine endA ?_
    rw [hR]
    sym =>
    simp [Zaa,Zab,Zac,Zad,Zae,Zaf,Zag,Zah,Zai,Zak,Zal,Zam,Zan,Zao,Zap,Zaq,Zav,Zaw,Zay,Zaz,Za0,Za1,Za2,Za3,Za4,Za5,Za9,Zba,Zbb,Zbc,Zbf,Zbl,Zbm,Zbt,Zbu,Zbv,Zbw,Zb2,Zck,Zcn,Zcx,Zcz,Zc0,Zc5,Zc6,Zc7,Zc8,Zc9,Zdc,Zdd,Zde,Zdf,Zdg,Zdh,Zdi,Zdj,Zdk,Zdm,Zdo,Zdp,Zdt,Zdu,Zdv,Zdw,Zdx,Zdy,Zdz,Zd0,Zd1,Zd2,Zd3,Zeb,Zee,Zeh,Zek,Zen,Zeq,Zer,Zes,Zet,Zev,Zew,Zez,Ze0,Ze2,Ze3,Ze4,Ze5,Ze8,Ze9,Zfc,Zfd,Zfe,Zff,Zfg,Zfh,Zfn,Zfq,Zfz,Zf0,Zf1,Zgh,Zgi,Zgr,Zgs,Zgt,Zgu,Zgv,Zgw,Zgx,Zgy,Zg4,Zg6,Zhf,Zhg,Zhh,Zhm,Zho,Zh1,Zh2,Zh3,Zh6,Zh7,Zio,Zip,Ziq,Zir,Zix,Ziz,Zi0,Zi1,Zi2,Zi3,Zi6,Zi7,Zjj,Zjk,Zjo,Zjr,Zkb,Zla,Zlb,Zlc,Zld,Zle,Zlf,Zlh,Zlj,Zlk,Zlm,Zlt,Zlx,Zlz,Zl2,Zl3,Zl4,Zmt,Zmv,Zmw,Zmx,Zmz,Zm3,Zm5,Zm6,Zm7,Zna,Znb,Znc,Znd,Zne,Znf,Zng,Znh,Znl,Znm,Znn,Zno,Znp,Znr,Zns,Znt,Znw,Zn5,Zob,Zoc,Zof,Zog,Zrd,Zos,Zot,Zo3,Zo4,Zo7,Zo8,Zo9,Zpb,Zpc,Zpg,Zph,Zpo,Zpu,Zpw,Zp9,Zqd,Zqe,Zqf,Zqg,Zqh,Zqi,Zqk,Zql,Zqm,Zqn,List.append_assoc,List.length_append,eq_self,true_and,and_true,Nat.zero_add,Nat.add_zero,Nat.mul_one]
  by_cases k3 : k = 3
  · subst k3
    have hbo : bodyF (bare ⟨3, t, es, er, o, n, su, d, r, c⟩) = beN 8 o ++ d := by show beN 8 o ++ d ++ rgB [] = _; simp [rgB]
    obtain ⟨z, hz⟩ : ∃ z, z = h3' ++ (beN 8 o ++ d) := ⟨_, rfl⟩
    have hzl : z.length = 36 + d.length := by rw [hz, List.length_append, List.length_append, hl3, beN_length]; omega
    have hc4 : cB h3' ++ (cB (beN 8 o) ++ cB d) = cB z := by rw [hz, cB_append, cB_append]
    rw [hbo, ← hz] at hR
    rw [hbo] at hbb2
    have hzb : byt8 z := by rw [hz]; exact byt8_app hhb hbb2
    have hIz := cB_okI z
    have hzc := cB_length z
    have hs := rseal_con z hzb (by omega)
    have hza : List.take z.length (cB z) = cB z := List.take_of_length_le (by rw [cB_length]; exact Nat.le_refl _)
    simp only [fB, hzl] at hs
    rw [hzl] at hzc hza
    have hdl := cB_length d
    sym =>
    simp [Zaa,Zab,Zac,Zad,Zae,Zaf,Zag,Zah,Zai,Zak,Zal,Zam,Zan,Zao,Zap,Zaq,Zav,Zaw,Zay,Zaz,Za0,Za1,Za2,Za3,Za4,Za5,Za9,Zba,Zbb,Zbc,Zbf,Zbl,Zbm,Zbt,Zbu,Zbv,Zbw,Zb2,Zck,Zcn,Zcx,Zcz,Zc0,Zc5,Zc6,Zc7,Zc8,Zc9,Zdc,Zdd,Zde,Zdf,Zdg,Zdh,Zdi,Zdj,Zdk,Zdm,Zdo,Zdp,Zdt,Zdu,Zdv,Zdw,Zdx,Zdy,Zdz,Zd0,Zd1,Zd2,Zd3,Zeb,Zee,Zeh,Zek,Zen,Zeq,Zer,Zes,Zet,Zev,Zew,Zez,Ze0,Ze2,Ze3,Ze4,Ze5,Ze8,Ze9,Zfc,Zfd,Zfe,Zff,Zfg,Zfh,Zfn,Zfq,Zfz,Zf0,Zf1,Zgh,Zgi,Zgr,Zgs,Zgt,Zgu,Zgv,Zgw,Zgx,Zgy,Zg4,Zg6,Zhf,Zhg,Zhh,Zhm,Zho,Zh1,Zh2,Zh3,Zh6,Zh7,Zio,Zip,Ziq,Zir,Zix,Ziz,Zi0,Zi1,Zi2,Zi3,Zi6,Zi7,Zjj,Zjk,Zjo,Zjr,Zkb,Zla,Zlb,Zlc,Zld,Zle,Zlf,Zlh,Zlj,Zlk,Zlm,Zlt,Zlx,Zlz,Zl2,Zl3,Zl4,Zmt,Zmv,Zmw,Zmx,Zmz,Zm3,Zm5,Zm6,Zm7,Zna,Znb,Znc,Znd,Zne,Znf,Zng,Znh,Znl,Znm,Znn,Zno,Znp,Znr,Zns,Znt,Znw,Zn5,Zob,Zoc,Zof,Zog,Zrd,Zos,Zot,Zo3,Zo4,Zo7,Zo8,Zo9,Zpb,Zpc,Zpg,Zph,Zpo,Zpu,Zpw,Zp9,Zqd,Zqe,Zqf,Zqg,Zqh,Zqi,Zqk,Zql,Zqm,Zqn,List.append_assoc,List.length_append,eq_self,true_and,and_true,Nat.zero_add,Nat.add_zero,Nat.mul_one,zF_fc,fc_0,fc_17,fc_18,fc_19,fc_20,fc_53,fc_54,fc_55,fs_0,fs_17,fs_18,fs_19,fs_20,fs_53,fs_54,fs_55,fp_1,fp_21,fp_f,rb_1,rb_21,rb_0,fc_len,fc_ok,fc_id,fc_rs,v16,v32,cB_cells,hc3,hq3,cBb_length,callable_29]
    tactic =>
    and_intros <;> try (first | omega | rfl | assumption | simp only [IN]; omega)
    refine cl none (rnumber_con' o 8 8 rfl (by omega) ho) trivial ?_
    sym =>
    simp [Zaa,Zab,Zac,Zad,Zae,Zaf,Zag,Zah,Zai,Zak,Zal,Zam,Zan,Zao,Zap,Zaq,Zav,Zaw,Zay,Zaz,Za0,Za1,Za2,Za3,Za4,Za5,Za9,Zba,Zbb,Zbc,Zbf,Zbl,Zbm,Zbt,Zbu,Zbv,Zbw,Zb2,Zck,Zcn,Zcx,Zcz,Zc0,Zc5,Zc6,Zc7,Zc8,Zc9,Zdc,Zdd,Zde,Zdf,Zdg,Zdh,Zdi,Zdj,Zdk,Zdm,Zdo,Zdp,Zdt,Zdu,Zdv,Zdw,Zdx,Zdy,Zdz,Zd0,Zd1,Zd2,Zd3,Zeb,Zee,Zeh,Zek,Zen,Zeq,Zer,Zes,Zet,Zev,Zew,Zez,Ze0,Ze2,Ze3,Ze4,Ze5,Ze8,Ze9,Zfc,Zfd,Zfe,Zff,Zfg,Zfh,Zfn,Zfq,Zfz,Zf0,Zf1,Zgh,Zgi,Zgr,Zgs,Zgt,Zgu,Zgv,Zgw,Zgx,Zgy,Zg4,Zg6,Zhf,Zhg,Zhh,Zhm,Zho,Zh1,Zh2,Zh3,Zh6,Zh7,Zio,Zip,Ziq,Zir,Zix,Ziz,Zi0,Zi1,Zi2,Zi3,Zi6,Zi7,Zjj,Zjk,Zjo,Zjr,Zkb,Zla,Zlb,Zlc,Zld,Zle,Zlf,Zlh,Zlj,Zlk,Zlm,Zlt,Zlx,Zlz,Zl2,Zl3,Zl4,Zmt,Zmv,Zmw,Zmx,Zmz,Zm3,Zm5,Zm6,Zm7,Zna,Znb,Znc,Znd,Zne,Znf,Zng,Znh,Znl,Znm,Znn,Zno,Znp,Znr,Zns,Znt,Znw,Zn5,Zob,Zoc,Zof,Zog,Zrd,Zos,Zot,Zo3,Zo4,Zo7,Zo8,Zo9,Zpb,Zpc,Zpg,Zph,Zpo,Zpu,Zpw,Zp9,Zqd,Zqe,Zqf,Zqg,Zqh,Zqi,Zqk,Zql,Zqm,Zqn,List.append_assoc,List.length_append,eq_self,true_and,and_true,Nat.zero_add,Nat.add_zero,Nat.mul_one,zF_fc,fc_0,fc_17,fc_18,fc_19,fc_20,fc_53,fc_54,fc_55,fs_0,fs_17,fs_18,fs_19,fs_20,fs_53,fs_54,fs_55,fp_1,fp_21,fp_f,rb_1,rb_21,rb_0,fc_len,fc_ok,fc_id,fc_rs,v16,v32,cB_cells,hc3,hq3,hc4,hza,hzc,hdl,cBb_length,callable_18]
    tactic =>
    and_intros <;> try (first | omega | rfl | assumption | simp only [IN]; omega)
    refine cl none (hs) trivial ?_
    sym =>
    simp [Zaa,Zab,Zac,Zad,Zae,Zaf,Zag,Zah,Zai,Zak,Zal,Zam,Zan,Zao,Zap,Zaq,Zav,Zaw,Zay,Zaz,Za0,Za1,Za2,Za3,Za4,Za5,Za9,Zba,Zbb,Zbc,Zbf,Zbl,Zbm,Zbt,Zbu,Zbv,Zbw,Zb2,Zck,Zcn,Zcx,Zcz,Zc0,Zc5,Zc6,Zc7,Zc8,Zc9,Zdc,Zdd,Zde,Zdf,Zdg,Zdh,Zdi,Zdj,Zdk,Zdm,Zdo,Zdp,Zdt,Zdu,Zdv,Zdw,Zdx,Zdy,Zdz,Zd0,Zd1,Zd2,Zd3,Zeb,Zee,Zeh,Zek,Zen,Zeq,Zer,Zes,Zet,Zev,Zew,Zez,Ze0,Ze2,Ze3,Ze4,Ze5,Ze8,Ze9,Zfc,Zfd,Zfe,Zff,Zfg,Zfh,Zfn,Zfq,Zfz,Zf0,Zf1,Zgh,Zgi,Zgr,Zgs,Zgt,Zgu,Zgv,Zgw,Zgx,Zgy,Zg4,Zg6,Zhf,Zhg,Zhh,Zhm,Zho,Zh1,Zh2,Zh3,Zh6,Zh7,Zio,Zip,Ziq,Zir,Zix,Ziz,Zi0,Zi1,Zi2,Zi3,Zi6,Zi7,Zjj,Zjk,Zjo,Zjr,Zkb,Zla,Zlb,Zlc,Zld,Zle,Zlf,Zlh,Zlj,Zlk,Zlm,Zlt,Zlx,Zlz,Zl2,Zl3,Zl4,Zmt,Zmv,Zmw,Zmx,Zmz,Zm3,Zm5,Zm6,Zm7,Zna,Znb,Znc,Znd,Zne,Znf,Zng,Znh,Znl,Znm,Znn,Zno,Znp,Znr,Zns,Znt,Znw,Zn5,Zob,Zoc,Zof,Zog,Zrd,Zos,Zot,Zo3,Zo4,Zo7,Zo8,Zo9,Zpb,Zpc,Zpg,Zph,Zpo,Zpu,Zpw,Zp9,Zqd,Zqe,Zqf,Zqg,Zqh,Zqi,Zqk,Zql,Zqm,Zqn,List.append_assoc,List.length_append,eq_self,true_and,and_true,Nat.zero_add,Nat.add_zero,Nat.mul_one]
    tactic =>
    refine endA ?_
    rw [hR]
    sym =>
    simp [Zaa,Zab,Zac,Zad,Zae,Zaf,Zag,Zah,Zai,Zak,Zal,Zam,Zan,Zao,Zap,Zaq,Zav,Zaw,Zay,Zaz,Za0,Za1,Za2,Za3,Za4,Za5,Za9,Zba,Zbb,Zbc,Zbf,Zbl,Zbm,Zbt,Zbu,Zbv,Zbw,Zb2,Zck,Zcn,Zcx,Zcz,Zc0,Zc5,Zc6,Zc7,Zc8,Zc9,Zdc,Zdd,Zde,Zdf,Zdg,Zdh,Zdi,Zdj,Zdk,Zdm,Zdo,Zdp,Zdt,Zdu,Zdv,Zdw,Zdx,Zdy,Zdz,Zd0,Zd1,Zd2,Zd3,Zeb,Zee,Zeh,Zek,Zen,Zeq,Zer,Zes,Zet,Zev,Zew,Zez,Ze0,Ze2,Ze3,Ze4,Ze5,Ze8,Ze9,Zfc,Zfd,Zfe,Zff,Zfg,Zfh,Zfn,Zfq,Zfz,Zf0,Zf1,Zgh,Zgi,Zgr,Zgs,Zgt,Zgu,Zgv,Zgw,Zgx,Zgy,Zg4,Zg6,Zhf,Zhg,Zhh,Zhm,Zho,Zh1,Zh2,Zh3,Zh6,Zh7,Zio,Zip,Ziq,Zir,Zix,Ziz,Zi0,Zi1,Zi2,Zi3,Zi6,Zi7,Zjj,Zjk,Zjo,Zjr,Zkb,Zla,Zlb,Zlc,Zld,Zle,Zlf,Zlh,Zlj,Zlk,Zlm,Zlt,Zlx,Zlz,Zl2,Zl3,Zl4,Zmt,Zmv,Zmw,Zmx,Zmz,Zm3,Zm5,Zm6,Zm7,Zna,Znb,Znc,Znd,Zne,Znf,Zng,Znh,Znl,Znm,Znn,Zno,Znp,Znr,Zns,Znt,Znw,Zn5,Zob,Zoc,Zof,Zog,Zrd,Zos,Zot,Zo3,Zo4,Zo7,Zo8,Zo9,Zpb,Zpc,Zpg,Zph,Zpo,Zpu,Zpw,Zp9,Zqd,Zqe,Zqf,Zqg,Zqh,Zqi,Zqk,Zql,Zqm,Zqn,List.append_assoc,List.length_append,eq_self,true_and,and_true,Nat.zero_add,Nat.add_zero,Nat.mul_one]
  by_cases k4 : k = 4
  · subst k4
    have hbo : bodyF (bare ⟨4, t, es, er, o, n, su, d, r, c⟩) = beN 8 o ++ rgB r := by show beN 8 o ++ [] ++ rgB r = _; simp
    obtain ⟨z, hz⟩ : ∃ z, z = h3' ++ (beN 8 o ++ rgB r) := ⟨_, rfl⟩
    have hzl : z.length = 36 + 16 * r.length := by rw [hz, List.length_append, List.length_append, hl3, beN_length, rgB_length]; omega
    obtain ⟨h4', hh4⟩ : ∃ h4', h4' = h3' ++ beN 8 o := ⟨_, rfl⟩
    have hl4 : h4'.length = 36 := by rw [hh4, List.length_append, hl3, beN_length]
    have hc4 : cB h3' ++ cB (beN 8 o) = cB h4' := by rw [hh4, cB_append]
    have hq4 := cB_length h4'
    rw [hl4] at hq4
    have hI4 := cB_okI h4'
    rw [hbo, ← hz] at hR
    rw [hbo] at hbb2
    have hzb : byt8 z := by rw [hz]; exact byt8_app hhb hbb2
    have hIz := cB_okI z
    have hzc := cB_length z
    have hs := rseal_con z hzb (by omega)
    have hza : List.take z.length (cB z) = cB z := List.take_of_length_le (by rw [cB_length]; exact Nat.le_refl _)
    simp only [fB, hzl] at hs
    rw [hzl] at hzc hza
    sym =>
    simp [Zaa,Zab,Zac,Zad,Zae,Zaf,Zag,Zah,Zai,Zak,Zal,Zam,Zan,Zao,Zap,Zaq,Zav,Zaw,Zay,Zaz,Za0,Za1,Za2,Za3,Za4,Za5,Za9,Zba,Zbb,Zbc,Zbf,Zbl,Zbm,Zbt,Zbu,Zbv,Zbw,Zb2,Zck,Zcn,Zcx,Zcz,Zc0,Zc5,Zc6,Zc7,Zc8,Zc9,Zdc,Zdd,Zde,Zdf,Zdg,Zdh,Zdi,Zdj,Zdk,Zdm,Zdo,Zdp,Zdt,Zdu,Zdv,Zdw,Zdx,Zdy,Zdz,Zd0,Zd1,Zd2,Zd3,Zeb,Zee,Zeh,Zek,Zen,Zeq,Zer,Zes,Zet,Zev,Zew,Zez,Ze0,Ze2,Ze3,Ze4,Ze5,Ze8,Ze9,Zfc,Zfd,Zfe,Zff,Zfg,Zfh,Zfn,Zfq,Zfz,Zf0,Zf1,Zgh,Zgi,Zgr,Zgs,Zgt,Zgu,Zgv,Zgw,Zgx,Zgy,Zg4,Zg6,Zhf,Zhg,Zhh,Zhm,Zho,Zh1,Zh2,Zh3,Zh6,Zh7,Zio,Zip,Ziq,Zir,Zix,Ziz,Zi0,Zi1,Zi2,Zi3,Zi6,Zi7,Zjj,Zjk,Zjo,Zjr,Zkb,Zla,Zlb,Zlc,Zld,Zle,Zlf,Zlh,Zlj,Zlk,Zlm,Zlt,Zlx,Zlz,Zl2,Zl3,Zl4,Zmt,Zmv,Zmw,Zmx,Zmz,Zm3,Zm5,Zm6,Zm7,Zna,Znb,Znc,Znd,Zne,Znf,Zng,Znh,Znl,Znm,Znn,Zno,Znp,Znr,Zns,Znt,Znw,Zn5,Zob,Zoc,Zof,Zog,Zrd,Zos,Zot,Zo3,Zo4,Zo7,Zo8,Zo9,Zpb,Zpc,Zpg,Zph,Zpo,Zpu,Zpw,Zp9,Zqd,Zqe,Zqf,Zqg,Zqh,Zqi,Zqk,Zql,Zqm,Zqn,List.append_assoc,List.length_append,eq_self,true_and,and_true,Nat.zero_add,Nat.add_zero,Nat.mul_one,zF_fc,fc_0,fc_17,fc_18,fc_19,fc_20,fc_53,fc_54,fc_55,fs_0,fs_17,fs_18,fs_19,fs_20,fs_53,fs_54,fs_55,fp_1,fp_21,fp_f,rb_1,rb_21,rb_0,fc_len,fc_ok,fc_id,fc_rs,v16,v32,cB_cells,hc3,hq3,cBb_length,callable_29]
    tactic =>
    and_intros <;> try (first | omega | rfl | assumption | simp only [IN]; omega)
    refine cl none (rnumber_con' o 8 8 rfl (by omega) ho) trivial ?_
    sym =>
    simp [Zaa,Zab,Zac,Zad,Zae,Zaf,Zag,Zah,Zai,Zak,Zal,Zam,Zan,Zao,Zap,Zaq,Zav,Zaw,Zay,Zaz,Za0,Za1,Za2,Za3,Za4,Za5,Za9,Zba,Zbb,Zbc,Zbf,Zbl,Zbm,Zbt,Zbu,Zbv,Zbw,Zb2,Zck,Zcn,Zcx,Zcz,Zc0,Zc5,Zc6,Zc7,Zc8,Zc9,Zdc,Zdd,Zde,Zdf,Zdg,Zdh,Zdi,Zdj,Zdk,Zdm,Zdo,Zdp,Zdt,Zdu,Zdv,Zdw,Zdx,Zdy,Zdz,Zd0,Zd1,Zd2,Zd3,Zeb,Zee,Zeh,Zek,Zen,Zeq,Zer,Zes,Zet,Zev,Zew,Zez,Ze0,Ze2,Ze3,Ze4,Ze5,Ze8,Ze9,Zfc,Zfd,Zfe,Zff,Zfg,Zfh,Zfn,Zfq,Zfz,Zf0,Zf1,Zgh,Zgi,Zgr,Zgs,Zgt,Zgu,Zgv,Zgw,Zgx,Zgy,Zg4,Zg6,Zhf,Zhg,Zhh,Zhm,Zho,Zh1,Zh2,Zh3,Zh6,Zh7,Zio,Zip,Ziq,Zir,Zix,Ziz,Zi0,Zi1,Zi2,Zi3,Zi6,Zi7,Zjj,Zjk,Zjo,Zjr,Zkb,Zla,Zlb,Zlc,Zld,Zle,Zlf,Zlh,Zlj,Zlk,Zlm,Zlt,Zlx,Zlz,Zl2,Zl3,Zl4,Zmt,Zmv,Zmw,Zmx,Zmz,Zm3,Zm5,Zm6,Zm7,Zna,Znb,Znc,Znd,Zne,Znf,Zng,Znh,Znl,Znm,Znn,Zno,Znp,Znr,Zns,Znt,Znw,Zn5,Zob,Zoc,Zof,Zog,Zrd,Zos,Zot,Zo3,Zo4,Zo7,Zo8,Zo9,Zpb,Zpc,Zpg,Zph,Zpo,Zpu,Zpw,Zp9,Zqd,Zqe,Zqf,Zqg,Zqh,Zqi,Zqk,Zql,Zqm,Zqn,List.append_assoc,List.length_append,eq_self,true_and,and_true,Nat.zero_add,Nat.add_zero,Nat.mul_one,zF_fc,fc_0,fc_17,fc_18,fc_19,fc_20,fc_53,fc_54,fc_55,fs_0,fs_17,fs_18,fs_19,fs_20,fs_53,fs_54,fs_55,fp_1,fp_21,fp_f,rb_1,rb_21,rb_0,fc_len,fc_ok,fc_id,fc_rs,v16,v32,cB_cells,hc3,hq3,hc4,hq4,cBb_length]
    tactic =>
    and_intros <;> try (first | omega | rfl | assumption | simp only [IN]; omega)

    refine lpA (i11 (fc 4 t es er o n su (fB d) (fR r) c) h4' r) r.length [(0, 0), (1, 49)] _ ⟨0, by omega, rfl⟩ (wkA ?_) ?_
    · sym =>
      simp [Zaa,Zab,Zac,Zad,Zae,Zaf,Zag,Zah,Zai,Zak,Zal,Zam,Zan,Zao,Zap,Zaq,Zav,Zaw,Zay,Zaz,Za0,Za1,Za2,Za3,Za4,Za5,Za9,Zba,Zbb,Zbc,Zbf,Zbl,Zbm,Zbt,Zbu,Zbv,Zbw,Zb2,Zck,Zcn,Zcx,Zcz,Zc0,Zc5,Zc6,Zc7,Zc8,Zc9,Zdc,Zdd,Zde,Zdf,Zdg,Zdh,Zdi,Zdj,Zdk,Zdm,Zdo,Zdp,Zdt,Zdu,Zdv,Zdw,Zdx,Zdy,Zdz,Zd0,Zd1,Zd2,Zd3,Zeb,Zee,Zeh,Zek,Zen,Zeq,Zer,Zes,Zet,Zev,Zew,Zez,Ze0,Ze2,Ze3,Ze4,Ze5,Ze8,Ze9,Zfc,Zfd,Zfe,Zff,Zfg,Zfh,Zfn,Zfq,Zfz,Zf0,Zf1,Zgh,Zgi,Zgr,Zgs,Zgt,Zgu,Zgv,Zgw,Zgx,Zgy,Zg4,Zg6,Zhf,Zhg,Zhh,Zhm,Zho,Zh1,Zh2,Zh3,Zh6,Zh7,Zio,Zip,Ziq,Zir,Zix,Ziz,Zi0,Zi1,Zi2,Zi3,Zi6,Zi7,Zjj,Zjk,Zjo,Zjr,Zkb,Zla,Zlb,Zlc,Zld,Zle,Zlf,Zlh,Zlj,Zlk,Zlm,Zlt,Zlx,Zlz,Zl2,Zl3,Zl4,Zmt,Zmv,Zmw,Zmx,Zmz,Zm3,Zm5,Zm6,Zm7,Zna,Znb,Znc,Znd,Zne,Znf,Zng,Znh,Znl,Znm,Znn,Zno,Znp,Znr,Zns,Znt,Znw,Zn5,Zob,Zoc,Zof,Zog,Zrd,Zos,Zot,Zo3,Zo4,Zo7,Zo8,Zo9,Zpb,Zpc,Zpg,Zph,Zpo,Zpu,Zpw,Zp9,Zqd,Zqe,Zqf,Zqg,Zqh,Zqi,Zqk,Zql,Zqm,Zqn,List.append_assoc,List.length_append,eq_self,true_and,and_true,Nat.zero_add,Nat.add_zero,Nat.mul_one,zF_fc,fc_0,fc_17,fc_18,fc_19,fc_20,fc_53,fc_54,fc_55,fs_0,fs_17,fs_18,fs_19,fs_20,fs_53,fs_54,fs_55,fp_1,fp_21,fp_f,rb_1,rb_21,rb_0,fc_len,fc_ok,fc_id,fc_rs,v16,v32,cB_cells]
      tactic =>
      exact ⟨by omega, cB_rs _ _ _ _ _ (by simp [rgB])⟩
    rintro kk s ⟨i, hi, rfl⟩
    rw [hl4]
    by_cases h : i < r.length
    · have hw := w64s i (by omega)
      have a0 := cR_q0 r i h
      have a1 := cR_q1 r i h
      have ht := take_step r i h
      have hu := hrr r[i] (List.getElem_mem h)
      obtain ⟨x, hx⟩ : ∃ x, x = r[i] := ⟨_, rfl⟩
      rw [← hx] at a0 a1 ht hu
      obtain ⟨w0, hw0⟩ : ∃ w0, w0 = h4' ++ rgB (r.take i) := ⟨_, rfl⟩
      have hwl : w0.length = 36 + 16 * i := by rw [hw0, List.length_append, rgB_length, List.length_take]; omega
      obtain ⟨w1, hw1⟩ : ∃ w1, w1 = w0 ++ beN 8 x.1 := ⟨_, rfl⟩
      obtain ⟨w2, hw2⟩ : ∃ w2, w2 = w1 ++ beN 8 x.2 := ⟨_, rfl⟩
      have hwe : w2 = h4' ++ rgB (r.take (i + 1)) := by rw [hw2, hw1, hw0, ht, rgB_snoc]; simp
      have g1 : cB w0 ++ cB (beN 8 x.1) = cB w1 := by rw [hw1, cB_append]
      have g2 : cB w1 ++ cB (beN 8 x.2) = cB w2 := by rw [hw2, cB_append]
      have fx1 := okF_beN 8 x.1
      have fx2 := okF_beN 8 x.2
      have hI0 := cB_okI w0
      have hI2 := cB_okI w2
      have hc0 := cB_length w0
      rw [hwl] at hc0
      have hc1 := cB_length w1
      rw [show w1.length = 36 + 16 * i + 8 from by rw [hw1, List.length_append, hwl, beN_length]] at hc1
      rw [← hw0]
      sym =>
      simp [Zaa,Zab,Zac,Zad,Zae,Zaf,Zag,Zah,Zai,Zak,Zal,Zam,Zan,Zao,Zap,Zaq,Zav,Zaw,Zay,Zaz,Za0,Za1,Za2,Za3,Za4,Za5,Za9,Zba,Zbb,Zbc,Zbf,Zbl,Zbm,Zbt,Zbu,Zbv,Zbw,Zb2,Zck,Zcn,Zcx,Zcz,Zc0,Zc5,Zc6,Zc7,Zc8,Zc9,Zdc,Zdd,Zde,Zdf,Zdg,Zdh,Zdi,Zdj,Zdk,Zdm,Zdo,Zdp,Zdt,Zdu,Zdv,Zdw,Zdx,Zdy,Zdz,Zd0,Zd1,Zd2,Zd3,Zeb,Zee,Zeh,Zek,Zen,Zeq,Zer,Zes,Zet,Zev,Zew,Zez,Ze0,Ze2,Ze3,Ze4,Ze5,Ze8,Ze9,Zfc,Zfd,Zfe,Zff,Zfg,Zfh,Zfn,Zfq,Zfz,Zf0,Zf1,Zgh,Zgi,Zgr,Zgs,Zgt,Zgu,Zgv,Zgw,Zgx,Zgy,Zg4,Zg6,Zhf,Zhg,Zhh,Zhm,Zho,Zh1,Zh2,Zh3,Zh6,Zh7,Zio,Zip,Ziq,Zir,Zix,Ziz,Zi0,Zi1,Zi2,Zi3,Zi6,Zi7,Zjj,Zjk,Zjo,Zjr,Zkb,Zla,Zlb,Zlc,Zld,Zle,Zlf,Zlh,Zlj,Zlk,Zlm,Zlt,Zlx,Zlz,Zl2,Zl3,Zl4,Zmt,Zmv,Zmw,Zmx,Zmz,Zm3,Zm5,Zm6,Zm7,Zna,Znb,Znc,Znd,Zne,Znf,Zng,Znh,Znl,Znm,Znn,Zno,Znp,Znr,Zns,Znt,Znw,Zn5,Zob,Zoc,Zof,Zog,Zrd,Zos,Zot,Zo3,Zo4,Zo7,Zo8,Zo9,Zpb,Zpc,Zpg,Zph,Zpo,Zpu,Zpw,Zp9,Zqd,Zqe,Zqf,Zqg,Zqh,Zqi,Zqk,Zql,Zqm,Zqn,List.append_assoc,List.length_append,eq_self,true_and,and_true,Nat.zero_add,Nat.add_zero,Nat.mul_one,zF_fc,fc_0,fc_17,fc_18,fc_19,fc_20,fc_53,fc_54,fc_55,fs_0,fs_17,fs_18,fs_19,fs_20,fs_53,fs_54,fs_55,fp_1,fp_21,fp_f,rb_1,rb_21,rb_0,fc_len,fc_ok,fc_id,fc_rs,v16,v32,cB_cells,h,hw,a0,a1,hc0,cBb_length,cR_length,callable_29]
      tactic =>
      and_intros <;> try (first | omega | rfl | assumption | simp only [IN]; omega)
      refine cl none (rnumber_con' x.1 8 8 rfl (by omega) hu.1) trivial ?_
      sym =>
      simp [Zaa,Zab,Zac,Zad,Zae,Zaf,Zag,Zah,Zai,Zak,Zal,Zam,Zan,Zao,Zap,Zaq,Zav,Zaw,Zay,Zaz,Za0,Za1,Za2,Za3,Za4,Za5,Za9,Zba,Zbb,Zbc,Zbf,Zbl,Zbm,Zbt,Zbu,Zbv,Zbw,Zb2,Zck,Zcn,Zcx,Zcz,Zc0,Zc5,Zc6,Zc7,Zc8,Zc9,Zdc,Zdd,Zde,Zdf,Zdg,Zdh,Zdi,Zdj,Zdk,Zdm,Zdo,Zdp,Zdt,Zdu,Zdv,Zdw,Zdx,Zdy,Zdz,Zd0,Zd1,Zd2,Zd3,Zeb,Zee,Zeh,Zek,Zen,Zeq,Zer,Zes,Zet,Zev,Zew,Zez,Ze0,Ze2,Ze3,Ze4,Ze5,Ze8,Ze9,Zfc,Zfd,Zfe,Zff,Zfg,Zfh,Zfn,Zfq,Zfz,Zf0,Zf1,Zgh,Zgi,Zgr,Zgs,Zgt,Zgu,Zgv,Zgw,Zgx,Zgy,Zg4,Zg6,Zhf,Zhg,Zhh,Zhm,Zho,Zh1,Zh2,Zh3,Zh6,Zh7,Zio,Zip,Ziq,Zir,Zix,Ziz,Zi0,Zi1,Zi2,Zi3,Zi6,Zi7,Zjj,Zjk,Zjo,Zjr,Zkb,Zla,Zlb,Zlc,Zld,Zle,Zlf,Zlh,Zlj,Zlk,Zlm,Zlt,Zlx,Zlz,Zl2,Zl3,Zl4,Zmt,Zmv,Zmw,Zmx,Zmz,Zm3,Zm5,Zm6,Zm7,Zna,Znb,Znc,Znd,Zne,Znf,Zng,Znh,Znl,Znm,Znn,Zno,Znp,Znr,Zns,Znt,Znw,Zn5,Zob,Zoc,Zof,Zog,Zrd,Zos,Zot,Zo3,Zo4,Zo7,Zo8,Zo9,Zpb,Zpc,Zpg,Zph,Zpo,Zpu,Zpw,Zp9,Zqd,Zqe,Zqf,Zqg,Zqh,Zqi,Zqk,Zql,Zqm,Zqn,List.append_assoc,List.length_append,eq_self,true_and,and_true,Nat.zero_add,Nat.add_zero,Nat.mul_one,zF_fc,fc_0,fc_17,fc_18,fc_19,fc_20,fc_53,fc_54,fc_55,fs_0,fs_17,fs_18,fs_19,fs_20,fs_53,fs_54,fs_55,fp_1,fp_21,fp_f,rb_1,rb_21,rb_0,fc_len,fc_ok,fc_id,fc_rs,v16,v32,cB_cells,h,hw,a0,a1,hc0,g1,cBb_length,cR_length,callable_29]
      tactic =>
      and_intros <;> try (first | omega | rfl | assumption | simp only [IN]; omega)
      refine cl none (rnumber_con' x.2 8 8 rfl (by omega) hu.2) trivial ?_
      sym =>
      simp [Zaa,Zab,Zac,Zad,Zae,Zaf,Zag,Zah,Zai,Zak,Zal,Zam,Zan,Zao,Zap,Zaq,Zav,Zaw,Zay,Zaz,Za0,Za1,Za2,Za3,Za4,Za5,Za9,Zba,Zbb,Zbc,Zbf,Zbl,Zbm,Zbt,Zbu,Zbv,Zbw,Zb2,Zck,Zcn,Zcx,Zcz,Zc0,Zc5,Zc6,Zc7,Zc8,Zc9,Zdc,Zdd,Zde,Zdf,Zdg,Zdh,Zdi,Zdj,Zdk,Zdm,Zdo,Zdp,Zdt,Zdu,Zdv,Zdw,Zdx,Zdy,Zdz,Zd0,Zd1,Zd2,Zd3,Zeb,Zee,Zeh,Zek,Zen,Zeq,Zer,Zes,Zet,Zev,Zew,Zez,Ze0,Ze2,Ze3,Ze4,Ze5,Ze8,Ze9,Zfc,Zfd,Zfe,Zff,Zfg,Zfh,Zfn,Zfq,Zfz,Zf0,Zf1,Zgh,Zgi,Zgr,Zgs,Zgt,Zgu,Zgv,Zgw,Zgx,Zgy,Zg4,Zg6,Zhf,Zhg,Zhh,Zhm,Zho,Zh1,Zh2,Zh3,Zh6,Zh7,Zio,Zip,Ziq,Zir,Zix,Ziz,Zi0,Zi1,Zi2,Zi3,Zi6,Zi7,Zjj,Zjk,Zjo,Zjr,Zkb,Zla,Zlb,Zlc,Zld,Zle,Zlf,Zlh,Zlj,Zlk,Zlm,Zlt,Zlx,Zlz,Zl2,Zl3,Zl4,Zmt,Zmv,Zmw,Zmx,Zmz,Zm3,Zm5,Zm6,Zm7,Zna,Znb,Znc,Znd,Zne,Znf,Zng,Znh,Znl,Znm,Znn,Zno,Znp,Znr,Zns,Znt,Znw,Zn5,Zob,Zoc,Zof,Zog,Zrd,Zos,Zot,Zo3,Zo4,Zo7,Zo8,Zo9,Zpb,Zpc,Zpg,Zph,Zpo,Zpu,Zpw,Zp9,Zqd,Zqe,Zqf,Zqg,Zqh,Zqi,Zqk,Zql,Zqm,Zqn,List.append_assoc,List.length_append,eq_self,true_and,and_true,Nat.zero_add,Nat.add_zero,Nat.mul_one,zF_fc,fc_0,fc_17,fc_18,fc_19,fc_20,fc_53,fc_54,fc_55,fs_0,fs_17,fs_18,fs_19,fs_20,fs_53,fs_54,fs_55,fp_1,fp_21,fp_f,rb_1,rb_21,rb_0,fc_len,fc_ok,fc_id,fc_rs,v16,v32,cB_cells,h,hw,hc1,g2,cBb_length,cR_length]
      tactic =>
      and_intros <;> try (first | omega | rfl | assumption | simp only [IN]; omega)
      unfold NextL; refine ⟨(kk - 1), [(0, 0), (1, 23)], _, by omega, ⟨i + 1, by omega, rfl⟩, wkA ?_⟩
      sym =>
      simp [Zaa,Zab,Zac,Zad,Zae,Zaf,Zag,Zah,Zai,Zak,Zal,Zam,Zan,Zao,Zap,Zaq,Zav,Zaw,Zay,Zaz,Za0,Za1,Za2,Za3,Za4,Za5,Za9,Zba,Zbb,Zbc,Zbf,Zbl,Zbm,Zbt,Zbu,Zbv,Zbw,Zb2,Zck,Zcn,Zcx,Zcz,Zc0,Zc5,Zc6,Zc7,Zc8,Zc9,Zdc,Zdd,Zde,Zdf,Zdg,Zdh,Zdi,Zdj,Zdk,Zdm,Zdo,Zdp,Zdt,Zdu,Zdv,Zdw,Zdx,Zdy,Zdz,Zd0,Zd1,Zd2,Zd3,Zeb,Zee,Zeh,Zek,Zen,Zeq,Zer,Zes,Zet,Zev,Zew,Zez,Ze0,Ze2,Ze3,Ze4,Ze5,Ze8,Ze9,Zfc,Zfd,Zfe,Zff,Zfg,Zfh,Zfn,Zfq,Zfz,Zf0,Zf1,Zgh,Zgi,Zgr,Zgs,Zgt,Zgu,Zgv,Zgw,Zgx,Zgy,Zg4,Zg6,Zhf,Zhg,Zhh,Zhm,Zho,Zh1,Zh2,Zh3,Zh6,Zh7,Zio,Zip,Ziq,Zir,Zix,Ziz,Zi0,Zi1,Zi2,Zi3,Zi6,Zi7,Zjj,Zjk,Zjo,Zjr,Zkb,Zla,Zlb,Zlc,Zld,Zle,Zlf,Zlh,Zlj,Zlk,Zlm,Zlt,Zlx,Zlz,Zl2,Zl3,Zl4,Zmt,Zmv,Zmw,Zmx,Zmz,Zm3,Zm5,Zm6,Zm7,Zna,Znb,Znc,Znd,Zne,Znf,Zng,Znh,Znl,Znm,Znn,Zno,Znp,Znr,Zns,Znt,Znw,Zn5,Zob,Zoc,Zof,Zog,Zrd,Zos,Zot,Zo3,Zo4,Zo7,Zo8,Zo9,Zpb,Zpc,Zpg,Zph,Zpo,Zpu,Zpw,Zp9,Zqd,Zqe,Zqf,Zqg,Zqh,Zqi,Zqk,Zql,Zqm,Zqn,List.append_assoc,List.length_append,eq_self,true_and,and_true,Nat.zero_add,Nat.add_zero,Nat.mul_one,zF_fc,fc_0,fc_17,fc_18,fc_19,fc_20,fc_53,fc_54,fc_55,fs_0,fs_17,fs_18,fs_19,fs_20,fs_53,fs_54,fs_55,fp_1,fp_21,fp_f,rb_1,rb_21,rb_0,fc_len,fc_ok,fc_id,fc_rs,v16,v32,cB_cells]
      tactic =>
      rw [hwe, hl4]
      exact ⟨by omega, rs_self (cB_okI _)⟩
    · have e : r.take i = r := List.take_of_length_le (by omega)
      obtain rfl : i = r.length := by omega
      have hz5 : h4' ++ rgB r = z := by rw [hz, hh4, List.append_assoc]
      rw [e, hz5]
      sym =>
      simp [Zaa,Zab,Zac,Zad,Zae,Zaf,Zag,Zah,Zai,Zak,Zal,Zam,Zan,Zao,Zap,Zaq,Zav,Zaw,Zay,Zaz,Za0,Za1,Za2,Za3,Za4,Za5,Za9,Zba,Zbb,Zbc,Zbf,Zbl,Zbm,Zbt,Zbu,Zbv,Zbw,Zb2,Zck,Zcn,Zcx,Zcz,Zc0,Zc5,Zc6,Zc7,Zc8,Zc9,Zdc,Zdd,Zde,Zdf,Zdg,Zdh,Zdi,Zdj,Zdk,Zdm,Zdo,Zdp,Zdt,Zdu,Zdv,Zdw,Zdx,Zdy,Zdz,Zd0,Zd1,Zd2,Zd3,Zeb,Zee,Zeh,Zek,Zen,Zeq,Zer,Zes,Zet,Zev,Zew,Zez,Ze0,Ze2,Ze3,Ze4,Ze5,Ze8,Ze9,Zfc,Zfd,Zfe,Zff,Zfg,Zfh,Zfn,Zfq,Zfz,Zf0,Zf1,Zgh,Zgi,Zgr,Zgs,Zgt,Zgu,Zgv,Zgw,Zgx,Zgy,Zg4,Zg6,Zhf,Zhg,Zhh,Zhm,Zho,Zh1,Zh2,Zh3,Zh6,Zh7,Zio,Zip,Ziq,Zir,Zix,Ziz,Zi0,Zi1,Zi2,Zi3,Zi6,Zi7,Zjj,Zjk,Zjo,Zjr,Zkb,Zla,Zlb,Zlc,Zld,Zle,Zlf,Zlh,Zlj,Zlk,Zlm,Zlt,Zlx,Zlz,Zl2,Zl3,Zl4,Zmt,Zmv,Zmw,Zmx,Zmz,Zm3,Zm5,Zm6,Zm7,Zna,Znb,Znc,Znd,Zne,Znf,Zng,Znh,Znl,Znm,Znn,Zno,Znp,Znr,Zns,Znt,Znw,Zn5,Zob,Zoc,Zof,Zog,Zrd,Zos,Zot,Zo3,Zo4,Zo7,Zo8,Zo9,Zpb,Zpc,Zpg,Zph,Zpo,Zpu,Zpw,Zp9,Zqd,Zqe,Zqf,Zqg,Zqh,Zqi,Zqk,Zql,Zqm,Zqn,List.append_assoc,List.length_append,eq_self,true_and,and_true,Nat.zero_add,Nat.add_zero,Nat.mul_one,zF_fc,fc_0,fc_17,fc_18,fc_19,fc_20,fc_53,fc_54,fc_55,fs_0,fs_17,fs_18,fs_19,fs_20,fs_53,fs_54,fs_55,fp_1,fp_21,fp_f,rb_1,rb_21,rb_0,fc_len,fc_ok,fc_id,fc_rs,v16,v32,cB_cells,h,hza,hzc,cR_length,callable_18]
      tactic =>
      and_intros <;> try (first | omega | rfl | assumption | simp only [IN]; omega)
      refine cl none (hs) trivial ?_
      sym =>
      simp [Zaa,Zab,Zac,Zad,Zae,Zaf,Zag,Zah,Zai,Zak,Zal,Zam,Zan,Zao,Zap,Zaq,Zav,Zaw,Zay,Zaz,Za0,Za1,Za2,Za3,Za4,Za5,Za9,Zba,Zbb,Zbc,Zbf,Zbl,Zbm,Zbt,Zbu,Zbv,Zbw,Zb2,Zck,Zcn,Zcx,Zcz,Zc0,Zc5,Zc6,Zc7,Zc8,Zc9,Zdc,Zdd,Zde,Zdf,Zdg,Zdh,Zdi,Zdj,Zdk,Zdm,Zdo,Zdp,Zdt,Zdu,Zdv,Zdw,Zdx,Zdy,Zdz,Zd0,Zd1,Zd2,Zd3,Zeb,Zee,Zeh,Zek,Zen,Zeq,Zer,Zes,Zet,Zev,Zew,Zez,Ze0,Ze2,Ze3,Ze4,Ze5,Ze8,Ze9,Zfc,Zfd,Zfe,Zff,Zfg,Zfh,Zfn,Zfq,Zfz,Zf0,Zf1,Zgh,Zgi,Zgr,Zgs,Zgt,Zgu,Zgv,Zgw,Zgx,Zgy,Zg4,Zg6,Zhf,Zhg,Zhh,Zhm,Zho,Zh1,Zh2,Zh3,Zh6,Zh7,Zio,Zip,Ziq,Zir,Zix,Ziz,Zi0,Zi1,Zi2,Zi3,Zi6,Zi7,Zjj,Zjk,Zjo,Zjr,Zkb,Zla,Zlb,Zlc,Zld,Zle,Zlf,Zlh,Zlj,Zlk,Zlm,Zlt,Zlx,Zlz,Zl2,Zl3,Zl4,Zmt,Zmv,Zmw,Zmx,Zmz,Zm3,Zm5,Zm6,Zm7,Zna,Znb,Znc,Znd,Zne,Znf,Zng,Znh,Znl,Znm,Znn,Zno,Znp,Znr,Zns,Znt,Znw,Zn5,Zob,Zoc,Zof,Zog,Zrd,Zos,Zot,Zo3,Zo4,Zo7,Zo8,Zo9,Zpb,Zpc,Zpg,Zph,Zpo,Zpu,Zpw,Zp9,Zqd,Zqe,Zqf,Zqg,Zqh,Zqi,Zqk,Zql,Zqm,Zqn,List.append_assoc,List.length_append,eq_self,true_and,and_true,Nat.zero_add,Nat.add_zero,Nat.mul_one]
      tactic =>
      refine endA ?_
      rw [hR]
      sym =>
      simp [Zaa,Zab,Zac,Zad,Zae,Zaf,Zag,Zah,Zai,Zak,Zal,Zam,Zan,Zao,Zap,Zaq,Zav,Zaw,Zay,Zaz,Za0,Za1,Za2,Za3,Za4,Za5,Za9,Zba,Zbb,Zbc,Zbf,Zbl,Zbm,Zbt,Zbu,Zbv,Zbw,Zb2,Zck,Zcn,Zcx,Zcz,Zc0,Zc5,Zc6,Zc7,Zc8,Zc9,Zdc,Zdd,Zde,Zdf,Zdg,Zdh,Zdi,Zdj,Zdk,Zdm,Zdo,Zdp,Zdt,Zdu,Zdv,Zdw,Zdx,Zdy,Zdz,Zd0,Zd1,Zd2,Zd3,Zeb,Zee,Zeh,Zek,Zen,Zeq,Zer,Zes,Zet,Zev,Zew,Zez,Ze0,Ze2,Ze3,Ze4,Ze5,Ze8,Ze9,Zfc,Zfd,Zfe,Zff,Zfg,Zfh,Zfn,Zfq,Zfz,Zf0,Zf1,Zgh,Zgi,Zgr,Zgs,Zgt,Zgu,Zgv,Zgw,Zgx,Zgy,Zg4,Zg6,Zhf,Zhg,Zhh,Zhm,Zho,Zh1,Zh2,Zh3,Zh6,Zh7,Zio,Zip,Ziq,Zir,Zix,Ziz,Zi0,Zi1,Zi2,Zi3,Zi6,Zi7,Zjj,Zjk,Zjo,Zjr,Zkb,Zla,Zlb,Zlc,Zld,Zle,Zlf,Zlh,Zlj,Zlk,Zlm,Zlt,Zlx,Zlz,Zl2,Zl3,Zl4,Zmt,Zmv,Zmw,Zmx,Zmz,Zm3,Zm5,Zm6,Zm7,Zna,Znb,Znc,Znd,Zne,Znf,Zng,Znh,Znl,Znm,Znn,Zno,Znp,Znr,Zns,Znt,Znw,Zn5,Zob,Zoc,Zof,Zog,Zrd,Zos,Zot,Zo3,Zo4,Zo7,Zo8,Zo9,Zpb,Zpc,Zpg,Zph,Zpo,Zpu,Zpw,Zp9,Zqd,Zqe,Zqf,Zqg,Zqh,Zqi,Zqk,Zql,Zqm,Zqn,List.append_assoc,List.length_append,eq_self,true_and,and_true,Nat.zero_add,Nat.add_zero,Nat.mul_one]
  have k7 : k = 7 := by
    by_cases h : k = 7
    · exact h
    exfalso
    unfold mayF at hM
    simp only [k1, k2, k3, k4, k5, k6, h, or_self, if_false] at hM
    cases hM
  subst k7
  have hbo : bodyF (bare ⟨7, t, es, er, o, n, su, d, r, c⟩) = [c % 256] := rfl
  obtain ⟨z, hz⟩ : ∃ z, z = h3' ++ [c % 256] := ⟨_, rfl⟩
  have hzl : z.length = 29 := by rw [hz, List.length_append, hl3]; rfl
  have hc4 : cB h3' ++ [Y (c % 256)] = cB z := by rw [hz, cB_append]; rfl
  have hwc := w8u c
  rw [hbo, ← hz] at hR
  rw [hbo] at hbb2
  have hzb : byt8 z := by rw [hz]; exact byt8_app hhb hbb2
  have hIz := cB_okI z
  have hzc := cB_length z
  have hs := rseal_con z hzb (by omega)
  have hza : List.take z.length (cB z) = cB z := List.take_of_length_le (by rw [cB_length]; exact Nat.le_refl _)
  simp only [fB, hzl] at hs
  rw [hzl] at hzc hza
  sym =>
  simp [Zaa,Zab,Zac,Zad,Zae,Zaf,Zag,Zah,Zai,Zak,Zal,Zam,Zan,Zao,Zap,Zaq,Zav,Zaw,Zay,Zaz,Za0,Za1,Za2,Za3,Za4,Za5,Za9,Zba,Zbb,Zbc,Zbf,Zbl,Zbm,Zbt,Zbu,Zbv,Zbw,Zb2,Zck,Zcn,Zcx,Zcz,Zc0,Zc5,Zc6,Zc7,Zc8,Zc9,Zdc,Zdd,Zde,Zdf,Zdg,Zdh,Zdi,Zdj,Zdk,Zdm,Zdo,Zdp,Zdt,Zdu,Zdv,Zdw,Zdx,Zdy,Zdz,Zd0,Zd1,Zd2,Zd3,Zeb,Zee,Zeh,Zek,Zen,Zeq,Zer,Zes,Zet,Zev,Zew,Zez,Ze0,Ze2,Ze3,Ze4,Ze5,Ze8,Ze9,Zfc,Zfd,Zfe,Zff,Zfg,Zfh,Zfn,Zfq,Zfz,Zf0,Zf1,Zgh,Zgi,Zgr,Zgs,Zgt,Zgu,Zgv,Zgw,Zgx,Zgy,Zg4,Zg6,Zhf,Zhg,Zhh,Zhm,Zho,Zh1,Zh2,Zh3,Zh6,Zh7,Zio,Zip,Ziq,Zir,Zix,Ziz,Zi0,Zi1,Zi2,Zi3,Zi6,Zi7,Zjj,Zjk,Zjo,Zjr,Zkb,Zla,Zlb,Zlc,Zld,Zle,Zlf,Zlh,Zlj,Zlk,Zlm,Zlt,Zlx,Zlz,Zl2,Zl3,Zl4,Zmt,Zmv,Zmw,Zmx,Zmz,Zm3,Zm5,Zm6,Zm7,Zna,Znb,Znc,Znd,Zne,Znf,Zng,Znh,Znl,Znm,Znn,Zno,Znp,Znr,Zns,Znt,Znw,Zn5,Zob,Zoc,Zof,Zog,Zrd,Zos,Zot,Zo3,Zo4,Zo7,Zo8,Zo9,Zpb,Zpc,Zpg,Zph,Zpo,Zpu,Zpw,Zp9,Zqd,Zqe,Zqf,Zqg,Zqh,Zqi,Zqk,Zql,Zqm,Zqn,List.append_assoc,List.length_append,eq_self,true_and,and_true,Nat.zero_add,Nat.add_zero,Nat.mul_one,zF_fc,fc_0,fc_17,fc_18,fc_19,fc_20,fc_53,fc_54,fc_55,fs_0,fs_17,fs_18,fs_19,fs_20,fs_53,fs_54,fs_55,fp_1,fp_21,fp_f,rb_1,rb_21,rb_0,fc_len,fc_ok,fc_id,fc_rs,v16,v32,cB_cells,hc3,hq3,cBb_length,hwc,hc4,hza,hzc,callable_18]
  tactic =>
  and_intros <;> try (first | omega | rfl | assumption | simp only [IN]; omega)
  refine cl none (hs) trivial ?_
  sym =>
  simp [Zaa,Zab,Zac,Zad,Zae,Zaf,Zag,Zah,Zai,Zak,Zal,Zam,Zan,Zao,Zap,Zaq,Zav,Zaw,Zay,Zaz,Za0,Za1,Za2,Za3,Za4,Za5,Za9,Zba,Zbb,Zbc,Zbf,Zbl,Zbm,Zbt,Zbu,Zbv,Zbw,Zb2,Zck,Zcn,Zcx,Zcz,Zc0,Zc5,Zc6,Zc7,Zc8,Zc9,Zdc,Zdd,Zde,Zdf,Zdg,Zdh,Zdi,Zdj,Zdk,Zdm,Zdo,Zdp,Zdt,Zdu,Zdv,Zdw,Zdx,Zdy,Zdz,Zd0,Zd1,Zd2,Zd3,Zeb,Zee,Zeh,Zek,Zen,Zeq,Zer,Zes,Zet,Zev,Zew,Zez,Ze0,Ze2,Ze3,Ze4,Ze5,Ze8,Ze9,Zfc,Zfd,Zfe,Zff,Zfg,Zfh,Zfn,Zfq,Zfz,Zf0,Zf1,Zgh,Zgi,Zgr,Zgs,Zgt,Zgu,Zgv,Zgw,Zgx,Zgy,Zg4,Zg6,Zhf,Zhg,Zhh,Zhm,Zho,Zh1,Zh2,Zh3,Zh6,Zh7,Zio,Zip,Ziq,Zir,Zix,Ziz,Zi0,Zi1,Zi2,Zi3,Zi6,Zi7,Zjj,Zjk,Zjo,Zjr,Zkb,Zla,Zlb,Zlc,Zld,Zle,Zlf,Zlh,Zlj,Zlk,Zlm,Zlt,Zlx,Zlz,Zl2,Zl3,Zl4,Zmt,Zmv,Zmw,Zmx,Zmz,Zm3,Zm5,Zm6,Zm7,Zna,Znb,Znc,Znd,Zne,Znf,Zng,Znh,Znl,Znm,Znn,Zno,Znp,Znr,Zns,Znt,Znw,Zn5,Zob,Zoc,Zof,Zog,Zrd,Zos,Zot,Zo3,Zo4,Zo7,Zo8,Zo9,Zpb,Zpc,Zpg,Zph,Zpo,Zpu,Zpw,Zp9,Zqd,Zqe,Zqf,Zqg,Zqh,Zqi,Zqk,Zql,Zqm,Zqn,List.append_assoc,List.length_append,eq_self,true_and,and_true,Nat.zero_add,Nat.add_zero,Nat.mul_one]
  tactic =>
  refine endA ?_
  rw [hR]
  sym =>
  simp [Zaa,Zab,Zac,Zad,Zae,Zaf,Zag,Zah,Zai,Zak,Zal,Zam,Zan,Zao,Zap,Zaq,Zav,Zaw,Zay,Zaz,Za0,Za1,Za2,Za3,Za4,Za5,Za9,Zba,Zbb,Zbc,Zbf,Zbl,Zbm,Zbt,Zbu,Zbv,Zbw,Zb2,Zck,Zcn,Zcx,Zcz,Zc0,Zc5,Zc6,Zc7,Zc8,Zc9,Zdc,Zdd,Zde,Zdf,Zdg,Zdh,Zdi,Zdj,Zdk,Zdm,Zdo,Zdp,Zdt,Zdu,Zdv,Zdw,Zdx,Zdy,Zdz,Zd0,Zd1,Zd2,Zd3,Zeb,Zee,Zeh,Zek,Zen,Zeq,Zer,Zes,Zet,Zev,Zew,Zez,Ze0,Ze2,Ze3,Ze4,Ze5,Ze8,Ze9,Zfc,Zfd,Zfe,Zff,Zfg,Zfh,Zfn,Zfq,Zfz,Zf0,Zf1,Zgh,Zgi,Zgr,Zgs,Zgt,Zgu,Zgv,Zgw,Zgx,Zgy,Zg4,Zg6,Zhf,Zhg,Zhh,Zhm,Zho,Zh1,Zh2,Zh3,Zh6,Zh7,Zio,Zip,Ziq,Zir,Zix,Ziz,Zi0,Zi1,Zi2,Zi3,Zi6,Zi7,Zjj,Zjk,Zjo,Zjr,Zkb,Zla,Zlb,Zlc,Zld,Zle,Zlf,Zlh,Zlj,Zlk,Zlm,Zlt,Zlx,Zlz,Zl2,Zl3,Zl4,Zmt,Zmv,Zmw,Zmx,Zmz,Zm3,Zm5,Zm6,Zm7,Zna,Znb,Znc,Znd,Zne,Znf,Zng,Znh,Znl,Znm,Znn,Zno,Znp,Znr,Zns,Znt,Znw,Zn5,Zob,Zoc,Zof,Zog,Zrd,Zos,Zot,Zo3,Zo4,Zo7,Zo8,Zo9,Zpb,Zpc,Zpg,Zph,Zpo,Zpu,Zpw,Zp9,Zqd,Zqe,Zqf,Zqg,Zqh,Zqi,Zqk,Zql,Zqm,Zqn,List.append_assoc,List.length_append,eq_self,true_and,and_true,Nat.zero_add,Nat.add_zero,Nat.mul_one]
end Go.Proofs.Ythhccabdlajngaa.FrmP
