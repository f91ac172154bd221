import Derived.Test.YthhccabdlajngaaFrmE
namespace Go.Proofs.Ythhccabdlajngaa.FrmF
open Go Go.Sim Go.Sim.E Go.RowKit Go.Proofs Go.Proofs.Ythhccabdlajngaa.Cod Go.Proofs.Ythhccabdlajngaa.Tab Go.Proofs.Ythhccabdlajngaa.Bse Go.Proofs.Ythhccabdlajngaa.Krc Go.Proofs.Ythhccabdlajngaa.FrmA Go.Proofs.Ythhccabdlajngaa.FrmB Go.Proofs.Ythhccabdlajngaa.FrmC Go.Proofs.Ythhccabdlajngaa.FrmD Go.Proofs.Ythhccabdlajngaa.FrmE
set_option linter.unusedVariables false
set_option linter.unusedSimpArgs false
set_option maxRecDepth 100000
set_option maxHeartbeats 4000000
def rgB (l : List Rg) : List Int := l.flatMap fun r => beN 8 r.1 ++ beN 8 r.2
theorem rgB_snoc (l : List Rg) (r : Rg) : rgB (l ++ [r]) = rgB l ++ beN 8 r.1 ++ beN 8 r.2 := by simp [rgB]
theorem rgB_length (l : List Rg) : (rgB l).length = 16 * l.length := by
  induction l with
  | nil => rfl
  | cons r l ih =>
    show (beN 8 r.1 ++ beN 8 r.2 ++ rgB l).length = _
    simp [beN_length, ih]; omega
/-- A frame's fields. -/
def bodyF (f : Fm) : List Int :=
  if f.k = 1 ∨ f.k = 5 then beN 8 f.n ++ f.su.1
  else if f.k = 6 then beN 8 f.n
  else if f.k = 7 then [f.c % 256]
  else beN 8 f.o ++ f.d ++ rgB f.r
theorem number_con' (b b' : List Int) (n : Int) (w m : Nat) (hw : w ≤ 8) (hm : b.length = m) (hb : m ≤ 100000000000000) (e : b' = b ++ beN w n) (m' : Nat) (hm' : m' = m + w) (wi : Int) (hwi : wi = IN w) : Con Try.prog 24 [(0, ⟨cB b, 1, 0⟩)] [.lv 0 0 m, L n, I wi] [(1, ⟨cB b', 1, 0⟩)] (.lv 1 0 m') := by
  subst hm e hm' hwi
  exact number_con b n w hw hb
def i26 (b : List Int) (r : List Rg) (k : Nat) (s : St) : Prop := ∃ i : Nat, i + k = r.length ∧ s = ⟨[(0, .lv 1 0 (b.length + 16 * i)), (41, fR r), (42, I (IN r.length)), (43, I (IN i))], [(1, ⟨cB (b ++ rgB (r.take i)), 1, 0⟩)], 2⟩
theorem body_con (b : List Int) (f : Fm) (hb : b.length ≤ 1000000) (hd : f.d.length ≤ 1000000) (hr : f.r.length ≤ 1000000) (m : Nat) (hm : m = b.length + (bodyF f).length) : Con Try.prog 26 [(0, ⟨cB b, 1, 0⟩)] [.lv 0 0 b.length, .ag (fr f)] [(1, ⟨cB (b ++ bodyF f), 1, 0⟩)] (.lv 1 0 m) := by
  obtain ⟨k, t, es, er, o, n, su, d, r, c⟩ := f
  simp only at hd hr
  have h32 := su.2
  have hoI := cB_okI b
  have hbl := cB_length b
  have hsF := cB_okF su.1
  have hdF := cB_okF d
  by_cases h1 : k = 1 ∨ k = 5
  · have hbo : bodyF ⟨k, t, es, er, o, n, su, d, r, c⟩ = beN 8 n ++ su.1 := if_pos h1
    rw [hbo] at hm ⊢
    rw [List.length_append, beN_length, h32] at hm
    simp only [fr]
    refine con_n b26 rfl ?_
    obtain ⟨b1, hb1⟩ : ∃ b1, b1 = b ++ beN 8 n := ⟨_, rfl⟩
    have hn := number_con' b b1 n 8 b.length (by omega) rfl (by omega) hb1 (b.length + 8) rfl 8 rfl
    have hl1 : b1.length = b.length + 8 := by rw [hb1, List.length_append, beN_length]
    have hc : cB b1 ++ cB su.1 = cB (b ++ (beN 8 n ++ su.1)) := by rw [hb1, ← cB_append, List.append_assoc]
    have hq := cB_length b1
    rw [hl1] at hq
    rcases h1 with rfl | rfl
    · sym =>
      simp [Zaa,Zab,Zac,Zad,Zae,Zaf,Zag,Zah,Zai,Zak,Zal,Zam,Zan,Zao,Zap,Zaq,Zar,Zav,Zaw,Zay,Zaz,Za0,Za1,Za2,Za3,Za4,Za5,Za9,Zba,Zbb,Zbc,Zbf,Zbl,Zbt,Zbu,Zbv,Zbw,Zb1,Zck,Zcn,Zcv,Zcx,Zcz,Zc3,Zc5,Zc6,Zc7,Zc8,Zc9,Zdm,Zrj,Zrk,Zrl,Zrm,Zrn,Zro,Zrp,Zrq,Zrr,Zrs,Zru,Zrv,Zrw,Zrx,Zry,Zrz,Zr0,Zr2,Zr9,Zsd,Zse,Zsf,Zsg,Zsh,Zsj,Zsm,Zsn,Zso,Zsq,Zss,Zsy,Zth,Zti,Zdo,Zdp,Zdt,Zdu,Zdv,Zdw,Zdx,Zdy,Zdz,Zd0,Zd1,Zd2,Zeb,Zeh,Zek,Zeq,Zet,Zev,Zew,Zez,Ze0,Ze1,Ze2,Ze3,Ze4,Ze5,Ze8,Ze9,Zfc,Zfd,Zfe,Zff,Zfg,Zfh,Zfn,Zfq,Zfz,Zf1,Zgh,Zgi,Zgr,Zgs,Zgt,Zgu,Zgv,Zgw,Zgx,Zg4,Zg6,Zhf,Zhg,Zhh,Zhm,Zho,Zh1,Zh2,Zh3,Zh6,Zh7,Zin,Zio,Zip,Ziq,Zir,Ziu,Ziv,Ziw,Zix,Ziz,Zi0,Zi1,Zi2,Zi3,Zi6,Zi7,Zjh,Zji,Zjj,Zjk,Zjn,Zjo,Zlj,Zlt,Zlx,Zl2,Zmt,Zmv,Zmw,Zmx,Zmz,Zm2,Zm5,Zm6,Zm7,Zm9,Zna,Znb,Znc,Znd,Zne,Znf,Zng,Znh,Znl,Znm,Znn,Zno,Znp,Znr,Zns,Znt,Znw,Zn5,Zoc,Zrd,Zos,Zot,Zo7,Zo8,Zo9,Zpc,Zpi,Zpo,Zq5,Zq6,Zqf,Zqg,Zqh,Zqi,Zqk,Zql,Zqm,Zqn,List.append_assoc,List.length_append,eq_self,true_and,and_true,Nat.zero_add,Nat.add_zero,Nat.mul_one,zF_fc,fc_0,fc_17,fc_18,fc_19,fc_20,fc_53,fc_54,fc_55,fs_0,fs_17,fs_18,fs_19,fs_20,fs_53,fs_54,fs_55,fp_1,fp_21,fp_f,rb_1,rb_21,rb_0,fc_len,fc_ok,fc_id,fc_rs,v16,v32,cB_cells,callable_24]
      tactic =>
      and_intros <;> try (first | omega | rfl | assumption | simp only [IN]; omega)
      refine clG [none] (some ⟨cB b1, 1, 0⟩) hn rfl ⟨trivial, cB_okI _, rfl⟩ ?_
      sym =>
      simp [Zaa,Zab,Zac,Zad,Zae,Zaf,Zag,Zah,Zai,Zak,Zal,Zam,Zan,Zao,Zap,Zaq,Zar,Zav,Zaw,Zay,Zaz,Za0,Za1,Za2,Za3,Za4,Za5,Za9,Zba,Zbb,Zbc,Zbf,Zbl,Zbt,Zbu,Zbv,Zbw,Zb1,Zck,Zcn,Zcv,Zcx,Zcz,Zc3,Zc5,Zc6,Zc7,Zc8,Zc9,Zdm,Zrj,Zrk,Zrl,Zrm,Zrn,Zro,Zrp,Zrq,Zrr,Zrs,Zru,Zrv,Zrw,Zrx,Zry,Zrz,Zr0,Zr2,Zr9,Zsd,Zse,Zsf,Zsg,Zsh,Zsj,Zsm,Zsn,Zso,Zsq,Zss,Zsy,Zth,Zti,Zdo,Zdp,Zdt,Zdu,Zdv,Zdw,Zdx,Zdy,Zdz,Zd0,Zd1,Zd2,Zeb,Zeh,Zek,Zeq,Zet,Zev,Zew,Zez,Ze0,Ze1,Ze2,Ze3,Ze4,Ze5,Ze8,Ze9,Zfc,Zfd,Zfe,Zff,Zfg,Zfh,Zfn,Zfq,Zfz,Zf1,Zgh,Zgi,Zgr,Zgs,Zgt,Zgu,Zgv,Zgw,Zgx,Zg4,Zg6,Zhf,Zhg,Zhh,Zhm,Zho,Zh1,Zh2,Zh3,Zh6,Zh7,Zin,Zio,Zip,Ziq,Zir,Ziu,Ziv,Ziw,Zix,Ziz,Zi0,Zi1,Zi2,Zi3,Zi6,Zi7,Zjh,Zji,Zjj,Zjk,Zjn,Zjo,Zlj,Zlt,Zlx,Zl2,Zmt,Zmv,Zmw,Zmx,Zmz,Zm2,Zm5,Zm6,Zm7,Zm9,Zna,Znb,Znc,Znd,Zne,Znf,Zng,Znh,Znl,Znm,Znn,Zno,Znp,Znr,Zns,Znt,Znw,Zn5,Zoc,Zrd,Zos,Zot,Zo7,Zo8,Zo9,Zpc,Zpi,Zpo,Zq5,Zq6,Zqf,Zqg,Zqh,Zqi,Zqk,Zql,Zqm,Zqn,List.append_assoc,List.length_append,eq_self,true_and,and_true,Nat.zero_add,Nat.add_zero,Nat.mul_one,zF_fc,fc_0,fc_17,fc_18,fc_19,fc_20,fc_53,fc_54,fc_55,fs_0,fs_17,fs_18,fs_19,fs_20,fs_53,fs_54,fs_55,fp_1,fp_21,fp_f,rb_1,rb_21,rb_0,fc_len,fc_ok,fc_id,fc_rs,v16,v32,cB_cells,hq,fc_sum]
      tactic =>
      and_intros <;> try (first | omega | rfl | assumption | simp only [IN]; omega)
      rw [hc]
      refine endM [(1, 13)] 2 ?_
      sym =>
      simp [Zaa,Zab,Zac,Zad,Zae,Zaf,Zag,Zah,Zai,Zak,Zal,Zam,Zan,Zao,Zap,Zaq,Zar,Zav,Zaw,Zay,Zaz,Za0,Za1,Za2,Za3,Za4,Za5,Za9,Zba,Zbb,Zbc,Zbf,Zbl,Zbt,Zbu,Zbv,Zbw,Zb1,Zck,Zcn,Zcv,Zcx,Zcz,Zc3,Zc5,Zc6,Zc7,Zc8,Zc9,Zdm,Zrj,Zrk,Zrl,Zrm,Zrn,Zro,Zrp,Zrq,Zrr,Zrs,Zru,Zrv,Zrw,Zrx,Zry,Zrz,Zr0,Zr2,Zr9,Zsd,Zse,Zsf,Zsg,Zsh,Zsj,Zsm,Zsn,Zso,Zsq,Zss,Zsy,Zth,Zti,Zdo,Zdp,Zdt,Zdu,Zdv,Zdw,Zdx,Zdy,Zdz,Zd0,Zd1,Zd2,Zeb,Zeh,Zek,Zeq,Zet,Zev,Zew,Zez,Ze0,Ze1,Ze2,Ze3,Ze4,Ze5,Ze8,Ze9,Zfc,Zfd,Zfe,Zff,Zfg,Zfh,Zfn,Zfq,Zfz,Zf1,Zgh,Zgi,Zgr,Zgs,Zgt,Zgu,Zgv,Zgw,Zgx,Zg4,Zg6,Zhf,Zhg,Zhh,Zhm,Zho,Zh1,Zh2,Zh3,Zh6,Zh7,Zin,Zio,Zip,Ziq,Zir,Ziu,Ziv,Ziw,Zix,Ziz,Zi0,Zi1,Zi2,Zi3,Zi6,Zi7,Zjh,Zji,Zjj,Zjk,Zjn,Zjo,Zlj,Zlt,Zlx,Zl2,Zmt,Zmv,Zmw,Zmx,Zmz,Zm2,Zm5,Zm6,Zm7,Zm9,Zna,Znb,Znc,Znd,Zne,Znf,Zng,Znh,Znl,Znm,Znn,Zno,Znp,Znr,Zns,Znt,Znw,Zn5,Zoc,Zrd,Zos,Zot,Zo7,Zo8,Zo9,Zpc,Zpi,Zpo,Zq5,Zq6,Zqf,Zqg,Zqh,Zqi,Zqk,Zql,Zqm,Zqn,List.append_assoc,List.length_append,eq_self,true_and,and_true,Nat.zero_add,Nat.add_zero,Nat.mul_one]
      tactic =>
      exact ⟨by omega, cB_rs _ _ _ _ _ rfl⟩
    · sym =>
      simp [Zaa,Zab,Zac,Zad,Zae,Zaf,Zag,Zah,Zai,Zak,Zal,Zam,Zan,Zao,Zap,Zaq,Zar,Zav,Zaw,Zay,Zaz,Za0,Za1,Za2,Za3,Za4,Za5,Za9,Zba,Zbb,Zbc,Zbf,Zbl,Zbt,Zbu,Zbv,Zbw,Zb1,Zck,Zcn,Zcv,Zcx,Zcz,Zc3,Zc5,Zc6,Zc7,Zc8,Zc9,Zdm,Zrj,Zrk,Zrl,Zrm,Zrn,Zro,Zrp,Zrq,Zrr,Zrs,Zru,Zrv,Zrw,Zrx,Zry,Zrz,Zr0,Zr2,Zr9,Zsd,Zse,Zsf,Zsg,Zsh,Zsj,Zsm,Zsn,Zso,Zsq,Zss,Zsy,Zth,Zti,Zdo,Zdp,Zdt,Zdu,Zdv,Zdw,Zdx,Zdy,Zdz,Zd0,Zd1,Zd2,Zeb,Zeh,Zek,Zeq,Zet,Zev,Zew,Zez,Ze0,Ze1,Ze2,Ze3,Ze4,Ze5,Ze8,Ze9,Zfc,Zfd,Zfe,Zff,Zfg,Zfh,Zfn,Zfq,Zfz,Zf1,Zgh,Zgi,Zgr,Zgs,Zgt,Zgu,Zgv,Zgw,Zgx,Zg4,Zg6,Zhf,Zhg,Zhh,Zhm,Zho,Zh1,Zh2,Zh3,Zh6,Zh7,Zin,Zio,Zip,Ziq,Zir,Ziu,Ziv,Ziw,Zix,Ziz,Zi0,Zi1,Zi2,Zi3,Zi6,Zi7,Zjh,Zji,Zjj,Zjk,Zjn,Zjo,Zlj,Zlt,Zlx,Zl2,Zmt,Zmv,Zmw,Zmx,Zmz,Zm2,Zm5,Zm6,Zm7,Zm9,Zna,Znb,Znc,Znd,Zne,Znf,Zng,Znh,Znl,Znm,Znn,Zno,Znp,Znr,Zns,Znt,Znw,Zn5,Zoc,Zrd,Zos,Zot,Zo7,Zo8,Zo9,Zpc,Zpi,Zpo,Zq5,Zq6,Zqf,Zqg,Zqh,Zqi,Zqk,Zql,Zqm,Zqn,List.append_assoc,List.length_append,eq_self,true_and,and_true,Nat.zero_add,Nat.add_zero,Nat.mul_one,zF_fc,fc_0,fc_17,fc_18,fc_19,fc_20,fc_53,fc_54,fc_55,fs_0,fs_17,fs_18,fs_19,fs_20,fs_53,fs_54,fs_55,fp_1,fp_21,fp_f,rb_1,rb_21,rb_0,fc_len,fc_ok,fc_id,fc_rs,v16,v32,cB_cells,callable_24]
      tactic =>
      and_intros <;> try (first | omega | rfl | assumption | simp only [IN]; omega)
      refine clG [none] (some ⟨cB b1, 1, 0⟩) hn rfl ⟨trivial, cB_okI _, rfl⟩ ?_
      sym =>
      simp [Zaa,Zab,Zac,Zad,Zae,Zaf,Zag,Zah,Zai,Zak,Zal,Zam,Zan,Zao,Zap,Zaq,Zar,Zav,Zaw,Zay,Zaz,Za0,Za1,Za2,Za3,Za4,Za5,Za9,Zba,Zbb,Zbc,Zbf,Zbl,Zbt,Zbu,Zbv,Zbw,Zb1,Zck,Zcn,Zcv,Zcx,Zcz,Zc3,Zc5,Zc6,Zc7,Zc8,Zc9,Zdm,Zrj,Zrk,Zrl,Zrm,Zrn,Zro,Zrp,Zrq,Zrr,Zrs,Zru,Zrv,Zrw,Zrx,Zry,Zrz,Zr0,Zr2,Zr9,Zsd,Zse,Zsf,Zsg,Zsh,Zsj,Zsm,Zsn,Zso,Zsq,Zss,Zsy,Zth,Zti,Zdo,Zdp,Zdt,Zdu,Zdv,Zdw,Zdx,Zdy,Zdz,Zd0,Zd1,Zd2,Zeb,Zeh,Zek,Zeq,Zet,Zev,Zew,Zez,Ze0,Ze1,Ze2,Ze3,Ze4,Ze5,Ze8,Ze9,Zfc,Zfd,Zfe,Zff,Zfg,Zfh,Zfn,Zfq,Zfz,Zf1,Zgh,Zgi,Zgr,Zgs,Zgt,Zgu,Zgv,Zgw,Zgx,Zg4,Zg6,Zhf,Zhg,Zhh,Zhm,Zho,Zh1,Zh2,Zh3,Zh6,Zh7,Zin,Zio,Zip,Ziq,Zir,Ziu,Ziv,Ziw,Zix,Ziz,Zi0,Zi1,Zi2,Zi3,Zi6,Zi7,Zjh,Zji,Zjj,Zjk,Zjn,Zjo,Zlj,Zlt,Zlx,Zl2,Zmt,Zmv,Zmw,Zmx,Zmz,Zm2,Zm5,Zm6,Zm7,Zm9,Zna,Znb,Znc,Znd,Zne,Znf,Zng,Znh,Znl,Znm,Znn,Zno,Znp,Znr,Zns,Znt,Znw,Zn5,Zoc,Zrd,Zos,Zot,Zo7,Zo8,Zo9,Zpc,Zpi,Zpo,Zq5,Zq6,Zqf,Zqg,Zqh,Zqi,Zqk,Zql,Zqm,Zqn,List.append_assoc,List.length_append,eq_self,true_and,and_true,Nat.zero_add,Nat.add_zero,Nat.mul_one,zF_fc,fc_0,fc_17,fc_18,fc_19,fc_20,fc_53,fc_54,fc_55,fs_0,fs_17,fs_18,fs_19,fs_20,fs_53,fs_54,fs_55,fp_1,fp_21,fp_f,rb_1,rb_21,rb_0,fc_len,fc_ok,fc_id,fc_rs,v16,v32,cB_cells,hq,fc_sum]
      tactic =>
      and_intros <;> try (first | omega | rfl | assumption | simp only [IN]; omega)
      rw [hc]
      refine endM [(1, 15)] 2 ?_
      sym =>
      simp [Zaa,Zab,Zac,Zad,Zae,Zaf,Zag,Zah,Zai,Zak,Zal,Zam,Zan,Zao,Zap,Zaq,Zar,Zav,Zaw,Zay,Zaz,Za0,Za1,Za2,Za3,Za4,Za5,Za9,Zba,Zbb,Zbc,Zbf,Zbl,Zbt,Zbu,Zbv,Zbw,Zb1,Zck,Zcn,Zcv,Zcx,Zcz,Zc3,Zc5,Zc6,Zc7,Zc8,Zc9,Zdm,Zrj,Zrk,Zrl,Zrm,Zrn,Zro,Zrp,Zrq,Zrr,Zrs,Zru,Zrv,Zrw,Zrx,Zry,Zrz,Zr0,Zr2,Zr9,Zsd,Zse,Zsf,Zsg,Zsh,Zsj,Zsm,Zsn,Zso,Zsq,Zss,Zsy,Zth,Zti,Zdo,Zdp,Zdt,Zdu,Zdv,Zdw,Zdx,Zdy,Zdz,Zd0,Zd1,Zd2,Zeb,Zeh,Zek,Zeq,Zet,Zev,Zew,Zez,Ze0,Ze1,Ze2,Ze3,Ze4,Ze5,Ze8,Ze9,Zfc,Zfd,Zfe,Zff,Zfg,Zfh,Zfn,Zfq,Zfz,Zf1,Zgh,Zgi,Zgr,Zgs,Zgt,Zgu,Zgv,Zgw,Zgx,Zg4,Zg6,Zhf,Zhg,Zhh,Zhm,Zho,Zh1,Zh2,Zh3,Zh6,Zh7,Zin,Zio,Zip,Ziq,Zir,Ziu,Ziv,Ziw,Zix,Ziz,Zi0,Zi1,Zi2,Zi3,Zi6,Zi7,Zjh,Zji,Zjj,Zjk,Zjn,Zjo,Zlj,Zlt,Zlx,Zl2,Zmt,Zmv,Zmw,Zmx,Zmz,Zm2,Zm5,Zm6,Zm7,Zm9,Zna,Znb,Znc,Znd,Zne,Znf,Zng,Znh,Znl,Znm,Znn,Zno,Znp,Znr,Zns,Znt,Znw,Zn5,Zoc,Zrd,Zos,Zot,Zo7,Zo8,Zo9,Zpc,Zpi,Zpo,Zq5,Zq6,Zqf,Zqg,Zqh,Zqi,Zqk,Zql,Zqm,Zqn,List.append_assoc,List.length_append,eq_self,true_and,and_true,Nat.zero_add,Nat.add_zero,Nat.mul_one]
      tactic =>
      exact ⟨by omega, cB_rs _ _ _ _ _ rfl⟩
  have k1 : ¬ k = 1 := fun e => h1 (.inl e)
  have k5 : ¬ k = 5 := fun e => h1 (.inr e)
  by_cases h6 : k = 6
  · have hbo : bodyF ⟨k, t, es, er, o, n, su, d, r, c⟩ = beN 8 n := (if_neg h1).trans (if_pos h6)
    rw [hbo] at hm ⊢
    rw [beN_length] at hm
    subst h6
    simp only [fr]
    refine con_n b26 rfl ?_
    have hn := number_con' b (b ++ beN 8 n) n 8 b.length (by omega) rfl (by omega) rfl (b.length + 8) rfl 8 rfl
    obtain ⟨b1, hb1⟩ : ∃ b1, b1 = b ++ beN 8 n := ⟨_, rfl⟩
    rw [← hb1] at hn ⊢
    sym =>
    simp [Zaa,Zab,Zac,Zad,Zae,Zaf,Zag,Zah,Zai,Zak,Zal,Zam,Zan,Zao,Zap,Zaq,Zar,Zav,Zaw,Zay,Zaz,Za0,Za1,Za2,Za3,Za4,Za5,Za9,Zba,Zbb,Zbc,Zbf,Zbl,Zbt,Zbu,Zbv,Zbw,Zb1,Zck,Zcn,Zcv,Zcx,Zcz,Zc3,Zc5,Zc6,Zc7,Zc8,Zc9,Zdm,Zrj,Zrk,Zrl,Zrm,Zrn,Zro,Zrp,Zrq,Zrr,Zrs,Zru,Zrv,Zrw,Zrx,Zry,Zrz,Zr0,Zr2,Zr9,Zsd,Zse,Zsf,Zsg,Zsh,Zsj,Zsm,Zsn,Zso,Zsq,Zss,Zsy,Zth,Zti,Zdo,Zdp,Zdt,Zdu,Zdv,Zdw,Zdx,Zdy,Zdz,Zd0,Zd1,Zd2,Zeb,Zeh,Zek,Zeq,Zet,Zev,Zew,Zez,Ze0,Ze1,Ze2,Ze3,Ze4,Ze5,Ze8,Ze9,Zfc,Zfd,Zfe,Zff,Zfg,Zfh,Zfn,Zfq,Zfz,Zf1,Zgh,Zgi,Zgr,Zgs,Zgt,Zgu,Zgv,Zgw,Zgx,Zg4,Zg6,Zhf,Zhg,Zhh,Zhm,Zho,Zh1,Zh2,Zh3,Zh6,Zh7,Zin,Zio,Zip,Ziq,Zir,Ziu,Ziv,Ziw,Zix,Ziz,Zi0,Zi1,Zi2,Zi3,Zi6,Zi7,Zjh,Zji,Zjj,Zjk,Zjn,Zjo,Zlj,Zlt,Zlx,Zl2,Zmt,Zmv,Zmw,Zmx,Zmz,Zm2,Zm5,Zm6,Zm7,Zm9,Zna,Znb,Znc,Znd,Zne,Znf,Zng,Znh,Znl,Znm,Znn,Zno,Znp,Znr,Zns,Znt,Znw,Zn5,Zoc,Zrd,Zos,Zot,Zo7,Zo8,Zo9,Zpc,Zpi,Zpo,Zq5,Zq6,Zqf,Zqg,Zqh,Zqi,Zqk,Zql,Zqm,Zqn,List.append_assoc,List.length_append,eq_self,true_and,and_true,Nat.zero_add,Nat.add_zero,Nat.mul_one,zF_fc,fc_0,fc_17,fc_18,fc_19,fc_20,fc_53,fc_54,fc_55,fs_0,fs_17,fs_18,fs_19,fs_20,fs_53,fs_54,fs_55,fp_1,fp_21,fp_f,rb_1,rb_21,rb_0,fc_len,fc_ok,fc_id,fc_rs,v16,v32,cB_cells,callable_24]
    tactic =>
    and_intros <;> try (first | omega | rfl | assumption | simp only [IN]; omega)
    refine clG [none] (some ⟨cB b1, 1, 0⟩) hn rfl ⟨trivial, cB_okI _, rfl⟩ ?_
    sym =>
    simp [Zaa,Zab,Zac,Zad,Zae,Zaf,Zag,Zah,Zai,Zak,Zal,Zam,Zan,Zao,Zap,Zaq,Zar,Zav,Zaw,Zay,Zaz,Za0,Za1,Za2,Za3,Za4,Za5,Za9,Zba,Zbb,Zbc,Zbf,Zbl,Zbt,Zbu,Zbv,Zbw,Zb1,Zck,Zcn,Zcv,Zcx,Zcz,Zc3,Zc5,Zc6,Zc7,Zc8,Zc9,Zdm,Zrj,Zrk,Zrl,Zrm,Zrn,Zro,Zrp,Zrq,Zrr,Zrs,Zru,Zrv,Zrw,Zrx,Zry,Zrz,Zr0,Zr2,Zr9,Zsd,Zse,Zsf,Zsg,Zsh,Zsj,Zsm,Zsn,Zso,Zsq,Zss,Zsy,Zth,Zti,Zdo,Zdp,Zdt,Zdu,Zdv,Zdw,Zdx,Zdy,Zdz,Zd0,Zd1,Zd2,Zeb,Zeh,Zek,Zeq,Zet,Zev,Zew,Zez,Ze0,Ze1,Ze2,Ze3,Ze4,Ze5,Ze8,Ze9,Zfc,Zfd,Zfe,Zff,Zfg,Zfh,Zfn,Zfq,Zfz,Zf1,Zgh,Zgi,Zgr,Zgs,Zgt,Zgu,Zgv,Zgw,Zgx,Zg4,Zg6,Zhf,Zhg,Zhh,Zhm,Zho,Zh1,Zh2,Zh3,Zh6,Zh7,Zin,Zio,Zip,Ziq,Zir,Ziu,Ziv,Ziw,Zix,Ziz,Zi0,Zi1,Zi2,Zi3,Zi6,Zi7,Zjh,Zji,Zjj,Zjk,Zjn,Zjo,Zlj,Zlt,Zlx,Zl2,Zmt,Zmv,Zmw,Zmx,Zmz,Zm2,Zm5,Zm6,Zm7,Zm9,Zna,Znb,Znc,Znd,Zne,Znf,Zng,Znh,Znl,Znm,Znn,Zno,Znp,Znr,Zns,Znt,Znw,Zn5,Zoc,Zrd,Zos,Zot,Zo7,Zo8,Zo9,Zpc,Zpi,Zpo,Zq5,Zq6,Zqf,Zqg,Zqh,Zqi,Zqk,Zql,Zqm,Zqn,List.append_assoc,List.length_append,eq_self,true_and,and_true,Nat.zero_add,Nat.add_zero,Nat.mul_one,zF_fc,fc_0,fc_17,fc_18,fc_19,fc_20,fc_53,fc_54,fc_55,fs_0,fs_17,fs_18,fs_19,fs_20,fs_53,fs_54,fs_55,fp_1,fp_21,fp_f,rb_1,rb_21,rb_0,fc_len,fc_ok,fc_id,fc_rs,v16,v32,cB_cells]
    tactic =>
    refine endM [(1, 14)] 2 ?_
    sym =>
    simp [Zaa,Zab,Zac,Zad,Zae,Zaf,Zag,Zah,Zai,Zak,Zal,Zam,Zan,Zao,Zap,Zaq,Zar,Zav,Zaw,Zay,Zaz,Za0,Za1,Za2,Za3,Za4,Za5,Za9,Zba,Zbb,Zbc,Zbf,Zbl,Zbt,Zbu,Zbv,Zbw,Zb1,Zck,Zcn,Zcv,Zcx,Zcz,Zc3,Zc5,Zc6,Zc7,Zc8,Zc9,Zdm,Zrj,Zrk,Zrl,Zrm,Zrn,Zro,Zrp,Zrq,Zrr,Zrs,Zru,Zrv,Zrw,Zrx,Zry,Zrz,Zr0,Zr2,Zr9,Zsd,Zse,Zsf,Zsg,Zsh,Zsj,Zsm,Zsn,Zso,Zsq,Zss,Zsy,Zth,Zti,Zdo,Zdp,Zdt,Zdu,Zdv,Zdw,Zdx,Zdy,Zdz,Zd0,Zd1,Zd2,Zeb,Zeh,Zek,Zeq,Zet,Zev,Zew,Zez,Ze0,Ze1,Ze2,Ze3,Ze4,Ze5,Ze8,Ze9,Zfc,Zfd,Zfe,Zff,Zfg,Zfh,Zfn,Zfq,Zfz,Zf1,Zgh,Zgi,Zgr,Zgs,Zgt,Zgu,Zgv,Zgw,Zgx,Zg4,Zg6,Zhf,Zhg,Zhh,Zhm,Zho,Zh1,Zh2,Zh3,Zh6,Zh7,Zin,Zio,Zip,Ziq,Zir,Ziu,Ziv,Ziw,Zix,Ziz,Zi0,Zi1,Zi2,Zi3,Zi6,Zi7,Zjh,Zji,Zjj,Zjk,Zjn,Zjo,Zlj,Zlt,Zlx,Zl2,Zmt,Zmv,Zmw,Zmx,Zmz,Zm2,Zm5,Zm6,Zm7,Zm9,Zna,Znb,Znc,Znd,Zne,Znf,Zng,Znh,Znl,Znm,Znn,Zno,Znp,Znr,Zns,Znt,Znw,Zn5,Zoc,Zrd,Zos,Zot,Zo7,Zo8,Zo9,Zpc,Zpi,Zpo,Zq5,Zq6,Zqf,Zqg,Zqh,Zqi,Zqk,Zql,Zqm,Zqn,List.append_assoc,List.length_append,eq_self,true_and,and_true,Nat.zero_add,Nat.add_zero,Nat.mul_one]
    tactic =>
    exact ⟨by omega, cB_rs _ _ _ _ _ rfl⟩
  by_cases h7 : k = 7
  · have hbo : bodyF ⟨k, t, es, er, o, n, su, d, r, c⟩ = [c % 256] := (if_neg h1).trans ((if_neg h6).trans (if_pos h7))
    rw [hbo] at hm ⊢
    subst h7
    simp only [fr]
    simp only [List.length_cons, List.length_nil] at hm
    refine con_n b26 rfl ?_
    have hw := w8u c
    have hc : cB b ++ [Y (c % 256)] = cB (b ++ [c % 256]) := by rw [cB_append]; rfl
    sym =>
    simp [Zaa,Zab,Zac,Zad,Zae,Zaf,Zag,Zah,Zai,Zak,Zal,Zam,Zan,Zao,Zap,Zaq,Zar,Zav,Zaw,Zay,Zaz,Za0,Za1,Za2,Za3,Za4,Za5,Za9,Zba,Zbb,Zbc,Zbf,Zbl,Zbt,Zbu,Zbv,Zbw,Zb1,Zck,Zcn,Zcv,Zcx,Zcz,Zc3,Zc5,Zc6,Zc7,Zc8,Zc9,Zdm,Zrj,Zrk,Zrl,Zrm,Zrn,Zro,Zrp,Zrq,Zrr,Zrs,Zru,Zrv,Zrw,Zrx,Zry,Zrz,Zr0,Zr2,Zr9,Zsd,Zse,Zsf,Zsg,Zsh,Zsj,Zsm,Zsn,Zso,Zsq,Zss,Zsy,Zth,Zti,Zdo,Zdp,Zdt,Zdu,Zdv,Zdw,Zdx,Zdy,Zdz,Zd0,Zd1,Zd2,Zeb,Zeh,Zek,Zeq,Zet,Zev,Zew,Zez,Ze0,Ze1,Ze2,Ze3,Ze4,Ze5,Ze8,Ze9,Zfc,Zfd,Zfe,Zff,Zfg,Zfh,Zfn,Zfq,Zfz,Zf1,Zgh,Zgi,Zgr,Zgs,Zgt,Zgu,Zgv,Zgw,Zgx,Zg4,Zg6,Zhf,Zhg,Zhh,Zhm,Zho,Zh1,Zh2,Zh3,Zh6,Zh7,Zin,Zio,Zip,Ziq,Zir,Ziu,Ziv,Ziw,Zix,Ziz,Zi0,Zi1,Zi2,Zi3,Zi6,Zi7,Zjh,Zji,Zjj,Zjk,Zjn,Zjo,Zlj,Zlt,Zlx,Zl2,Zmt,Zmv,Zmw,Zmx,Zmz,Zm2,Zm5,Zm6,Zm7,Zm9,Zna,Znb,Znc,Znd,Zne,Znf,Zng,Znh,Znl,Znm,Znn,Zno,Znp,Znr,Zns,Znt,Znw,Zn5,Zoc,Zrd,Zos,Zot,Zo7,Zo8,Zo9,Zpc,Zpi,Zpo,Zq5,Zq6,Zqf,Zqg,Zqh,Zqi,Zqk,Zql,Zqm,Zqn,List.append_assoc,List.length_append,eq_self,true_and,and_true,Nat.zero_add,Nat.add_zero,Nat.mul_one,zF_fc,fc_0,fc_17,fc_18,fc_19,fc_20,fc_53,fc_54,fc_55,fs_0,fs_17,fs_18,fs_19,fs_20,fs_53,fs_54,fs_55,fp_1,fp_21,fp_f,rb_1,rb_21,rb_0,fc_len,fc_ok,fc_id,fc_rs,v16,v32,cB_cells,hw]
    tactic =>
    and_intros <;> try (first | omega | rfl | assumption | simp only [IN]; omega)
    rw [hc]
    refine endM [(1, 18)] 2 ?_
    sym =>
    simp [Zaa,Zab,Zac,Zad,Zae,Zaf,Zag,Zah,Zai,Zak,Zal,Zam,Zan,Zao,Zap,Zaq,Zar,Zav,Zaw,Zay,Zaz,Za0,Za1,Za2,Za3,Za4,Za5,Za9,Zba,Zbb,Zbc,Zbf,Zbl,Zbt,Zbu,Zbv,Zbw,Zb1,Zck,Zcn,Zcv,Zcx,Zcz,Zc3,Zc5,Zc6,Zc7,Zc8,Zc9,Zdm,Zrj,Zrk,Zrl,Zrm,Zrn,Zro,Zrp,Zrq,Zrr,Zrs,Zru,Zrv,Zrw,Zrx,Zry,Zrz,Zr0,Zr2,Zr9,Zsd,Zse,Zsf,Zsg,Zsh,Zsj,Zsm,Zsn,Zso,Zsq,Zss,Zsy,Zth,Zti,Zdo,Zdp,Zdt,Zdu,Zdv,Zdw,Zdx,Zdy,Zdz,Zd0,Zd1,Zd2,Zeb,Zeh,Zek,Zeq,Zet,Zev,Zew,Zez,Ze0,Ze1,Ze2,Ze3,Ze4,Ze5,Ze8,Ze9,Zfc,Zfd,Zfe,Zff,Zfg,Zfh,Zfn,Zfq,Zfz,Zf1,Zgh,Zgi,Zgr,Zgs,Zgt,Zgu,Zgv,Zgw,Zgx,Zg4,Zg6,Zhf,Zhg,Zhh,Zhm,Zho,Zh1,Zh2,Zh3,Zh6,Zh7,Zin,Zio,Zip,Ziq,Zir,Ziu,Ziv,Ziw,Zix,Ziz,Zi0,Zi1,Zi2,Zi3,Zi6,Zi7,Zjh,Zji,Zjj,Zjk,Zjn,Zjo,Zlj,Zlt,Zlx,Zl2,Zmt,Zmv,Zmw,Zmx,Zmz,Zm2,Zm5,Zm6,Zm7,Zm9,Zna,Znb,Znc,Znd,Zne,Znf,Zng,Znh,Znl,Znm,Znn,Zno,Znp,Znr,Zns,Znt,Znw,Zn5,Zoc,Zrd,Zos,Zot,Zo7,Zo8,Zo9,Zpc,Zpi,Zpo,Zq5,Zq6,Zqf,Zqg,Zqh,Zqi,Zqk,Zql,Zqm,Zqn,List.append_assoc,List.length_append,eq_self,true_and,and_true,Nat.zero_add,Nat.add_zero,Nat.mul_one]
    tactic =>
    exact ⟨by omega, cB_rs _ _ _ _ _ rfl⟩
  have hbo : bodyF ⟨k, t, es, er, o, n, su, d, r, c⟩ = beN 8 o ++ d ++ rgB r := (if_neg h1).trans ((if_neg h6).trans (if_neg h7))
  rw [hbo] at hm ⊢
  rw [List.length_append, List.length_append, beN_length, rgB_length] at hm
  simp only [fr]
  refine con_n b26 rfl ?_
  obtain ⟨b1, hb1⟩ : ∃ b1, b1 = b ++ beN 8 o := ⟨_, rfl⟩
  have hn := number_con' b b1 o 8 b.length (by omega) rfl (by omega) hb1 (b.length + 8) rfl 8 rfl
  have hl1 : b1.length = b.length + 8 := by rw [hb1, List.length_append, beN_length]
  obtain ⟨b2, hb2⟩ : ∃ b2, b2 = b1 ++ d := ⟨_, rfl⟩
  have hl2 : b2.length = b.length + 8 + d.length := by rw [hb2, List.length_append, hl1]
  have hc : cB b1 ++ cB d = cB b2 := by rw [hb2, ← cB_append]
  have hq := cB_length b1
  rw [hl1] at hq
  have hdl := cB_length d
  sym =>
  simp [Zaa,Zab,Zac,Zad,Zae,Zaf,Zag,Zah,Zai,Zak,Zal,Zam,Zan,Zao,Zap,Zaq,Zar,Zav,Zaw,Zay,Zaz,Za0,Za1,Za2,Za3,Za4,Za5,Za9,Zba,Zbb,Zbc,Zbf,Zbl,Zbt,Zbu,Zbv,Zbw,Zb1,Zck,Zcn,Zcv,Zcx,Zcz,Zc3,Zc5,Zc6,Zc7,Zc8,Zc9,Zdm,Zrj,Zrk,Zrl,Zrm,Zrn,Zro,Zrp,Zrq,Zrr,Zrs,Zru,Zrv,Zrw,Zrx,Zry,Zrz,Zr0,Zr2,Zr9,Zsd,Zse,Zsf,Zsg,Zsh,Zsj,Zsm,Zsn,Zso,Zsq,Zss,Zsy,Zth,Zti,Zdo,Zdp,Zdt,Zdu,Zdv,Zdw,Zdx,Zdy,Zdz,Zd0,Zd1,Zd2,Zeb,Zeh,Zek,Zeq,Zet,Zev,Zew,Zez,Ze0,Ze1,Ze2,Ze3,Ze4,Ze5,Ze8,Ze9,Zfc,Zfd,Zfe,Zff,Zfg,Zfh,Zfn,Zfq,Zfz,Zf1,Zgh,Zgi,Zgr,Zgs,Zgt,Zgu,Zgv,Zgw,Zgx,Zg4,Zg6,Zhf,Zhg,Zhh,Zhm,Zho,Zh1,Zh2,Zh3,Zh6,Zh7,Zin,Zio,Zip,Ziq,Zir,Ziu,Ziv,Ziw,Zix,Ziz,Zi0,Zi1,Zi2,Zi3,Zi6,Zi7,Zjh,Zji,Zjj,Zjk,Zjn,Zjo,Zlj,Zlt,Zlx,Zl2,Zmt,Zmv,Zmw,Zmx,Zmz,Zm2,Zm5,Zm6,Zm7,Zm9,Zna,Znb,Znc,Znd,Zne,Znf,Zng,Znh,Znl,Znm,Znn,Zno,Znp,Znr,Zns,Znt,Znw,Zn5,Zoc,Zrd,Zos,Zot,Zo7,Zo8,Zo9,Zpc,Zpi,Zpo,Zq5,Zq6,Zqf,Zqg,Zqh,Zqi,Zqk,Zql,Zqm,Zqn,List.append_assoc,List.length_append,eq_self,true_and,and_true,Nat.zero_add,Nat.add_zero,Nat.mul_one,zF_fc,fc_0,fc_17,fc_18,fc_19,fc_20,fc_53,fc_54,fc_55,fs_0,fs_17,fs_18,fs_19,fs_20,fs_53,fs_54,fs_55,fp_1,fp_21,fp_f,rb_1,rb_21,rb_0,fc_len,fc_ok,fc_id,fc_rs,v16,v32,cB_cells,k1,k5,h6,h7,callable_24]
  tactic =>
  and_intros <;> try (first | omega | rfl | assumption | simp only [IN]; omega)
  refine clG [none] (some ⟨cB b1, 1, 0⟩) hn rfl ⟨trivial, cB_okI _, rfl⟩ ?_
  sym =>
  simp [Zaa,Zab,Zac,Zad,Zae,Zaf,Zag,Zah,Zai,Zak,Zal,Zam,Zan,Zao,Zap,Zaq,Zar,Zav,Zaw,Zay,Zaz,Za0,Za1,Za2,Za3,Za4,Za5,Za9,Zba,Zbb,Zbc,Zbf,Zbl,Zbt,Zbu,Zbv,Zbw,Zb1,Zck,Zcn,Zcv,Zcx,Zcz,Zc3,Zc5,Zc6,Zc7,Zc8,Zc9,Zdm,Zrj,Zrk,Zrl,Zrm,Zrn,Zro,Zrp,Zrq,Zrr,Zrs,Zru,Zrv,Zrw,Zrx,Zry,Zrz,Zr0,Zr2,Zr9,Zsd,Zse,Zsf,Zsg,Zsh,Zsj,Zsm,Zsn,Zso,Zsq,Zss,Zsy,Zth,Zti,Zdo,Zdp,Zdt,Zdu,Zdv,Zdw,Zdx,Zdy,Zdz,Zd0,Zd1,Zd2,Zeb,Zeh,Zek,Zeq,Zet,Zev,Zew,Zez,Ze0,Ze1,Ze2,Ze3,Ze4,Ze5,Ze8,Ze9,Zfc,Zfd,Zfe,Zff,Zfg,Zfh,Zfn,Zfq,Zfz,Zf1,Zgh,Zgi,Zgr,Zgs,Zgt,Zgu,Zgv,Zgw,Zgx,Zg4,Zg6,Zhf,Zhg,Zhh,Zhm,Zho,Zh1,Zh2,Zh3,Zh6,Zh7,Zin,Zio,Zip,Ziq,Zir,Ziu,Ziv,Ziw,Zix,Ziz,Zi0,Zi1,Zi2,Zi3,Zi6,Zi7,Zjh,Zji,Zjj,Zjk,Zjn,Zjo,Zlj,Zlt,Zlx,Zl2,Zmt,Zmv,Zmw,Zmx,Zmz,Zm2,Zm5,Zm6,Zm7,Zm9,Zna,Znb,Znc,Znd,Zne,Znf,Zng,Znh,Znl,Znm,Znn,Zno,Znp,Znr,Zns,Znt,Znw,Zn5,Zoc,Zrd,Zos,Zot,Zo7,Zo8,Zo9,Zpc,Zpi,Zpo,Zq5,Zq6,Zqf,Zqg,Zqh,Zqi,Zqk,Zql,Zqm,Zqn,List.append_assoc,List.length_append,eq_self,true_and,and_true,Nat.zero_add,Nat.add_zero,Nat.mul_one,zF_fc,fc_0,fc_17,fc_18,fc_19,fc_20,fc_53,fc_54,fc_55,fs_0,fs_17,fs_18,fs_19,fs_20,fs_53,fs_54,fs_55,fp_1,fp_21,fp_f,rb_1,rb_21,rb_0,fc_len,fc_ok,fc_id,fc_rs,v16,v32,cB_cells,hq,hdl]
  tactic =>
  and_intros <;> try (first | omega | rfl | assumption | simp only [IN]; omega)
  rw [hc]
  refine lpA (i26 b2 r) r.length [(1, 19)] _ ⟨0, by omega, rfl⟩ (wkM ?_) ?_
  · sym =>
    simp [Zaa,Zab,Zac,Zad,Zae,Zaf,Zag,Zah,Zai,Zak,Zal,Zam,Zan,Zao,Zap,Zaq,Zar,Zav,Zaw,Zay,Zaz,Za0,Za1,Za2,Za3,Za4,Za5,Za9,Zba,Zbb,Zbc,Zbf,Zbl,Zbt,Zbu,Zbv,Zbw,Zb1,Zck,Zcn,Zcv,Zcx,Zcz,Zc3,Zc5,Zc6,Zc7,Zc8,Zc9,Zdm,Zrj,Zrk,Zrl,Zrm,Zrn,Zro,Zrp,Zrq,Zrr,Zrs,Zru,Zrv,Zrw,Zrx,Zry,Zrz,Zr0,Zr2,Zr9,Zsd,Zse,Zsf,Zsg,Zsh,Zsj,Zsm,Zsn,Zso,Zsq,Zss,Zsy,Zth,Zti,Zdo,Zdp,Zdt,Zdu,Zdv,Zdw,Zdx,Zdy,Zdz,Zd0,Zd1,Zd2,Zeb,Zeh,Zek,Zeq,Zet,Zev,Zew,Zez,Ze0,Ze1,Ze2,Ze3,Ze4,Ze5,Ze8,Ze9,Zfc,Zfd,Zfe,Zff,Zfg,Zfh,Zfn,Zfq,Zfz,Zf1,Zgh,Zgi,Zgr,Zgs,Zgt,Zgu,Zgv,Zgw,Zgx,Zg4,Zg6,Zhf,Zhg,Zhh,Zhm,Zho,Zh1,Zh2,Zh3,Zh6,Zh7,Zin,Zio,Zip,Ziq,Zir,Ziu,Ziv,Ziw,Zix,Ziz,Zi0,Zi1,Zi2,Zi3,Zi6,Zi7,Zjh,Zji,Zjj,Zjk,Zjn,Zjo,Zlj,Zlt,Zlx,Zl2,Zmt,Zmv,Zmw,Zmx,Zmz,Zm2,Zm5,Zm6,Zm7,Zm9,Zna,Znb,Znc,Znd,Zne,Znf,Zng,Znh,Znl,Znm,Znn,Zno,Znp,Znr,Zns,Znt,Znw,Zn5,Zoc,Zrd,Zos,Zot,Zo7,Zo8,Zo9,Zpc,Zpi,Zpo,Zq5,Zq6,Zqf,Zqg,Zqh,Zqi,Zqk,Zql,Zqm,Zqn,List.append_assoc,List.length_append,eq_self,true_and,and_true,Nat.zero_add,Nat.add_zero,Nat.mul_one]
    tactic =>
    exact ⟨by omega, cB_rs _ _ _ _ _ (by simp [rgB])⟩
  rintro kk s ⟨i, hi, rfl⟩
  by_cases h : i < r.length
  · have hw := w64s i (by omega)
    have a0 := cR_q0 r i h
    have a1 := cR_q1 r i h
    have ht := take_step r i h
    obtain ⟨x, hx⟩ : ∃ x, x = r[i] := ⟨_, rfl⟩
    rw [← hx] at a0 a1 ht
    obtain ⟨w0, hw0⟩ : ∃ w0, w0 = b2 ++ rgB (r.take i) := ⟨_, rfl⟩
    have hwl : w0.length = b2.length + 16 * i := by rw [hw0, List.length_append, rgB_length, List.length_take]; omega
    obtain ⟨w1, hw1⟩ : ∃ w1, w1 = w0 ++ beN 8 x.1 := ⟨_, rfl⟩
    obtain ⟨w2, hw2⟩ : ∃ w2, w2 = w1 ++ beN 8 x.2 := ⟨_, rfl⟩
    have hw1l : w1.length = b2.length + 16 * i + 8 := by rw [hw1, List.length_append, hwl, beN_length]
    have hn1 := number_con' w0 w1 x.1 8 _ (by omega) hwl (by omega) hw1 _ rfl 8 rfl
    have hn2 := number_con' w1 w2 x.2 8 _ (by omega) hw1l (by omega) hw2 _ rfl 8 rfl
    have hwe : w2 = b2 ++ rgB (r.take (i + 1)) := by rw [hw2, hw1, hw0, ht, rgB_snoc]; simp
    have hI0 := cB_okI w0
    have hI1 := cB_okI w1
    have hc0 := cB_length w0
    have hc1 := cB_length w1
    rw [hwl] at hc0
    rw [hw1l] at hc1
    rw [← hw0]
    sym =>
    simp [Zaa,Zab,Zac,Zad,Zae,Zaf,Zag,Zah,Zai,Zak,Zal,Zam,Zan,Zao,Zap,Zaq,Zar,Zav,Zaw,Zay,Zaz,Za0,Za1,Za2,Za3,Za4,Za5,Za9,Zba,Zbb,Zbc,Zbf,Zbl,Zbt,Zbu,Zbv,Zbw,Zb1,Zck,Zcn,Zcv,Zcx,Zcz,Zc3,Zc5,Zc6,Zc7,Zc8,Zc9,Zdm,Zrj,Zrk,Zrl,Zrm,Zrn,Zro,Zrp,Zrq,Zrr,Zrs,Zru,Zrv,Zrw,Zrx,Zry,Zrz,Zr0,Zr2,Zr9,Zsd,Zse,Zsf,Zsg,Zsh,Zsj,Zsm,Zsn,Zso,Zsq,Zss,Zsy,Zth,Zti,Zdo,Zdp,Zdt,Zdu,Zdv,Zdw,Zdx,Zdy,Zdz,Zd0,Zd1,Zd2,Zeb,Zeh,Zek,Zeq,Zet,Zev,Zew,Zez,Ze0,Ze1,Ze2,Ze3,Ze4,Ze5,Ze8,Ze9,Zfc,Zfd,Zfe,Zff,Zfg,Zfh,Zfn,Zfq,Zfz,Zf1,Zgh,Zgi,Zgr,Zgs,Zgt,Zgu,Zgv,Zgw,Zgx,Zg4,Zg6,Zhf,Zhg,Zhh,Zhm,Zho,Zh1,Zh2,Zh3,Zh6,Zh7,Zin,Zio,Zip,Ziq,Zir,Ziu,Ziv,Ziw,Zix,Ziz,Zi0,Zi1,Zi2,Zi3,Zi6,Zi7,Zjh,Zji,Zjj,Zjk,Zjn,Zjo,Zlj,Zlt,Zlx,Zl2,Zmt,Zmv,Zmw,Zmx,Zmz,Zm2,Zm5,Zm6,Zm7,Zm9,Zna,Znb,Znc,Znd,Zne,Znf,Zng,Znh,Znl,Znm,Znn,Zno,Znp,Znr,Zns,Znt,Znw,Zn5,Zoc,Zrd,Zos,Zot,Zo7,Zo8,Zo9,Zpc,Zpi,Zpo,Zq5,Zq6,Zqf,Zqg,Zqh,Zqi,Zqk,Zql,Zqm,Zqn,List.append_assoc,List.length_append,eq_self,true_and,and_true,Nat.zero_add,Nat.add_zero,Nat.mul_one,h,hw,a0,a1,cR_length,callable_24]
    tactic =>
    and_intros <;> try (first | omega | rfl | assumption | simp only [IN]; omega)
    refine clG [none] (some ⟨cB w1, 1, 0⟩) hn1 rfl ⟨trivial, cB_okI _, rfl⟩ ?_
    sym =>
    simp [Zaa,Zab,Zac,Zad,Zae,Zaf,Zag,Zah,Zai,Zak,Zal,Zam,Zan,Zao,Zap,Zaq,Zar,Zav,Zaw,Zay,Zaz,Za0,Za1,Za2,Za3,Za4,Za5,Za9,Zba,Zbb,Zbc,Zbf,Zbl,Zbt,Zbu,Zbv,Zbw,Zb1,Zck,Zcn,Zcv,Zcx,Zcz,Zc3,Zc5,Zc6,Zc7,Zc8,Zc9,Zdm,Zrj,Zrk,Zrl,Zrm,Zrn,Zro,Zrp,Zrq,Zrr,Zrs,Zru,Zrv,Zrw,Zrx,Zry,Zrz,Zr0,Zr2,Zr9,Zsd,Zse,Zsf,Zsg,Zsh,Zsj,Zsm,Zsn,Zso,Zsq,Zss,Zsy,Zth,Zti,Zdo,Zdp,Zdt,Zdu,Zdv,Zdw,Zdx,Zdy,Zdz,Zd0,Zd1,Zd2,Zeb,Zeh,Zek,Zeq,Zet,Zev,Zew,Zez,Ze0,Ze1,Ze2,Ze3,Ze4,Ze5,Ze8,Ze9,Zfc,Zfd,Zfe,Zff,Zfg,Zfh,Zfn,Zfq,Zfz,Zf1,Zgh,Zgi,Zgr,Zgs,Zgt,Zgu,Zgv,Zgw,Zgx,Zg4,Zg6,Zhf,Zhg,Zhh,Zhm,Zho,Zh1,Zh2,Zh3,Zh6,Zh7,Zin,Zio,Zip,Ziq,Zir,Ziu,Ziv,Ziw,Zix,Ziz,Zi0,Zi1,Zi2,Zi3,Zi6,Zi7,Zjh,Zji,Zjj,Zjk,Zjn,Zjo,Zlj,Zlt,Zlx,Zl2,Zmt,Zmv,Zmw,Zmx,Zmz,Zm2,Zm5,Zm6,Zm7,Zm9,Zna,Znb,Znc,Znd,Zne,Znf,Zng,Znh,Znl,Znm,Znn,Zno,Znp,Znr,Zns,Znt,Znw,Zn5,Zoc,Zrd,Zos,Zot,Zo7,Zo8,Zo9,Zpc,Zpi,Zpo,Zq5,Zq6,Zqf,Zqg,Zqh,Zqi,Zqk,Zql,Zqm,Zqn,List.append_assoc,List.length_append,eq_self,true_and,and_true,Nat.zero_add,Nat.add_zero,Nat.mul_one,callable_24]
    tactic =>
    and_intros <;> try (first | omega | rfl | assumption | simp only [IN]; omega)
    refine clG [none] (some ⟨cB w2, 1, 0⟩) hn2 rfl ⟨trivial, cB_okI _, rfl⟩ ?_
    sym =>
    simp [Zaa,Zab,Zac,Zad,Zae,Zaf,Zag,Zah,Zai,Zak,Zal,Zam,Zan,Zao,Zap,Zaq,Zar,Zav,Zaw,Zay,Zaz,Za0,Za1,Za2,Za3,Za4,Za5,Za9,Zba,Zbb,Zbc,Zbf,Zbl,Zbt,Zbu,Zbv,Zbw,Zb1,Zck,Zcn,Zcv,Zcx,Zcz,Zc3,Zc5,Zc6,Zc7,Zc8,Zc9,Zdm,Zrj,Zrk,Zrl,Zrm,Zrn,Zro,Zrp,Zrq,Zrr,Zrs,Zru,Zrv,Zrw,Zrx,Zry,Zrz,Zr0,Zr2,Zr9,Zsd,Zse,Zsf,Zsg,Zsh,Zsj,Zsm,Zsn,Zso,Zsq,Zss,Zsy,Zth,Zti,Zdo,Zdp,Zdt,Zdu,Zdv,Zdw,Zdx,Zdy,Zdz,Zd0,Zd1,Zd2,Zeb,Zeh,Zek,Zeq,Zet,Zev,Zew,Zez,Ze0,Ze1,Ze2,Ze3,Ze4,Ze5,Ze8,Ze9,Zfc,Zfd,Zfe,Zff,Zfg,Zfh,Zfn,Zfq,Zfz,Zf1,Zgh,Zgi,Zgr,Zgs,Zgt,Zgu,Zgv,Zgw,Zgx,Zg4,Zg6,Zhf,Zhg,Zhh,Zhm,Zho,Zh1,Zh2,Zh3,Zh6,Zh7,Zin,Zio,Zip,Ziq,Zir,Ziu,Ziv,Ziw,Zix,Ziz,Zi0,Zi1,Zi2,Zi3,Zi6,Zi7,Zjh,Zji,Zjj,Zjk,Zjn,Zjo,Zlj,Zlt,Zlx,Zl2,Zmt,Zmv,Zmw,Zmx,Zmz,Zm2,Zm5,Zm6,Zm7,Zm9,Zna,Znb,Znc,Znd,Zne,Znf,Zng,Znh,Znl,Znm,Znn,Zno,Znp,Znr,Zns,Znt,Znw,Zn5,Zoc,Zrd,Zos,Zot,Zo7,Zo8,Zo9,Zpc,Zpi,Zpo,Zq5,Zq6,Zqf,Zqg,Zqh,Zqi,Zqk,Zql,Zqm,Zqn,List.append_assoc,List.length_append,eq_self,true_and,and_true,Nat.zero_add,Nat.add_zero,Nat.mul_one,hw]
    tactic =>
    and_intros <;> try (first | omega | rfl | assumption | simp only [IN]; omega)
    unfold NextL; refine ⟨(kk - 1), [(1, 13)], _, by omega, ⟨i + 1, by omega, rfl⟩, wkM ?_⟩
    sym =>
    simp [Zaa,Zab,Zac,Zad,Zae,Zaf,Zag,Zah,Zai,Zak,Zal,Zam,Zan,Zao,Zap,Zaq,Zar,Zav,Zaw,Zay,Zaz,Za0,Za1,Za2,Za3,Za4,Za5,Za9,Zba,Zbb,Zbc,Zbf,Zbl,Zbt,Zbu,Zbv,Zbw,Zb1,Zck,Zcn,Zcv,Zcx,Zcz,Zc3,Zc5,Zc6,Zc7,Zc8,Zc9,Zdm,Zrj,Zrk,Zrl,Zrm,Zrn,Zro,Zrp,Zrq,Zrr,Zrs,Zru,Zrv,Zrw,Zrx,Zry,Zrz,Zr0,Zr2,Zr9,Zsd,Zse,Zsf,Zsg,Zsh,Zsj,Zsm,Zsn,Zso,Zsq,Zss,Zsy,Zth,Zti,Zdo,Zdp,Zdt,Zdu,Zdv,Zdw,Zdx,Zdy,Zdz,Zd0,Zd1,Zd2,Zeb,Zeh,Zek,Zeq,Zet,Zev,Zew,Zez,Ze0,Ze1,Ze2,Ze3,Ze4,Ze5,Ze8,Ze9,Zfc,Zfd,Zfe,Zff,Zfg,Zfh,Zfn,Zfq,Zfz,Zf1,Zgh,Zgi,Zgr,Zgs,Zgt,Zgu,Zgv,Zgw,Zgx,Zg4,Zg6,Zhf,Zhg,Zhh,Zhm,Zho,Zh1,Zh2,Zh3,Zh6,Zh7,Zin,Zio,Zip,Ziq,Zir,Ziu,Ziv,Ziw,Zix,Ziz,Zi0,Zi1,Zi2,Zi3,Zi6,Zi7,Zjh,Zji,Zjj,Zjk,Zjn,Zjo,Zlj,Zlt,Zlx,Zl2,Zmt,Zmv,Zmw,Zmx,Zmz,Zm2,Zm5,Zm6,Zm7,Zm9,Zna,Znb,Znc,Znd,Zne,Znf,Zng,Znh,Znl,Znm,Znn,Zno,Znp,Znr,Zns,Znt,Znw,Zn5,Zoc,Zrd,Zos,Zot,Zo7,Zo8,Zo9,Zpc,Zpi,Zpo,Zq5,Zq6,Zqf,Zqg,Zqh,Zqi,Zqk,Zql,Zqm,Zqn,List.append_assoc,List.length_append,eq_self,true_and,and_true,Nat.zero_add,Nat.add_zero,Nat.mul_one]
    tactic =>
    exact ⟨by omega, cB_rs _ _ _ _ _ (by rw [hwe])⟩
  · have e : r.take i = r := List.take_of_length_le (by omega)
    obtain rfl : i = r.length := by omega
    have he : b2 ++ rgB r = b ++ (beN 8 o ++ d ++ rgB r) := by rw [hb2, hb1]; simp
    rw [e, he]
    sym =>
    simp [Zaa,Zab,Zac,Zad,Zae,Zaf,Zag,Zah,Zai,Zak,Zal,Zam,Zan,Zao,Zap,Zaq,Zar,Zav,Zaw,Zay,Zaz,Za0,Za1,Za2,Za3,Za4,Za5,Za9,Zba,Zbb,Zbc,Zbf,Zbl,Zbt,Zbu,Zbv,Zbw,Zb1,Zck,Zcn,Zcv,Zcx,Zcz,Zc3,Zc5,Zc6,Zc7,Zc8,Zc9,Zdm,Zrj,Zrk,Zrl,Zrm,Zrn,Zro,Zrp,Zrq,Zrr,Zrs,Zru,Zrv,Zrw,Zrx,Zry,Zrz,Zr0,Zr2,Zr9,Zsd,Zse,Zsf,Zsg,Zsh,Zsj,Zsm,Zsn,Zso,Zsq,Zss,Zsy,Zth,Zti,Zdo,Zdp,Zdt,Zdu,Zdv,Zdw,Zdx,Zdy,Zdz,Zd0,Zd1,Zd2,Zeb,Zeh,Zek,Zeq,Zet,Zev,Zew,Zez,Ze0,Ze1,Ze2,Ze3,Ze4,Ze5,Ze8,Ze9,Zfc,Zfd,Zfe,Zff,Zfg,Zfh,Zfn,Zfq,Zfz,Zf1,Zgh,Zgi,Zgr,Zgs,Zgt,Zgu,Zgv,Zgw,Zgx,Zg4,Zg6,Zhf,Zhg,Zhh,Zhm,Zho,Zh1,Zh2,Zh3,Zh6,Zh7,Zin,Zio,Zip,Ziq,Zir,Ziu,Ziv,Ziw,Zix,Ziz,Zi0,Zi1,Zi2,Zi3,Zi6,Zi7,Zjh,Zji,Zjj,Zjk,Zjn,Zjo,Zlj,Zlt,Zlx,Zl2,Zmt,Zmv,Zmw,Zmx,Zmz,Zm2,Zm5,Zm6,Zm7,Zm9,Zna,Znb,Znc,Znd,Zne,Znf,Zng,Znh,Znl,Znm,Znn,Zno,Znp,Znr,Zns,Znt,Znw,Zn5,Zoc,Zrd,Zos,Zot,Zo7,Zo8,Zo9,Zpc,Zpi,Zpo,Zq5,Zq6,Zqf,Zqg,Zqh,Zqi,Zqk,Zql,Zqm,Zqn,List.append_assoc,List.length_append,eq_self,true_and,and_true,Nat.zero_add,Nat.add_zero,Nat.mul_one,h]
    tactic =>
    refine endM [(1, 1)] 2 ?_
    sym =>
    simp [Zaa,Zab,Zac,Zad,Zae,Zaf,Zag,Zah,Zai,Zak,Zal,Zam,Zan,Zao,Zap,Zaq,Zar,Zav,Zaw,Zay,Zaz,Za0,Za1,Za2,Za3,Za4,Za5,Za9,Zba,Zbb,Zbc,Zbf,Zbl,Zbt,Zbu,Zbv,Zbw,Zb1,Zck,Zcn,Zcv,Zcx,Zcz,Zc3,Zc5,Zc6,Zc7,Zc8,Zc9,Zdm,Zrj,Zrk,Zrl,Zrm,Zrn,Zro,Zrp,Zrq,Zrr,Zrs,Zru,Zrv,Zrw,Zrx,Zry,Zrz,Zr0,Zr2,Zr9,Zsd,Zse,Zsf,Zsg,Zsh,Zsj,Zsm,Zsn,Zso,Zsq,Zss,Zsy,Zth,Zti,Zdo,Zdp,Zdt,Zdu,Zdv,Zdw,Zdx,Zdy,Zdz,Zd0,Zd1,Zd2,Zeb,Zeh,Zek,Zeq,Zet,Zev,Zew,Zez,Ze0,Ze1,Ze2,Ze3,Ze4,Ze5,Ze8,Ze9,Zfc,Zfd,Zfe,Zff,Zfg,Zfh,Zfn,Zfq,Zfz,Zf1,Zgh,Zgi,Zgr,Zgs,Zgt,Zgu,Zgv,Zgw,Zgx,Zg4,Zg6,Zhf,Zhg,Zhh,Zhm,Zho,Zh1,Zh2,Zh3,Zh6,Zh7,Zin,Zio,Zip,Ziq,Zir,Ziu,Ziv,Ziw,Zix,Ziz,Zi0,Zi1,Zi2,Zi3,Zi6,Zi7,Zjh,Zji,Zjj,Zjk,Zjn,Zjo,Zlj,Zlt,Zlx,Zl2,Zmt,Zmv,Zmw,Zmx,Zmz,Zm2,Zm5,Zm6,Zm7,Zm9,Zna,Znb,Znc,Znd,Zne,Znf,Zng,Znh,Znl,Znm,Znn,Zno,Znp,Znr,Zns,Znt,Znw,Zn5,Zoc,Zrd,Zos,Zot,Zo7,Zo8,Zo9,Zpc,Zpi,Zpo,Zq5,Zq6,Zqf,Zqg,Zqh,Zqi,Zqk,Zql,Zqm,Zqn,List.append_assoc,List.length_append,eq_self,true_and,and_true,Nat.zero_add,Nat.add_zero,Nat.mul_one]
    tactic =>
    exact ⟨by omega, cB_rs _ _ _ _ _ rfl⟩
end Go.Proofs.Ythhccabdlajngaa.FrmF
