import Derived.Test.YthhccabdlajngaaFrmD
namespace Go.Proofs.Ythhccabdlajngaa.FrmE
open Go Go.Sim Go.Sim.E Go.RowKit Go.Proofs Go.Proofs.Ythhccabdlajngaa.Cod Go.Proofs.Ythhccabdlajngaa.Tab Go.Proofs.Ythhccabdlajngaa.Bse Go.Proofs.Ythhccabdlajngaa.Krc Go.Proofs.Ythhccabdlajngaa.FrmA Go.Proofs.Ythhccabdlajngaa.FrmB Go.Proofs.Ythhccabdlajngaa.FrmC Go.Proofs.Ythhccabdlajngaa.FrmD
set_option linter.unusedVariables false
set_option linter.unusedSimpArgs false
set_option maxRecDepth 100000
set_option maxHeartbeats 4000000
def i21 (f g : List AV) (a b : List Rg) (k : Nat) (s : St) : Prop := ∃ i : Nat, i + k = a.length ∧ a.take i = b.take i ∧ s = ⟨[(2, .pt 0 0), (3, .pt 1 0), (5, I (IN i))], [(0, ⟨f, 1, 0⟩), (1, ⟨g, 1, 0⟩)], 2⟩
theorem saF_r {f g : Fm} (h : ¬ f.r = g.r) : saF f g = false := by
  unfold saF
  repeat' split
  all_goals first | rfl | exact decide_eq_false h
theorem rsame_con (f g : Fm) (hr : f.r.length ≤ 1000000) (hd : f.d.length ≤ 1000000) : Con Try.prog 21 [] [.ag (fr f), .ag (fr g)] [] (Bo (saF f g)) := by
  by_cases hrr : f.r = g.r
  rotate_left
  · rw [saF_r hrr]
    obtain ⟨k, t, es, er, o, n, su, d, r, c⟩ := f
    obtain ⟨k', t', es', er', o', n', su', d', r', c'⟩ := g
    simp only at hr hrr
    simp only [fr]
    refine con_j b21 rfl ?_
    by_cases hl : r.length = r'.length
    · have hl1 : IN r.length = IN r'.length := by rw [hl]
      sym =>
      simp [Zaa,Zab,Zac,Zad,Zae,Zaf,Zag,Zah,Zai,Zak,Zal,Zam,Zan,Zao,Zap,Zaq,Zar,Zav,Zaw,Zax,Zay,Zaz,Za0,Za1,Za2,Za3,Za4,Za5,Za6,Za7,Za8,Za9,Zba,Zbb,Zbc,Zbd,Zbf,Zbh,Zbi,Zbt,Zbu,Zbv,Zbw,Zb2,Zcn,Zcx,Zc7,Zc8,Zdc,Zdd,Zde,Zdi,Zdo,Zdp,Zdt,Zdu,Zdv,Zdw,Zdx,Zdy,Zdz,Zd0,Zd1,Zd2,Zd3,Zeb,Zee,Zek,Zen,Zer,Zes,Zev,Zew,Zex,Zez,Ze0,Ze2,Ze3,Ze5,Ze8,Zfc,Zfd,Zfe,Zfh,Zfi,Zfk,Zfl,Zfn,Zfq,Zfz,Zf0,Zf1,Zga,Zgb,Zgc,Zgr,Zgs,Zgt,Zgu,Zgv,Zgw,Zgx,Zg4,Zg6,Zho,Zh6,Zh7,Zio,Zip,Zi6,Zjw,Zla,Zlb,Zle,Zll,Zlz,Zmt,Zmv,Zmw,Zmx,Zmz,Zm2,Zm5,Zm6,Zm7,Zna,Znb,Zne,Znf,Zng,Znr,Zns,Znt,Znv,Znw,Zn5,Zok,Zol,Zom,Zor,Zos,Zot,Zo3,Zo4,Zo7,Zo8,Zo9,Zpc,Zpg,Zpu,Zqf,Zqg,Zqh,Zqi,Zqk,Zql,Zqm,Zqn,eq_self,true_and,and_true,zF_fc,fc_0,fc_17,fc_18,fc_19,fc_20,fc_53,fc_54,fc_55,fs_0,fs_17,fs_18,fs_19,fs_20,fs_53,fs_54,fs_55,fp_1,fp_21,fp_f,rb_1,rb_21,rb_0,fc_len,fc_ok,fc_id,fc_rs,v16,v32,cB_cells,hl1]
      tactic =>
      have hok := fc_okI k t es er o n su (fB d) (fR r) c rfl rfl
      have hok' := fc_okI k' t' es' er' o' n' su' (fB d') (fR r') c' rfl rfl
      refine lpA (i21 (fc k t es er o n su (fB d) (fR r) c) (fc k' t' es' er' o' n' su' (fB d') (fR r') c') r r') r.length [(0, 0), (1, 1)] _ ⟨0, by omega, rfl, rfl⟩ (wkA ?_) ?_
      · sym =>
        simp [Zaa,Zab,Zac,Zad,Zae,Zaf,Zag,Zah,Zai,Zak,Zal,Zam,Zan,Zao,Zap,Zaq,Zar,Zav,Zaw,Zax,Zay,Zaz,Za0,Za1,Za2,Za3,Za4,Za5,Za6,Za7,Za8,Za9,Zba,Zbb,Zbc,Zbd,Zbf,Zbh,Zbi,Zbt,Zbu,Zbv,Zbw,Zb2,Zcn,Zcx,Zc7,Zc8,Zdc,Zdd,Zde,Zdi,Zdo,Zdp,Zdt,Zdu,Zdv,Zdw,Zdx,Zdy,Zdz,Zd0,Zd1,Zd2,Zd3,Zeb,Zee,Zek,Zen,Zer,Zes,Zev,Zew,Zex,Zez,Ze0,Ze2,Ze3,Ze5,Ze8,Zfc,Zfd,Zfe,Zfh,Zfi,Zfk,Zfl,Zfn,Zfq,Zfz,Zf0,Zf1,Zga,Zgb,Zgc,Zgr,Zgs,Zgt,Zgu,Zgv,Zgw,Zgx,Zg4,Zg6,Zho,Zh6,Zh7,Zio,Zip,Zi6,Zjw,Zla,Zlb,Zle,Zll,Zlz,Zmt,Zmv,Zmw,Zmx,Zmz,Zm2,Zm5,Zm6,Zm7,Zna,Znb,Zne,Znf,Zng,Znr,Zns,Znt,Znv,Znw,Zn5,Zok,Zol,Zom,Zor,Zos,Zot,Zo3,Zo4,Zo7,Zo8,Zo9,Zpc,Zpg,Zpu,Zqf,Zqg,Zqh,Zqi,Zqk,Zql,Zqm,Zqn,eq_self,true_and,and_true,zF_fc,fc_0,fc_17,fc_18,fc_19,fc_20,fc_53,fc_54,fc_55,fs_0,fs_17,fs_18,fs_19,fs_20,fs_53,fs_54,fs_55,fp_1,fp_21,fp_f,rb_1,rb_21,rb_0,fc_len,fc_ok,fc_id,fc_rs,v16,v32,cB_cells]
      rintro kk s ⟨i, hi, ht, rfl⟩
      by_cases h : i < r.length
      · have hw := w64s i (by omega)
        have hb : i < r'.length := by omega
        have a0 := cR_q0 r i h
        have a1 := cR_q1 r i h
        have b0 := cR_q0 r' i hb
        have b1 := cR_q1 r' i hb
        by_cases he : r[i] = r'[i]
        · have e0 : r[i].1 = r'[i].1 := by rw [he]
          have e1 : r[i].2 = r'[i].2 := by rw [he]
          have hn := rtake_eq ht h hb he
          obtain ⟨x, hx⟩ : ∃ x, x = r[i] := ⟨_, rfl⟩
          obtain ⟨y, hy⟩ : ∃ y, y = r'[i] := ⟨_, rfl⟩
          rw [← hx] at a0 a1 e0 e1
          rw [← hy] at b0 b1 e0 e1
          sym =>
          simp [Zaa,Zab,Zac,Zad,Zae,Zaf,Zag,Zah,Zai,Zak,Zal,Zam,Zan,Zao,Zap,Zaq,Zar,Zav,Zaw,Zax,Zay,Zaz,Za0,Za1,Za2,Za3,Za4,Za5,Za6,Za7,Za8,Za9,Zba,Zbb,Zbc,Zbd,Zbf,Zbh,Zbi,Zbt,Zbu,Zbv,Zbw,Zb2,Zcn,Zcx,Zc7,Zc8,Zdc,Zdd,Zde,Zdi,Zdo,Zdp,Zdt,Zdu,Zdv,Zdw,Zdx,Zdy,Zdz,Zd0,Zd1,Zd2,Zd3,Zeb,Zee,Zek,Zen,Zer,Zes,Zev,Zew,Zex,Zez,Ze0,Ze2,Ze3,Ze5,Ze8,Zfc,Zfd,Zfe,Zfh,Zfi,Zfk,Zfl,Zfn,Zfq,Zfz,Zf0,Zf1,Zga,Zgb,Zgc,Zgr,Zgs,Zgt,Zgu,Zgv,Zgw,Zgx,Zg4,Zg6,Zho,Zh6,Zh7,Zio,Zip,Zi6,Zjw,Zla,Zlb,Zle,Zll,Zlz,Zmt,Zmv,Zmw,Zmx,Zmz,Zm2,Zm5,Zm6,Zm7,Zna,Znb,Zne,Znf,Zng,Znr,Zns,Znt,Znv,Znw,Zn5,Zok,Zol,Zom,Zor,Zos,Zot,Zo3,Zo4,Zo7,Zo8,Zo9,Zpc,Zpg,Zpu,Zqf,Zqg,Zqh,Zqi,Zqk,Zql,Zqm,Zqn,eq_self,true_and,and_true,zF_fc,fc_0,fc_17,fc_18,fc_19,fc_20,fc_53,fc_54,fc_55,fs_0,fs_17,fs_18,fs_19,fs_20,fs_53,fs_54,fs_55,fp_1,fp_21,fp_f,rb_1,rb_21,rb_0,fc_len,fc_ok,fc_id,fc_rs,v16,v32,cB_cells,h,hb,hw,a0,a1,b0,b1,e0,e1,cR_length]
          tactic =>
          and_intros <;> try (first | omega | rfl | assumption | simp only [IN]; omega)
          unfold NextL; refine ⟨(kk - 1), [(0, 0), (1, 1)], _, by omega, ⟨i + 1, by omega, hn, rfl⟩, wkA ?_⟩
          sym =>
          simp [Zaa,Zab,Zac,Zad,Zae,Zaf,Zag,Zah,Zai,Zak,Zal,Zam,Zan,Zao,Zap,Zaq,Zar,Zav,Zaw,Zax,Zay,Zaz,Za0,Za1,Za2,Za3,Za4,Za5,Za6,Za7,Za8,Za9,Zba,Zbb,Zbc,Zbd,Zbf,Zbh,Zbi,Zbt,Zbu,Zbv,Zbw,Zb2,Zcn,Zcx,Zc7,Zc8,Zdc,Zdd,Zde,Zdi,Zdo,Zdp,Zdt,Zdu,Zdv,Zdw,Zdx,Zdy,Zdz,Zd0,Zd1,Zd2,Zd3,Zeb,Zee,Zek,Zen,Zer,Zes,Zev,Zew,Zex,Zez,Ze0,Ze2,Ze3,Ze5,Ze8,Zfc,Zfd,Zfe,Zfh,Zfi,Zfk,Zfl,Zfn,Zfq,Zfz,Zf0,Zf1,Zga,Zgb,Zgc,Zgr,Zgs,Zgt,Zgu,Zgv,Zgw,Zgx,Zg4,Zg6,Zho,Zh6,Zh7,Zio,Zip,Zi6,Zjw,Zla,Zlb,Zle,Zll,Zlz,Zmt,Zmv,Zmw,Zmx,Zmz,Zm2,Zm5,Zm6,Zm7,Zna,Znb,Zne,Znf,Zng,Znr,Zns,Znt,Znv,Znw,Zn5,Zok,Zol,Zom,Zor,Zos,Zot,Zo3,Zo4,Zo7,Zo8,Zo9,Zpc,Zpg,Zpu,Zqf,Zqg,Zqh,Zqi,Zqk,Zql,Zqm,Zqn,eq_self,true_and,and_true,zF_fc,fc_0,fc_17,fc_18,fc_19,fc_20,fc_53,fc_54,fc_55,fs_0,fs_17,fs_18,fs_19,fs_20,fs_53,fs_54,fs_55,fp_1,fp_21,fp_f,rb_1,rb_21,rb_0,fc_len,fc_ok,fc_id,fc_rs,v16,v32,cB_cells]
        · obtain ⟨x, hx⟩ : ∃ x, x = r[i] := ⟨_, rfl⟩
          obtain ⟨y, hy⟩ : ∃ y, y = r'[i] := ⟨_, rfl⟩
          rw [← hx] at a0 a1 he
          rw [← hy] at b0 b1 he
          by_cases e0 : x.1 = y.1
          · have e1 : ¬ x.2 = y.2 := fun e1 => he (Prod.ext e0 e1)
            sym =>
            simp [Zaa,Zab,Zac,Zad,Zae,Zaf,Zag,Zah,Zai,Zak,Zal,Zam,Zan,Zao,Zap,Zaq,Zar,Zav,Zaw,Zax,Zay,Zaz,Za0,Za1,Za2,Za3,Za4,Za5,Za6,Za7,Za8,Za9,Zba,Zbb,Zbc,Zbd,Zbf,Zbh,Zbi,Zbt,Zbu,Zbv,Zbw,Zb2,Zcn,Zcx,Zc7,Zc8,Zdc,Zdd,Zde,Zdi,Zdo,Zdp,Zdt,Zdu,Zdv,Zdw,Zdx,Zdy,Zdz,Zd0,Zd1,Zd2,Zd3,Zeb,Zee,Zek,Zen,Zer,Zes,Zev,Zew,Zex,Zez,Ze0,Ze2,Ze3,Ze5,Ze8,Zfc,Zfd,Zfe,Zfh,Zfi,Zfk,Zfl,Zfn,Zfq,Zfz,Zf0,Zf1,Zga,Zgb,Zgc,Zgr,Zgs,Zgt,Zgu,Zgv,Zgw,Zgx,Zg4,Zg6,Zho,Zh6,Zh7,Zio,Zip,Zi6,Zjw,Zla,Zlb,Zle,Zll,Zlz,Zmt,Zmv,Zmw,Zmx,Zmz,Zm2,Zm5,Zm6,Zm7,Zna,Znb,Zne,Znf,Zng,Znr,Zns,Znt,Znv,Znw,Zn5,Zok,Zol,Zom,Zor,Zos,Zot,Zo3,Zo4,Zo7,Zo8,Zo9,Zpc,Zpg,Zpu,Zqf,Zqg,Zqh,Zqi,Zqk,Zql,Zqm,Zqn,eq_self,true_and,and_true,zF_fc,fc_0,fc_17,fc_18,fc_19,fc_20,fc_53,fc_54,fc_55,fs_0,fs_17,fs_18,fs_19,fs_20,fs_53,fs_54,fs_55,fp_1,fp_21,fp_f,rb_1,rb_21,rb_0,fc_len,fc_ok,fc_id,fc_rs,v16,v32,cB_cells,h,hb,hw,a0,a1,b0,b1,e0,e1,cR_length]
            tactic =>
            and_intros <;> try (first | omega | rfl | assumption | simp only [IN]; omega)
            refine endA ?_
            sym =>
            simp [Zaa,Zab,Zac,Zad,Zae,Zaf,Zag,Zah,Zai,Zak,Zal,Zam,Zan,Zao,Zap,Zaq,Zar,Zav,Zaw,Zax,Zay,Zaz,Za0,Za1,Za2,Za3,Za4,Za5,Za6,Za7,Za8,Za9,Zba,Zbb,Zbc,Zbd,Zbf,Zbh,Zbi,Zbt,Zbu,Zbv,Zbw,Zb2,Zcn,Zcx,Zc7,Zc8,Zdc,Zdd,Zde,Zdi,Zdo,Zdp,Zdt,Zdu,Zdv,Zdw,Zdx,Zdy,Zdz,Zd0,Zd1,Zd2,Zd3,Zeb,Zee,Zek,Zen,Zer,Zes,Zev,Zew,Zex,Zez,Ze0,Ze2,Ze3,Ze5,Ze8,Zfc,Zfd,Zfe,Zfh,Zfi,Zfk,Zfl,Zfn,Zfq,Zfz,Zf0,Zf1,Zga,Zgb,Zgc,Zgr,Zgs,Zgt,Zgu,Zgv,Zgw,Zgx,Zg4,Zg6,Zho,Zh6,Zh7,Zio,Zip,Zi6,Zjw,Zla,Zlb,Zle,Zll,Zlz,Zmt,Zmv,Zmw,Zmx,Zmz,Zm2,Zm5,Zm6,Zm7,Zna,Znb,Zne,Znf,Zng,Znr,Zns,Znt,Znv,Znw,Zn5,Zok,Zol,Zom,Zor,Zos,Zot,Zo3,Zo4,Zo7,Zo8,Zo9,Zpc,Zpg,Zpu,Zqf,Zqg,Zqh,Zqi,Zqk,Zql,Zqm,Zqn,eq_self,true_and,and_true]
          · sym =>
            simp [Zaa,Zab,Zac,Zad,Zae,Zaf,Zag,Zah,Zai,Zak,Zal,Zam,Zan,Zao,Zap,Zaq,Zar,Zav,Zaw,Zax,Zay,Zaz,Za0,Za1,Za2,Za3,Za4,Za5,Za6,Za7,Za8,Za9,Zba,Zbb,Zbc,Zbd,Zbf,Zbh,Zbi,Zbt,Zbu,Zbv,Zbw,Zb2,Zcn,Zcx,Zc7,Zc8,Zdc,Zdd,Zde,Zdi,Zdo,Zdp,Zdt,Zdu,Zdv,Zdw,Zdx,Zdy,Zdz,Zd0,Zd1,Zd2,Zd3,Zeb,Zee,Zek,Zen,Zer,Zes,Zev,Zew,Zex,Zez,Ze0,Ze2,Ze3,Ze5,Ze8,Zfc,Zfd,Zfe,Zfh,Zfi,Zfk,Zfl,Zfn,Zfq,Zfz,Zf0,Zf1,Zga,Zgb,Zgc,Zgr,Zgs,Zgt,Zgu,Zgv,Zgw,Zgx,Zg4,Zg6,Zho,Zh6,Zh7,Zio,Zip,Zi6,Zjw,Zla,Zlb,Zle,Zll,Zlz,Zmt,Zmv,Zmw,Zmx,Zmz,Zm2,Zm5,Zm6,Zm7,Zna,Znb,Zne,Znf,Zng,Znr,Zns,Znt,Znv,Znw,Zn5,Zok,Zol,Zom,Zor,Zos,Zot,Zo3,Zo4,Zo7,Zo8,Zo9,Zpc,Zpg,Zpu,Zqf,Zqg,Zqh,Zqi,Zqk,Zql,Zqm,Zqn,eq_self,true_and,and_true,zF_fc,fc_0,fc_17,fc_18,fc_19,fc_20,fc_53,fc_54,fc_55,fs_0,fs_17,fs_18,fs_19,fs_20,fs_53,fs_54,fs_55,fp_1,fp_21,fp_f,rb_1,rb_21,rb_0,fc_len,fc_ok,fc_id,fc_rs,v16,v32,cB_cells,h,hb,hw,a0,a1,b0,b1,e0,cR_length]
            tactic =>
            and_intros <;> try (first | omega | rfl | assumption | simp only [IN]; omega)
            refine endA ?_
            sym =>
            simp [Zaa,Zab,Zac,Zad,Zae,Zaf,Zag,Zah,Zai,Zak,Zal,Zam,Zan,Zao,Zap,Zaq,Zar,Zav,Zaw,Zax,Zay,Zaz,Za0,Za1,Za2,Za3,Za4,Za5,Za6,Za7,Za8,Za9,Zba,Zbb,Zbc,Zbd,Zbf,Zbh,Zbi,Zbt,Zbu,Zbv,Zbw,Zb2,Zcn,Zcx,Zc7,Zc8,Zdc,Zdd,Zde,Zdi,Zdo,Zdp,Zdt,Zdu,Zdv,Zdw,Zdx,Zdy,Zdz,Zd0,Zd1,Zd2,Zd3,Zeb,Zee,Zek,Zen,Zer,Zes,Zev,Zew,Zex,Zez,Ze0,Ze2,Ze3,Ze5,Ze8,Zfc,Zfd,Zfe,Zfh,Zfi,Zfk,Zfl,Zfn,Zfq,Zfz,Zf0,Zf1,Zga,Zgb,Zgc,Zgr,Zgs,Zgt,Zgu,Zgv,Zgw,Zgx,Zg4,Zg6,Zho,Zh6,Zh7,Zio,Zip,Zi6,Zjw,Zla,Zlb,Zle,Zll,Zlz,Zmt,Zmv,Zmw,Zmx,Zmz,Zm2,Zm5,Zm6,Zm7,Zna,Znb,Zne,Znf,Zng,Znr,Zns,Znt,Znv,Znw,Zn5,Zok,Zol,Zom,Zor,Zos,Zot,Zo3,Zo4,Zo7,Zo8,Zo9,Zpc,Zpg,Zpu,Zqf,Zqg,Zqh,Zqi,Zqk,Zql,Zqm,Zqn,eq_self,true_and,and_true]
      · exfalso
        apply hrr
        rw [List.take_of_length_le (by omega), List.take_of_length_le (by omega)] at ht
        exact ht
    · have hl1 : ¬ IN r.length = IN r'.length := by simp only [IN]; omega
      sym =>
      simp [Zaa,Zab,Zac,Zad,Zae,Zaf,Zag,Zah,Zai,Zak,Zal,Zam,Zan,Zao,Zap,Zaq,Zar,Zav,Zaw,Zax,Zay,Zaz,Za0,Za1,Za2,Za3,Za4,Za5,Za6,Za7,Za8,Za9,Zba,Zbb,Zbc,Zbd,Zbf,Zbh,Zbi,Zbt,Zbu,Zbv,Zbw,Zb2,Zcn,Zcx,Zc7,Zc8,Zdc,Zdd,Zde,Zdi,Zdo,Zdp,Zdt,Zdu,Zdv,Zdw,Zdx,Zdy,Zdz,Zd0,Zd1,Zd2,Zd3,Zeb,Zee,Zek,Zen,Zer,Zes,Zev,Zew,Zex,Zez,Ze0,Ze2,Ze3,Ze5,Ze8,Zfc,Zfd,Zfe,Zfh,Zfi,Zfk,Zfl,Zfn,Zfq,Zfz,Zf0,Zf1,Zga,Zgb,Zgc,Zgr,Zgs,Zgt,Zgu,Zgv,Zgw,Zgx,Zg4,Zg6,Zho,Zh6,Zh7,Zio,Zip,Zi6,Zjw,Zla,Zlb,Zle,Zll,Zlz,Zmt,Zmv,Zmw,Zmx,Zmz,Zm2,Zm5,Zm6,Zm7,Zna,Znb,Zne,Znf,Zng,Znr,Zns,Znt,Znv,Znw,Zn5,Zok,Zol,Zom,Zor,Zos,Zot,Zo3,Zo4,Zo7,Zo8,Zo9,Zpc,Zpg,Zpu,Zqf,Zqg,Zqh,Zqi,Zqk,Zql,Zqm,Zqn,eq_self,true_and,and_true,zF_fc,fc_0,fc_17,fc_18,fc_19,fc_20,fc_53,fc_54,fc_55,fs_0,fs_17,fs_18,fs_19,fs_20,fs_53,fs_54,fs_55,fp_1,fp_21,fp_f,rb_1,rb_21,rb_0,fc_len,fc_ok,fc_id,fc_rs,v16,v32,cB_cells,hl]
      tactic =>
      refine endA ?_
      sym =>
      simp [Zaa,Zab,Zac,Zad,Zae,Zaf,Zag,Zah,Zai,Zak,Zal,Zam,Zan,Zao,Zap,Zaq,Zar,Zav,Zaw,Zax,Zay,Zaz,Za0,Za1,Za2,Za3,Za4,Za5,Za6,Za7,Za8,Za9,Zba,Zbb,Zbc,Zbd,Zbf,Zbh,Zbi,Zbt,Zbu,Zbv,Zbw,Zb2,Zcn,Zcx,Zc7,Zc8,Zdc,Zdd,Zde,Zdi,Zdo,Zdp,Zdt,Zdu,Zdv,Zdw,Zdx,Zdy,Zdz,Zd0,Zd1,Zd2,Zd3,Zeb,Zee,Zek,Zen,Zer,Zes,Zev,Zew,Zex,Zez,Ze0,Ze2,Ze3,Ze5,Ze8,Zfc,Zfd,Zfe,Zfh,Zfi,Zfk,Zfl,Zfn,Zfq,Zfz,Zf0,Zf1,Zga,Zgb,Zgc,Zgr,Zgs,Zgt,Zgu,Zgv,Zgw,Zgx,Zg4,Zg6,Zho,Zh6,Zh7,Zio,Zip,Zi6,Zjw,Zla,Zlb,Zle,Zll,Zlz,Zmt,Zmv,Zmw,Zmx,Zmz,Zm2,Zm5,Zm6,Zm7,Zna,Znb,Zne,Znf,Zng,Znr,Zns,Znt,Znv,Znw,Zn5,Zok,Zol,Zom,Zor,Zos,Zot,Zo3,Zo4,Zo7,Zo8,Zo9,Zpc,Zpg,Zpu,Zqf,Zqg,Zqh,Zqi,Zqk,Zql,Zqm,Zqn,eq_self,true_and,and_true]
  obtain ⟨k, t, es, er, o, n, su, d, r, c⟩ := f
  obtain ⟨k', t', es', er', o', n', su', d', r', c'⟩ := g
  simp only at hr hrr hd
  subst hrr
  obtain ⟨R, hR⟩ : ∃ R, R = saF ⟨k, t, es, er, o, n, su, d, r, c⟩ ⟨k', t', es', er', o', n', su', d', r, c'⟩ := ⟨_, rfl⟩
  rw [← hR]
  unfold saF at hR
  simp only at hR
  simp only [fr]
  refine con_j b21 rfl ?_
  sym =>
  simp [Zaa,Zab,Zac,Zad,Zae,Zaf,Zag,Zah,Zai,Zak,Zal,Zam,Zan,Zao,Zap,Zaq,Zar,Zav,Zaw,Zax,Zay,Zaz,Za0,Za1,Za2,Za3,Za4,Za5,Za6,Za7,Za8,Za9,Zba,Zbb,Zbc,Zbd,Zbf,Zbh,Zbi,Zbt,Zbu,Zbv,Zbw,Zb2,Zcn,Zcx,Zc7,Zc8,Zdc,Zdd,Zde,Zdi,Zdo,Zdp,Zdt,Zdu,Zdv,Zdw,Zdx,Zdy,Zdz,Zd0,Zd1,Zd2,Zd3,Zeb,Zee,Zek,Zen,Zer,Zes,Zev,Zew,Zex,Zez,Ze0,Ze2,Ze3,Ze5,Ze8,Zfc,Zfd,Zfe,Zfh,Zfi,Zfk,Zfl,Zfn,Zfq,Zfz,Zf0,Zf1,Zga,Zgb,Zgc,Zgr,Zgs,Zgt,Zgu,Zgv,Zgw,Zgx,Zg4,Zg6,Zho,Zh6,Zh7,Zio,Zip,Zi6,Zjw,Zla,Zlb,Zle,Zll,Zlz,Zmt,Zmv,Zmw,Zmx,Zmz,Zm2,Zm5,Zm6,Zm7,Zna,Znb,Zne,Znf,Zng,Znr,Zns,Znt,Znv,Znw,Zn5,Zok,Zol,Zom,Zor,Zos,Zot,Zo3,Zo4,Zo7,Zo8,Zo9,Zpc,Zpg,Zpu,Zqf,Zqg,Zqh,Zqi,Zqk,Zql,Zqm,Zqn,eq_self,true_and,and_true,zF_fc,fc_0,fc_17,fc_18,fc_19,fc_20,fc_53,fc_54,fc_55,fs_0,fs_17,fs_18,fs_19,fs_20,fs_53,fs_54,fs_55,fp_1,fp_21,fp_f,rb_1,rb_21,rb_0,fc_len,fc_ok,fc_id,fc_rs,v16,v32,cB_cells]
  tactic =>
  refine lpA (i21 (fc k t es er o n su (fB d) (fR r) c) (fc k' t' es' er' o' n' su' (fB d') (fR r) c') r r) r.length [(0, 0), (1, 1)] _ ⟨0, by omega, rfl, rfl⟩ (wkA ?_) ?_
  · sym =>
    simp [Zaa,Zab,Zac,Zad,Zae,Zaf,Zag,Zah,Zai,Zak,Zal,Zam,Zan,Zao,Zap,Zaq,Zar,Zav,Zaw,Zax,Zay,Zaz,Za0,Za1,Za2,Za3,Za4,Za5,Za6,Za7,Za8,Za9,Zba,Zbb,Zbc,Zbd,Zbf,Zbh,Zbi,Zbt,Zbu,Zbv,Zbw,Zb2,Zcn,Zcx,Zc7,Zc8,Zdc,Zdd,Zde,Zdi,Zdo,Zdp,Zdt,Zdu,Zdv,Zdw,Zdx,Zdy,Zdz,Zd0,Zd1,Zd2,Zd3,Zeb,Zee,Zek,Zen,Zer,Zes,Zev,Zew,Zex,Zez,Ze0,Ze2,Ze3,Ze5,Ze8,Zfc,Zfd,Zfe,Zfh,Zfi,Zfk,Zfl,Zfn,Zfq,Zfz,Zf0,Zf1,Zga,Zgb,Zgc,Zgr,Zgs,Zgt,Zgu,Zgv,Zgw,Zgx,Zg4,Zg6,Zho,Zh6,Zh7,Zio,Zip,Zi6,Zjw,Zla,Zlb,Zle,Zll,Zlz,Zmt,Zmv,Zmw,Zmx,Zmz,Zm2,Zm5,Zm6,Zm7,Zna,Znb,Zne,Znf,Zng,Znr,Zns,Znt,Znv,Znw,Zn5,Zok,Zol,Zom,Zor,Zos,Zot,Zo3,Zo4,Zo7,Zo8,Zo9,Zpc,Zpg,Zpu,Zqf,Zqg,Zqh,Zqi,Zqk,Zql,Zqm,Zqn,eq_self,true_and,and_true,zF_fc,fc_0,fc_17,fc_18,fc_19,fc_20,fc_53,fc_54,fc_55,fs_0,fs_17,fs_18,fs_19,fs_20,fs_53,fs_54,fs_55,fp_1,fp_21,fp_f,rb_1,rb_21,rb_0,fc_len,fc_ok,fc_id,fc_rs,v16,v32,cB_cells]
  rintro kk s ⟨i, hi, ht, rfl⟩
  by_cases h : i < r.length
  · have hw := w64s i (by omega)
    have a0 := cR_q0 r i h
    have a1 := cR_q1 r i h
    sym =>
    simp [Zaa,Zab,Zac,Zad,Zae,Zaf,Zag,Zah,Zai,Zak,Zal,Zam,Zan,Zao,Zap,Zaq,Zar,Zav,Zaw,Zax,Zay,Zaz,Za0,Za1,Za2,Za3,Za4,Za5,Za6,Za7,Za8,Za9,Zba,Zbb,Zbc,Zbd,Zbf,Zbh,Zbi,Zbt,Zbu,Zbv,Zbw,Zb2,Zcn,Zcx,Zc7,Zc8,Zdc,Zdd,Zde,Zdi,Zdo,Zdp,Zdt,Zdu,Zdv,Zdw,Zdx,Zdy,Zdz,Zd0,Zd1,Zd2,Zd3,Zeb,Zee,Zek,Zen,Zer,Zes,Zev,Zew,Zex,Zez,Ze0,Ze2,Ze3,Ze5,Ze8,Zfc,Zfd,Zfe,Zfh,Zfi,Zfk,Zfl,Zfn,Zfq,Zfz,Zf0,Zf1,Zga,Zgb,Zgc,Zgr,Zgs,Zgt,Zgu,Zgv,Zgw,Zgx,Zg4,Zg6,Zho,Zh6,Zh7,Zio,Zip,Zi6,Zjw,Zla,Zlb,Zle,Zll,Zlz,Zmt,Zmv,Zmw,Zmx,Zmz,Zm2,Zm5,Zm6,Zm7,Zna,Znb,Zne,Znf,Zng,Znr,Zns,Znt,Znv,Znw,Zn5,Zok,Zol,Zom,Zor,Zos,Zot,Zo3,Zo4,Zo7,Zo8,Zo9,Zpc,Zpg,Zpu,Zqf,Zqg,Zqh,Zqi,Zqk,Zql,Zqm,Zqn,eq_self,true_and,and_true,zF_fc,fc_0,fc_17,fc_18,fc_19,fc_20,fc_53,fc_54,fc_55,fs_0,fs_17,fs_18,fs_19,fs_20,fs_53,fs_54,fs_55,fp_1,fp_21,fp_f,rb_1,rb_21,rb_0,fc_len,fc_ok,fc_id,fc_rs,v16,v32,cB_cells,h,hw,a0,a1,cR_length]
    tactic =>
    and_intros <;> try (first | omega | rfl | assumption | simp only [IN]; omega)
    unfold NextL; refine ⟨(kk - 1), [(0, 0), (1, 1)], _, by omega, ⟨i + 1, by omega, rfl, rfl⟩, wkA ?_⟩
    sym =>
    simp [Zaa,Zab,Zac,Zad,Zae,Zaf,Zag,Zah,Zai,Zak,Zal,Zam,Zan,Zao,Zap,Zaq,Zar,Zav,Zaw,Zax,Zay,Zaz,Za0,Za1,Za2,Za3,Za4,Za5,Za6,Za7,Za8,Za9,Zba,Zbb,Zbc,Zbd,Zbf,Zbh,Zbi,Zbt,Zbu,Zbv,Zbw,Zb2,Zcn,Zcx,Zc7,Zc8,Zdc,Zdd,Zde,Zdi,Zdo,Zdp,Zdt,Zdu,Zdv,Zdw,Zdx,Zdy,Zdz,Zd0,Zd1,Zd2,Zd3,Zeb,Zee,Zek,Zen,Zer,Zes,Zev,Zew,Zex,Zez,Ze0,Ze2,Ze3,Ze5,Ze8,Zfc,Zfd,Zfe,Zfh,Zfi,Zfk,Zfl,Zfn,Zfq,Zfz,Zf0,Zf1,Zga,Zgb,Zgc,Zgr,Zgs,Zgt,Zgu,Zgv,Zgw,Zgx,Zg4,Zg6,Zho,Zh6,Zh7,Zio,Zip,Zi6,Zjw,Zla,Zlb,Zle,Zll,Zlz,Zmt,Zmv,Zmw,Zmx,Zmz,Zm2,Zm5,Zm6,Zm7,Zna,Znb,Zne,Znf,Zng,Znr,Zns,Znt,Znv,Znw,Zn5,Zok,Zol,Zom,Zor,Zos,Zot,Zo3,Zo4,Zo7,Zo8,Zo9,Zpc,Zpg,Zpu,Zqf,Zqg,Zqh,Zqi,Zqk,Zql,Zqm,Zqn,eq_self,true_and,and_true,zF_fc,fc_0,fc_17,fc_18,fc_19,fc_20,fc_53,fc_54,fc_55,fs_0,fs_17,fs_18,fs_19,fs_20,fs_53,fs_54,fs_55,fp_1,fp_21,fp_f,rb_1,rb_21,rb_0,fc_len,fc_ok,fc_id,fc_rs,v16,v32,cB_cells]
  by_cases h1 : k = k'
  rotate_left
  · rw [if_neg h1] at hR
    subst hR
    sym =>
    simp [Zaa,Zab,Zac,Zad,Zae,Zaf,Zag,Zah,Zai,Zak,Zal,Zam,Zan,Zao,Zap,Zaq,Zar,Zav,Zaw,Zax,Zay,Zaz,Za0,Za1,Za2,Za3,Za4,Za5,Za6,Za7,Za8,Za9,Zba,Zbb,Zbc,Zbd,Zbf,Zbh,Zbi,Zbt,Zbu,Zbv,Zbw,Zb2,Zcn,Zcx,Zc7,Zc8,Zdc,Zdd,Zde,Zdi,Zdo,Zdp,Zdt,Zdu,Zdv,Zdw,Zdx,Zdy,Zdz,Zd0,Zd1,Zd2,Zd3,Zeb,Zee,Zek,Zen,Zer,Zes,Zev,Zew,Zex,Zez,Ze0,Ze2,Ze3,Ze5,Ze8,Zfc,Zfd,Zfe,Zfh,Zfi,Zfk,Zfl,Zfn,Zfq,Zfz,Zf0,Zf1,Zga,Zgb,Zgc,Zgr,Zgs,Zgt,Zgu,Zgv,Zgw,Zgx,Zg4,Zg6,Zho,Zh6,Zh7,Zio,Zip,Zi6,Zjw,Zla,Zlb,Zle,Zll,Zlz,Zmt,Zmv,Zmw,Zmx,Zmz,Zm2,Zm5,Zm6,Zm7,Zna,Znb,Zne,Znf,Zng,Znr,Zns,Znt,Znv,Znw,Zn5,Zok,Zol,Zom,Zor,Zos,Zot,Zo3,Zo4,Zo7,Zo8,Zo9,Zpc,Zpg,Zpu,Zqf,Zqg,Zqh,Zqi,Zqk,Zql,Zqm,Zqn,eq_self,true_and,and_true,zF_fc,fc_0,fc_17,fc_18,fc_19,fc_20,fc_53,fc_54,fc_55,fs_0,fs_17,fs_18,fs_19,fs_20,fs_53,fs_54,fs_55,fp_1,fp_21,fp_f,rb_1,rb_21,rb_0,fc_len,fc_ok,fc_id,fc_rs,v16,v32,cB_cells,eqL_self,sk16,sk32,h,h1]
    tactic =>
    refine endA ?_
    sym =>
    simp [Zaa,Zab,Zac,Zad,Zae,Zaf,Zag,Zah,Zai,Zak,Zal,Zam,Zan,Zao,Zap,Zaq,Zar,Zav,Zaw,Zax,Zay,Zaz,Za0,Za1,Za2,Za3,Za4,Za5,Za6,Za7,Za8,Za9,Zba,Zbb,Zbc,Zbd,Zbf,Zbh,Zbi,Zbt,Zbu,Zbv,Zbw,Zb2,Zcn,Zcx,Zc7,Zc8,Zdc,Zdd,Zde,Zdi,Zdo,Zdp,Zdt,Zdu,Zdv,Zdw,Zdx,Zdy,Zdz,Zd0,Zd1,Zd2,Zd3,Zeb,Zee,Zek,Zen,Zer,Zes,Zev,Zew,Zex,Zez,Ze0,Ze2,Ze3,Ze5,Ze8,Zfc,Zfd,Zfe,Zfh,Zfi,Zfk,Zfl,Zfn,Zfq,Zfz,Zf0,Zf1,Zga,Zgb,Zgc,Zgr,Zgs,Zgt,Zgu,Zgv,Zgw,Zgx,Zg4,Zg6,Zho,Zh6,Zh7,Zio,Zip,Zi6,Zjw,Zla,Zlb,Zle,Zll,Zlz,Zmt,Zmv,Zmw,Zmx,Zmz,Zm2,Zm5,Zm6,Zm7,Zna,Znb,Zne,Znf,Zng,Znr,Zns,Znt,Znv,Znw,Zn5,Zok,Zol,Zom,Zor,Zos,Zot,Zo3,Zo4,Zo7,Zo8,Zo9,Zpc,Zpg,Zpu,Zqf,Zqg,Zqh,Zqi,Zqk,Zql,Zqm,Zqn,eq_self,true_and,and_true]
  rw [if_pos h1] at hR
  subst h1
  by_cases h2 : t = t'
  rotate_left
  · rw [if_neg h2] at hR
    subst hR
    have e2 : eqL (cB t.1) (cB t'.1) = false := by rw [eqL_V]; exact decide_eq_false h2
    sym =>
    simp [Zaa,Zab,Zac,Zad,Zae,Zaf,Zag,Zah,Zai,Zak,Zal,Zam,Zan,Zao,Zap,Zaq,Zar,Zav,Zaw,Zax,Zay,Zaz,Za0,Za1,Za2,Za3,Za4,Za5,Za6,Za7,Za8,Za9,Zba,Zbb,Zbc,Zbd,Zbf,Zbh,Zbi,Zbt,Zbu,Zbv,Zbw,Zb2,Zcn,Zcx,Zc7,Zc8,Zdc,Zdd,Zde,Zdi,Zdo,Zdp,Zdt,Zdu,Zdv,Zdw,Zdx,Zdy,Zdz,Zd0,Zd1,Zd2,Zd3,Zeb,Zee,Zek,Zen,Zer,Zes,Zev,Zew,Zex,Zez,Ze0,Ze2,Ze3,Ze5,Ze8,Zfc,Zfd,Zfe,Zfh,Zfi,Zfk,Zfl,Zfn,Zfq,Zfz,Zf0,Zf1,Zga,Zgb,Zgc,Zgr,Zgs,Zgt,Zgu,Zgv,Zgw,Zgx,Zg4,Zg6,Zho,Zh6,Zh7,Zio,Zip,Zi6,Zjw,Zla,Zlb,Zle,Zll,Zlz,Zmt,Zmv,Zmw,Zmx,Zmz,Zm2,Zm5,Zm6,Zm7,Zna,Znb,Zne,Znf,Zng,Znr,Zns,Znt,Znv,Znw,Zn5,Zok,Zol,Zom,Zor,Zos,Zot,Zo3,Zo4,Zo7,Zo8,Zo9,Zpc,Zpg,Zpu,Zqf,Zqg,Zqh,Zqi,Zqk,Zql,Zqm,Zqn,eq_self,true_and,and_true,zF_fc,fc_0,fc_17,fc_18,fc_19,fc_20,fc_53,fc_54,fc_55,fs_0,fs_17,fs_18,fs_19,fs_20,fs_53,fs_54,fs_55,fp_1,fp_21,fp_f,rb_1,rb_21,rb_0,fc_len,fc_ok,fc_id,fc_rs,v16,v32,cB_cells,eqL_self,sk16,sk32,h,e2]
    tactic =>
    refine endA ?_
    sym =>
    simp [Zaa,Zab,Zac,Zad,Zae,Zaf,Zag,Zah,Zai,Zak,Zal,Zam,Zan,Zao,Zap,Zaq,Zar,Zav,Zaw,Zax,Zay,Zaz,Za0,Za1,Za2,Za3,Za4,Za5,Za6,Za7,Za8,Za9,Zba,Zbb,Zbc,Zbd,Zbf,Zbh,Zbi,Zbt,Zbu,Zbv,Zbw,Zb2,Zcn,Zcx,Zc7,Zc8,Zdc,Zdd,Zde,Zdi,Zdo,Zdp,Zdt,Zdu,Zdv,Zdw,Zdx,Zdy,Zdz,Zd0,Zd1,Zd2,Zd3,Zeb,Zee,Zek,Zen,Zer,Zes,Zev,Zew,Zex,Zez,Ze0,Ze2,Ze3,Ze5,Ze8,Zfc,Zfd,Zfe,Zfh,Zfi,Zfk,Zfl,Zfn,Zfq,Zfz,Zf0,Zf1,Zga,Zgb,Zgc,Zgr,Zgs,Zgt,Zgu,Zgv,Zgw,Zgx,Zg4,Zg6,Zho,Zh6,Zh7,Zio,Zip,Zi6,Zjw,Zla,Zlb,Zle,Zll,Zlz,Zmt,Zmv,Zmw,Zmx,Zmz,Zm2,Zm5,Zm6,Zm7,Zna,Znb,Zne,Znf,Zng,Znr,Zns,Znt,Znv,Znw,Zn5,Zok,Zol,Zom,Zor,Zos,Zot,Zo3,Zo4,Zo7,Zo8,Zo9,Zpc,Zpg,Zpu,Zqf,Zqg,Zqh,Zqi,Zqk,Zql,Zqm,Zqn,eq_self,true_and,and_true]
  rw [if_pos h2] at hR
  subst h2
  by_cases h3 : es = es'
  rotate_left
  · rw [if_neg h3] at hR
    subst hR
    sym =>
    simp [Zaa,Zab,Zac,Zad,Zae,Zaf,Zag,Zah,Zai,Zak,Zal,Zam,Zan,Zao,Zap,Zaq,Zar,Zav,Zaw,Zax,Zay,Zaz,Za0,Za1,Za2,Za3,Za4,Za5,Za6,Za7,Za8,Za9,Zba,Zbb,Zbc,Zbd,Zbf,Zbh,Zbi,Zbt,Zbu,Zbv,Zbw,Zb2,Zcn,Zcx,Zc7,Zc8,Zdc,Zdd,Zde,Zdi,Zdo,Zdp,Zdt,Zdu,Zdv,Zdw,Zdx,Zdy,Zdz,Zd0,Zd1,Zd2,Zd3,Zeb,Zee,Zek,Zen,Zer,Zes,Zev,Zew,Zex,Zez,Ze0,Ze2,Ze3,Ze5,Ze8,Zfc,Zfd,Zfe,Zfh,Zfi,Zfk,Zfl,Zfn,Zfq,Zfz,Zf0,Zf1,Zga,Zgb,Zgc,Zgr,Zgs,Zgt,Zgu,Zgv,Zgw,Zgx,Zg4,Zg6,Zho,Zh6,Zh7,Zio,Zip,Zi6,Zjw,Zla,Zlb,Zle,Zll,Zlz,Zmt,Zmv,Zmw,Zmx,Zmz,Zm2,Zm5,Zm6,Zm7,Zna,Znb,Zne,Znf,Zng,Znr,Zns,Znt,Znv,Znw,Zn5,Zok,Zol,Zom,Zor,Zos,Zot,Zo3,Zo4,Zo7,Zo8,Zo9,Zpc,Zpg,Zpu,Zqf,Zqg,Zqh,Zqi,Zqk,Zql,Zqm,Zqn,eq_self,true_and,and_true,zF_fc,fc_0,fc_17,fc_18,fc_19,fc_20,fc_53,fc_54,fc_55,fs_0,fs_17,fs_18,fs_19,fs_20,fs_53,fs_54,fs_55,fp_1,fp_21,fp_f,rb_1,rb_21,rb_0,fc_len,fc_ok,fc_id,fc_rs,v16,v32,cB_cells,eqL_self,sk16,sk32,h,h3]
    tactic =>
    refine endA ?_
    sym =>
    simp [Zaa,Zab,Zac,Zad,Zae,Zaf,Zag,Zah,Zai,Zak,Zal,Zam,Zan,Zao,Zap,Zaq,Zar,Zav,Zaw,Zax,Zay,Zaz,Za0,Za1,Za2,Za3,Za4,Za5,Za6,Za7,Za8,Za9,Zba,Zbb,Zbc,Zbd,Zbf,Zbh,Zbi,Zbt,Zbu,Zbv,Zbw,Zb2,Zcn,Zcx,Zc7,Zc8,Zdc,Zdd,Zde,Zdi,Zdo,Zdp,Zdt,Zdu,Zdv,Zdw,Zdx,Zdy,Zdz,Zd0,Zd1,Zd2,Zd3,Zeb,Zee,Zek,Zen,Zer,Zes,Zev,Zew,Zex,Zez,Ze0,Ze2,Ze3,Ze5,Ze8,Zfc,Zfd,Zfe,Zfh,Zfi,Zfk,Zfl,Zfn,Zfq,Zfz,Zf0,Zf1,Zga,Zgb,Zgc,Zgr,Zgs,Zgt,Zgu,Zgv,Zgw,Zgx,Zg4,Zg6,Zho,Zh6,Zh7,Zio,Zip,Zi6,Zjw,Zla,Zlb,Zle,Zll,Zlz,Zmt,Zmv,Zmw,Zmx,Zmz,Zm2,Zm5,Zm6,Zm7,Zna,Znb,Zne,Znf,Zng,Znr,Zns,Znt,Znv,Znw,Zn5,Zok,Zol,Zom,Zor,Zos,Zot,Zo3,Zo4,Zo7,Zo8,Zo9,Zpc,Zpg,Zpu,Zqf,Zqg,Zqh,Zqi,Zqk,Zql,Zqm,Zqn,eq_self,true_and,and_true]
  rw [if_pos h3] at hR
  subst h3
  by_cases h4 : er = er'
  rotate_left
  · rw [if_neg h4] at hR
    subst hR
    sym =>
    simp [Zaa,Zab,Zac,Zad,Zae,Zaf,Zag,Zah,Zai,Zak,Zal,Zam,Zan,Zao,Zap,Zaq,Zar,Zav,Zaw,Zax,Zay,Zaz,Za0,Za1,Za2,Za3,Za4,Za5,Za6,Za7,Za8,Za9,Zba,Zbb,Zbc,Zbd,Zbf,Zbh,Zbi,Zbt,Zbu,Zbv,Zbw,Zb2,Zcn,Zcx,Zc7,Zc8,Zdc,Zdd,Zde,Zdi,Zdo,Zdp,Zdt,Zdu,Zdv,Zdw,Zdx,Zdy,Zdz,Zd0,Zd1,Zd2,Zd3,Zeb,Zee,Zek,Zen,Zer,Zes,Zev,Zew,Zex,Zez,Ze0,Ze2,Ze3,Ze5,Ze8,Zfc,Zfd,Zfe,Zfh,Zfi,Zfk,Zfl,Zfn,Zfq,Zfz,Zf0,Zf1,Zga,Zgb,Zgc,Zgr,Zgs,Zgt,Zgu,Zgv,Zgw,Zgx,Zg4,Zg6,Zho,Zh6,Zh7,Zio,Zip,Zi6,Zjw,Zla,Zlb,Zle,Zll,Zlz,Zmt,Zmv,Zmw,Zmx,Zmz,Zm2,Zm5,Zm6,Zm7,Zna,Znb,Zne,Znf,Zng,Znr,Zns,Znt,Znv,Znw,Zn5,Zok,Zol,Zom,Zor,Zos,Zot,Zo3,Zo4,Zo7,Zo8,Zo9,Zpc,Zpg,Zpu,Zqf,Zqg,Zqh,Zqi,Zqk,Zql,Zqm,Zqn,eq_self,true_and,and_true,zF_fc,fc_0,fc_17,fc_18,fc_19,fc_20,fc_53,fc_54,fc_55,fs_0,fs_17,fs_18,fs_19,fs_20,fs_53,fs_54,fs_55,fp_1,fp_21,fp_f,rb_1,rb_21,rb_0,fc_len,fc_ok,fc_id,fc_rs,v16,v32,cB_cells,eqL_self,sk16,sk32,h,h4]
    tactic =>
    refine endA ?_
    sym =>
    simp [Zaa,Zab,Zac,Zad,Zae,Zaf,Zag,Zah,Zai,Zak,Zal,Zam,Zan,Zao,Zap,Zaq,Zar,Zav,Zaw,Zax,Zay,Zaz,Za0,Za1,Za2,Za3,Za4,Za5,Za6,Za7,Za8,Za9,Zba,Zbb,Zbc,Zbd,Zbf,Zbh,Zbi,Zbt,Zbu,Zbv,Zbw,Zb2,Zcn,Zcx,Zc7,Zc8,Zdc,Zdd,Zde,Zdi,Zdo,Zdp,Zdt,Zdu,Zdv,Zdw,Zdx,Zdy,Zdz,Zd0,Zd1,Zd2,Zd3,Zeb,Zee,Zek,Zen,Zer,Zes,Zev,Zew,Zex,Zez,Ze0,Ze2,Ze3,Ze5,Ze8,Zfc,Zfd,Zfe,Zfh,Zfi,Zfk,Zfl,Zfn,Zfq,Zfz,Zf0,Zf1,Zga,Zgb,Zgc,Zgr,Zgs,Zgt,Zgu,Zgv,Zgw,Zgx,Zg4,Zg6,Zho,Zh6,Zh7,Zio,Zip,Zi6,Zjw,Zla,Zlb,Zle,Zll,Zlz,Zmt,Zmv,Zmw,Zmx,Zmz,Zm2,Zm5,Zm6,Zm7,Zna,Znb,Zne,Znf,Zng,Znr,Zns,Znt,Znv,Znw,Zn5,Zok,Zol,Zom,Zor,Zos,Zot,Zo3,Zo4,Zo7,Zo8,Zo9,Zpc,Zpg,Zpu,Zqf,Zqg,Zqh,Zqi,Zqk,Zql,Zqm,Zqn,eq_self,true_and,and_true]
  rw [if_pos h4] at hR
  subst h4
  by_cases h5 : o = o'
  rotate_left
  · rw [if_neg h5] at hR
    subst hR
    sym =>
    simp [Zaa,Zab,Zac,Zad,Zae,Zaf,Zag,Zah,Zai,Zak,Zal,Zam,Zan,Zao,Zap,Zaq,Zar,Zav,Zaw,Zax,Zay,Zaz,Za0,Za1,Za2,Za3,Za4,Za5,Za6,Za7,Za8,Za9,Zba,Zbb,Zbc,Zbd,Zbf,Zbh,Zbi,Zbt,Zbu,Zbv,Zbw,Zb2,Zcn,Zcx,Zc7,Zc8,Zdc,Zdd,Zde,Zdi,Zdo,Zdp,Zdt,Zdu,Zdv,Zdw,Zdx,Zdy,Zdz,Zd0,Zd1,Zd2,Zd3,Zeb,Zee,Zek,Zen,Zer,Zes,Zev,Zew,Zex,Zez,Ze0,Ze2,Ze3,Ze5,Ze8,Zfc,Zfd,Zfe,Zfh,Zfi,Zfk,Zfl,Zfn,Zfq,Zfz,Zf0,Zf1,Zga,Zgb,Zgc,Zgr,Zgs,Zgt,Zgu,Zgv,Zgw,Zgx,Zg4,Zg6,Zho,Zh6,Zh7,Zio,Zip,Zi6,Zjw,Zla,Zlb,Zle,Zll,Zlz,Zmt,Zmv,Zmw,Zmx,Zmz,Zm2,Zm5,Zm6,Zm7,Zna,Znb,Zne,Znf,Zng,Znr,Zns,Znt,Znv,Znw,Zn5,Zok,Zol,Zom,Zor,Zos,Zot,Zo3,Zo4,Zo7,Zo8,Zo9,Zpc,Zpg,Zpu,Zqf,Zqg,Zqh,Zqi,Zqk,Zql,Zqm,Zqn,eq_self,true_and,and_true,zF_fc,fc_0,fc_17,fc_18,fc_19,fc_20,fc_53,fc_54,fc_55,fs_0,fs_17,fs_18,fs_19,fs_20,fs_53,fs_54,fs_55,fp_1,fp_21,fp_f,rb_1,rb_21,rb_0,fc_len,fc_ok,fc_id,fc_rs,v16,v32,cB_cells,eqL_self,sk16,sk32,h,h5]
    tactic =>
    refine endA ?_
    sym =>
    simp [Zaa,Zab,Zac,Zad,Zae,Zaf,Zag,Zah,Zai,Zak,Zal,Zam,Zan,Zao,Zap,Zaq,Zar,Zav,Zaw,Zax,Zay,Zaz,Za0,Za1,Za2,Za3,Za4,Za5,Za6,Za7,Za8,Za9,Zba,Zbb,Zbc,Zbd,Zbf,Zbh,Zbi,Zbt,Zbu,Zbv,Zbw,Zb2,Zcn,Zcx,Zc7,Zc8,Zdc,Zdd,Zde,Zdi,Zdo,Zdp,Zdt,Zdu,Zdv,Zdw,Zdx,Zdy,Zdz,Zd0,Zd1,Zd2,Zd3,Zeb,Zee,Zek,Zen,Zer,Zes,Zev,Zew,Zex,Zez,Ze0,Ze2,Ze3,Ze5,Ze8,Zfc,Zfd,Zfe,Zfh,Zfi,Zfk,Zfl,Zfn,Zfq,Zfz,Zf0,Zf1,Zga,Zgb,Zgc,Zgr,Zgs,Zgt,Zgu,Zgv,Zgw,Zgx,Zg4,Zg6,Zho,Zh6,Zh7,Zio,Zip,Zi6,Zjw,Zla,Zlb,Zle,Zll,Zlz,Zmt,Zmv,Zmw,Zmx,Zmz,Zm2,Zm5,Zm6,Zm7,Zna,Znb,Zne,Znf,Zng,Znr,Zns,Znt,Znv,Znw,Zn5,Zok,Zol,Zom,Zor,Zos,Zot,Zo3,Zo4,Zo7,Zo8,Zo9,Zpc,Zpg,Zpu,Zqf,Zqg,Zqh,Zqi,Zqk,Zql,Zqm,Zqn,eq_self,true_and,and_true]
  rw [if_pos h5] at hR
  subst h5
  by_cases h6 : n = n'
  rotate_left
  · rw [if_neg h6] at hR
    subst hR
    sym =>
    simp [Zaa,Zab,Zac,Zad,Zae,Zaf,Zag,Zah,Zai,Zak,Zal,Zam,Zan,Zao,Zap,Zaq,Zar,Zav,Zaw,Zax,Zay,Zaz,Za0,Za1,Za2,Za3,Za4,Za5,Za6,Za7,Za8,Za9,Zba,Zbb,Zbc,Zbd,Zbf,Zbh,Zbi,Zbt,Zbu,Zbv,Zbw,Zb2,Zcn,Zcx,Zc7,Zc8,Zdc,Zdd,Zde,Zdi,Zdo,Zdp,Zdt,Zdu,Zdv,Zdw,Zdx,Zdy,Zdz,Zd0,Zd1,Zd2,Zd3,Zeb,Zee,Zek,Zen,Zer,Zes,Zev,Zew,Zex,Zez,Ze0,Ze2,Ze3,Ze5,Ze8,Zfc,Zfd,Zfe,Zfh,Zfi,Zfk,Zfl,Zfn,Zfq,Zfz,Zf0,Zf1,Zga,Zgb,Zgc,Zgr,Zgs,Zgt,Zgu,Zgv,Zgw,Zgx,Zg4,Zg6,Zho,Zh6,Zh7,Zio,Zip,Zi6,Zjw,Zla,Zlb,Zle,Zll,Zlz,Zmt,Zmv,Zmw,Zmx,Zmz,Zm2,Zm5,Zm6,Zm7,Zna,Znb,Zne,Znf,Zng,Znr,Zns,Znt,Znv,Znw,Zn5,Zok,Zol,Zom,Zor,Zos,Zot,Zo3,Zo4,Zo7,Zo8,Zo9,Zpc,Zpg,Zpu,Zqf,Zqg,Zqh,Zqi,Zqk,Zql,Zqm,Zqn,eq_self,true_and,and_true,zF_fc,fc_0,fc_17,fc_18,fc_19,fc_20,fc_53,fc_54,fc_55,fs_0,fs_17,fs_18,fs_19,fs_20,fs_53,fs_54,fs_55,fp_1,fp_21,fp_f,rb_1,rb_21,rb_0,fc_len,fc_ok,fc_id,fc_rs,v16,v32,cB_cells,eqL_self,sk16,sk32,h,h6]
    tactic =>
    refine endA ?_
    sym =>
    simp [Zaa,Zab,Zac,Zad,Zae,Zaf,Zag,Zah,Zai,Zak,Zal,Zam,Zan,Zao,Zap,Zaq,Zar,Zav,Zaw,Zax,Zay,Zaz,Za0,Za1,Za2,Za3,Za4,Za5,Za6,Za7,Za8,Za9,Zba,Zbb,Zbc,Zbd,Zbf,Zbh,Zbi,Zbt,Zbu,Zbv,Zbw,Zb2,Zcn,Zcx,Zc7,Zc8,Zdc,Zdd,Zde,Zdi,Zdo,Zdp,Zdt,Zdu,Zdv,Zdw,Zdx,Zdy,Zdz,Zd0,Zd1,Zd2,Zd3,Zeb,Zee,Zek,Zen,Zer,Zes,Zev,Zew,Zex,Zez,Ze0,Ze2,Ze3,Ze5,Ze8,Zfc,Zfd,Zfe,Zfh,Zfi,Zfk,Zfl,Zfn,Zfq,Zfz,Zf0,Zf1,Zga,Zgb,Zgc,Zgr,Zgs,Zgt,Zgu,Zgv,Zgw,Zgx,Zg4,Zg6,Zho,Zh6,Zh7,Zio,Zip,Zi6,Zjw,Zla,Zlb,Zle,Zll,Zlz,Zmt,Zmv,Zmw,Zmx,Zmz,Zm2,Zm5,Zm6,Zm7,Zna,Znb,Zne,Znf,Zng,Znr,Zns,Znt,Znv,Znw,Zn5,Zok,Zol,Zom,Zor,Zos,Zot,Zo3,Zo4,Zo7,Zo8,Zo9,Zpc,Zpg,Zpu,Zqf,Zqg,Zqh,Zqi,Zqk,Zql,Zqm,Zqn,eq_self,true_and,and_true]
  rw [if_pos h6] at hR
  subst h6
  by_cases h7 : su = su'
  rotate_left
  · rw [if_neg h7] at hR
    subst hR
    have e7 : eqL (cB su.1) (cB su'.1) = false := by rw [eqL_V]; exact decide_eq_false h7
    sym =>
    simp [Zaa,Zab,Zac,Zad,Zae,Zaf,Zag,Zah,Zai,Zak,Zal,Zam,Zan,Zao,Zap,Zaq,Zar,Zav,Zaw,Zax,Zay,Zaz,Za0,Za1,Za2,Za3,Za4,Za5,Za6,Za7,Za8,Za9,Zba,Zbb,Zbc,Zbd,Zbf,Zbh,Zbi,Zbt,Zbu,Zbv,Zbw,Zb2,Zcn,Zcx,Zc7,Zc8,Zdc,Zdd,Zde,Zdi,Zdo,Zdp,Zdt,Zdu,Zdv,Zdw,Zdx,Zdy,Zdz,Zd0,Zd1,Zd2,Zd3,Zeb,Zee,Zek,Zen,Zer,Zes,Zev,Zew,Zex,Zez,Ze0,Ze2,Ze3,Ze5,Ze8,Zfc,Zfd,Zfe,Zfh,Zfi,Zfk,Zfl,Zfn,Zfq,Zfz,Zf0,Zf1,Zga,Zgb,Zgc,Zgr,Zgs,Zgt,Zgu,Zgv,Zgw,Zgx,Zg4,Zg6,Zho,Zh6,Zh7,Zio,Zip,Zi6,Zjw,Zla,Zlb,Zle,Zll,Zlz,Zmt,Zmv,Zmw,Zmx,Zmz,Zm2,Zm5,Zm6,Zm7,Zna,Znb,Zne,Znf,Zng,Znr,Zns,Znt,Znv,Znw,Zn5,Zok,Zol,Zom,Zor,Zos,Zot,Zo3,Zo4,Zo7,Zo8,Zo9,Zpc,Zpg,Zpu,Zqf,Zqg,Zqh,Zqi,Zqk,Zql,Zqm,Zqn,eq_self,true_and,and_true,zF_fc,fc_0,fc_17,fc_18,fc_19,fc_20,fc_53,fc_54,fc_55,fs_0,fs_17,fs_18,fs_19,fs_20,fs_53,fs_54,fs_55,fp_1,fp_21,fp_f,rb_1,rb_21,rb_0,fc_len,fc_ok,fc_id,fc_rs,v16,v32,cB_cells,eqL_self,sk16,sk32,h,e7]
    tactic =>
    refine endA ?_
    sym =>
    simp [Zaa,Zab,Zac,Zad,Zae,Zaf,Zag,Zah,Zai,Zak,Zal,Zam,Zan,Zao,Zap,Zaq,Zar,Zav,Zaw,Zax,Zay,Zaz,Za0,Za1,Za2,Za3,Za4,Za5,Za6,Za7,Za8,Za9,Zba,Zbb,Zbc,Zbd,Zbf,Zbh,Zbi,Zbt,Zbu,Zbv,Zbw,Zb2,Zcn,Zcx,Zc7,Zc8,Zdc,Zdd,Zde,Zdi,Zdo,Zdp,Zdt,Zdu,Zdv,Zdw,Zdx,Zdy,Zdz,Zd0,Zd1,Zd2,Zd3,Zeb,Zee,Zek,Zen,Zer,Zes,Zev,Zew,Zex,Zez,Ze0,Ze2,Ze3,Ze5,Ze8,Zfc,Zfd,Zfe,Zfh,Zfi,Zfk,Zfl,Zfn,Zfq,Zfz,Zf0,Zf1,Zga,Zgb,Zgc,Zgr,Zgs,Zgt,Zgu,Zgv,Zgw,Zgx,Zg4,Zg6,Zho,Zh6,Zh7,Zio,Zip,Zi6,Zjw,Zla,Zlb,Zle,Zll,Zlz,Zmt,Zmv,Zmw,Zmx,Zmz,Zm2,Zm5,Zm6,Zm7,Zna,Znb,Zne,Znf,Zng,Znr,Zns,Znt,Znv,Znw,Zn5,Zok,Zol,Zom,Zor,Zos,Zot,Zo3,Zo4,Zo7,Zo8,Zo9,Zpc,Zpg,Zpu,Zqf,Zqg,Zqh,Zqi,Zqk,Zql,Zqm,Zqn,eq_self,true_and,and_true]
  rw [if_pos h7] at hR
  subst h7
  by_cases h8 : c = c'
  rotate_left
  · rw [if_neg h8] at hR
    subst hR
    sym =>
    simp [Zaa,Zab,Zac,Zad,Zae,Zaf,Zag,Zah,Zai,Zak,Zal,Zam,Zan,Zao,Zap,Zaq,Zar,Zav,Zaw,Zax,Zay,Zaz,Za0,Za1,Za2,Za3,Za4,Za5,Za6,Za7,Za8,Za9,Zba,Zbb,Zbc,Zbd,Zbf,Zbh,Zbi,Zbt,Zbu,Zbv,Zbw,Zb2,Zcn,Zcx,Zc7,Zc8,Zdc,Zdd,Zde,Zdi,Zdo,Zdp,Zdt,Zdu,Zdv,Zdw,Zdx,Zdy,Zdz,Zd0,Zd1,Zd2,Zd3,Zeb,Zee,Zek,Zen,Zer,Zes,Zev,Zew,Zex,Zez,Ze0,Ze2,Ze3,Ze5,Ze8,Zfc,Zfd,Zfe,Zfh,Zfi,Zfk,Zfl,Zfn,Zfq,Zfz,Zf0,Zf1,Zga,Zgb,Zgc,Zgr,Zgs,Zgt,Zgu,Zgv,Zgw,Zgx,Zg4,Zg6,Zho,Zh6,Zh7,Zio,Zip,Zi6,Zjw,Zla,Zlb,Zle,Zll,Zlz,Zmt,Zmv,Zmw,Zmx,Zmz,Zm2,Zm5,Zm6,Zm7,Zna,Znb,Zne,Znf,Zng,Znr,Zns,Znt,Znv,Znw,Zn5,Zok,Zol,Zom,Zor,Zos,Zot,Zo3,Zo4,Zo7,Zo8,Zo9,Zpc,Zpg,Zpu,Zqf,Zqg,Zqh,Zqi,Zqk,Zql,Zqm,Zqn,eq_self,true_and,and_true,zF_fc,fc_0,fc_17,fc_18,fc_19,fc_20,fc_53,fc_54,fc_55,fs_0,fs_17,fs_18,fs_19,fs_20,fs_53,fs_54,fs_55,fp_1,fp_21,fp_f,rb_1,rb_21,rb_0,fc_len,fc_ok,fc_id,fc_rs,v16,v32,cB_cells,eqL_self,sk16,sk32,h,h8]
    tactic =>
    refine endA ?_
    sym =>
    simp [Zaa,Zab,Zac,Zad,Zae,Zaf,Zag,Zah,Zai,Zak,Zal,Zam,Zan,Zao,Zap,Zaq,Zar,Zav,Zaw,Zax,Zay,Zaz,Za0,Za1,Za2,Za3,Za4,Za5,Za6,Za7,Za8,Za9,Zba,Zbb,Zbc,Zbd,Zbf,Zbh,Zbi,Zbt,Zbu,Zbv,Zbw,Zb2,Zcn,Zcx,Zc7,Zc8,Zdc,Zdd,Zde,Zdi,Zdo,Zdp,Zdt,Zdu,Zdv,Zdw,Zdx,Zdy,Zdz,Zd0,Zd1,Zd2,Zd3,Zeb,Zee,Zek,Zen,Zer,Zes,Zev,Zew,Zex,Zez,Ze0,Ze2,Ze3,Ze5,Ze8,Zfc,Zfd,Zfe,Zfh,Zfi,Zfk,Zfl,Zfn,Zfq,Zfz,Zf0,Zf1,Zga,Zgb,Zgc,Zgr,Zgs,Zgt,Zgu,Zgv,Zgw,Zgx,Zg4,Zg6,Zho,Zh6,Zh7,Zio,Zip,Zi6,Zjw,Zla,Zlb,Zle,Zll,Zlz,Zmt,Zmv,Zmw,Zmx,Zmz,Zm2,Zm5,Zm6,Zm7,Zna,Znb,Zne,Znf,Zng,Znr,Zns,Znt,Znv,Znw,Zn5,Zok,Zol,Zom,Zor,Zos,Zot,Zo3,Zo4,Zo7,Zo8,Zo9,Zpc,Zpg,Zpu,Zqf,Zqg,Zqh,Zqi,Zqk,Zql,Zqm,Zqn,eq_self,true_and,and_true]
  rw [if_pos h8] at hR
  subst h8
  have heq := nsame_con d d' (by omega)
  sym =>
  simp [Zaa,Zab,Zac,Zad,Zae,Zaf,Zag,Zah,Zai,Zak,Zal,Zam,Zan,Zao,Zap,Zaq,Zar,Zav,Zaw,Zax,Zay,Zaz,Za0,Za1,Za2,Za3,Za4,Za5,Za6,Za7,Za8,Za9,Zba,Zbb,Zbc,Zbd,Zbf,Zbh,Zbi,Zbt,Zbu,Zbv,Zbw,Zb2,Zcn,Zcx,Zc7,Zc8,Zdc,Zdd,Zde,Zdi,Zdo,Zdp,Zdt,Zdu,Zdv,Zdw,Zdx,Zdy,Zdz,Zd0,Zd1,Zd2,Zd3,Zeb,Zee,Zek,Zen,Zer,Zes,Zev,Zew,Zex,Zez,Ze0,Ze2,Ze3,Ze5,Ze8,Zfc,Zfd,Zfe,Zfh,Zfi,Zfk,Zfl,Zfn,Zfq,Zfz,Zf0,Zf1,Zga,Zgb,Zgc,Zgr,Zgs,Zgt,Zgu,Zgv,Zgw,Zgx,Zg4,Zg6,Zho,Zh6,Zh7,Zio,Zip,Zi6,Zjw,Zla,Zlb,Zle,Zll,Zlz,Zmt,Zmv,Zmw,Zmx,Zmz,Zm2,Zm5,Zm6,Zm7,Zna,Znb,Zne,Znf,Zng,Znr,Zns,Znt,Znv,Znw,Zn5,Zok,Zol,Zom,Zor,Zos,Zot,Zo3,Zo4,Zo7,Zo8,Zo9,Zpc,Zpg,Zpu,Zqf,Zqg,Zqh,Zqi,Zqk,Zql,Zqm,Zqn,eq_self,true_and,and_true,zF_fc,fc_0,fc_17,fc_18,fc_19,fc_20,fc_53,fc_54,fc_55,fs_0,fs_17,fs_18,fs_19,fs_20,fs_53,fs_54,fs_55,fp_1,fp_21,fp_f,rb_1,rb_21,rb_0,fc_len,fc_ok,fc_id,fc_rs,v16,v32,cB_cells,eqL_self,sk16,sk32,h,callable_12]
  tactic =>
  refine cl none (heq) trivial ?_
  by_cases h9 : d = d'
  · rw [if_pos h9] at hR
    have hR' : R = true := by rw [hR]; simp
    rw [hR']
    sym =>
    simp [Zaa,Zab,Zac,Zad,Zae,Zaf,Zag,Zah,Zai,Zak,Zal,Zam,Zan,Zao,Zap,Zaq,Zar,Zav,Zaw,Zax,Zay,Zaz,Za0,Za1,Za2,Za3,Za4,Za5,Za6,Za7,Za8,Za9,Zba,Zbb,Zbc,Zbd,Zbf,Zbh,Zbi,Zbt,Zbu,Zbv,Zbw,Zb2,Zcn,Zcx,Zc7,Zc8,Zdc,Zdd,Zde,Zdi,Zdo,Zdp,Zdt,Zdu,Zdv,Zdw,Zdx,Zdy,Zdz,Zd0,Zd1,Zd2,Zd3,Zeb,Zee,Zek,Zen,Zer,Zes,Zev,Zew,Zex,Zez,Ze0,Ze2,Ze3,Ze5,Ze8,Zfc,Zfd,Zfe,Zfh,Zfi,Zfk,Zfl,Zfn,Zfq,Zfz,Zf0,Zf1,Zga,Zgb,Zgc,Zgr,Zgs,Zgt,Zgu,Zgv,Zgw,Zgx,Zg4,Zg6,Zho,Zh6,Zh7,Zio,Zip,Zi6,Zjw,Zla,Zlb,Zle,Zll,Zlz,Zmt,Zmv,Zmw,Zmx,Zmz,Zm2,Zm5,Zm6,Zm7,Zna,Znb,Zne,Znf,Zng,Znr,Zns,Znt,Znv,Znw,Zn5,Zok,Zol,Zom,Zor,Zos,Zot,Zo3,Zo4,Zo7,Zo8,Zo9,Zpc,Zpg,Zpu,Zqf,Zqg,Zqh,Zqi,Zqk,Zql,Zqm,Zqn,eq_self,true_and,and_true,zF_fc,fc_0,fc_17,fc_18,fc_19,fc_20,fc_53,fc_54,fc_55,fs_0,fs_17,fs_18,fs_19,fs_20,fs_53,fs_54,fs_55,fp_1,fp_21,fp_f,rb_1,rb_21,rb_0,fc_len,fc_ok,fc_id,fc_rs,v16,v32,cB_cells,h9]
    tactic =>
    refine endA ?_
    sym =>
    simp [Zaa,Zab,Zac,Zad,Zae,Zaf,Zag,Zah,Zai,Zak,Zal,Zam,Zan,Zao,Zap,Zaq,Zar,Zav,Zaw,Zax,Zay,Zaz,Za0,Za1,Za2,Za3,Za4,Za5,Za6,Za7,Za8,Za9,Zba,Zbb,Zbc,Zbd,Zbf,Zbh,Zbi,Zbt,Zbu,Zbv,Zbw,Zb2,Zcn,Zcx,Zc7,Zc8,Zdc,Zdd,Zde,Zdi,Zdo,Zdp,Zdt,Zdu,Zdv,Zdw,Zdx,Zdy,Zdz,Zd0,Zd1,Zd2,Zd3,Zeb,Zee,Zek,Zen,Zer,Zes,Zev,Zew,Zex,Zez,Ze0,Ze2,Ze3,Ze5,Ze8,Zfc,Zfd,Zfe,Zfh,Zfi,Zfk,Zfl,Zfn,Zfq,Zfz,Zf0,Zf1,Zga,Zgb,Zgc,Zgr,Zgs,Zgt,Zgu,Zgv,Zgw,Zgx,Zg4,Zg6,Zho,Zh6,Zh7,Zio,Zip,Zi6,Zjw,Zla,Zlb,Zle,Zll,Zlz,Zmt,Zmv,Zmw,Zmx,Zmz,Zm2,Zm5,Zm6,Zm7,Zna,Znb,Zne,Znf,Zng,Znr,Zns,Znt,Znv,Znw,Zn5,Zok,Zol,Zom,Zor,Zos,Zot,Zo3,Zo4,Zo7,Zo8,Zo9,Zpc,Zpg,Zpu,Zqf,Zqg,Zqh,Zqi,Zqk,Zql,Zqm,Zqn,eq_self,true_and,and_true]
  · rw [if_neg h9] at hR
    subst hR
    sym =>
    simp [Zaa,Zab,Zac,Zad,Zae,Zaf,Zag,Zah,Zai,Zak,Zal,Zam,Zan,Zao,Zap,Zaq,Zar,Zav,Zaw,Zax,Zay,Zaz,Za0,Za1,Za2,Za3,Za4,Za5,Za6,Za7,Za8,Za9,Zba,Zbb,Zbc,Zbd,Zbf,Zbh,Zbi,Zbt,Zbu,Zbv,Zbw,Zb2,Zcn,Zcx,Zc7,Zc8,Zdc,Zdd,Zde,Zdi,Zdo,Zdp,Zdt,Zdu,Zdv,Zdw,Zdx,Zdy,Zdz,Zd0,Zd1,Zd2,Zd3,Zeb,Zee,Zek,Zen,Zer,Zes,Zev,Zew,Zex,Zez,Ze0,Ze2,Ze3,Ze5,Ze8,Zfc,Zfd,Zfe,Zfh,Zfi,Zfk,Zfl,Zfn,Zfq,Zfz,Zf0,Zf1,Zga,Zgb,Zgc,Zgr,Zgs,Zgt,Zgu,Zgv,Zgw,Zgx,Zg4,Zg6,Zho,Zh6,Zh7,Zio,Zip,Zi6,Zjw,Zla,Zlb,Zle,Zll,Zlz,Zmt,Zmv,Zmw,Zmx,Zmz,Zm2,Zm5,Zm6,Zm7,Zna,Znb,Zne,Znf,Zng,Znr,Zns,Znt,Znv,Znw,Zn5,Zok,Zol,Zom,Zor,Zos,Zot,Zo3,Zo4,Zo7,Zo8,Zo9,Zpc,Zpg,Zpu,Zqf,Zqg,Zqh,Zqi,Zqk,Zql,Zqm,Zqn,eq_self,true_and,and_true,zF_fc,fc_0,fc_17,fc_18,fc_19,fc_20,fc_53,fc_54,fc_55,fs_0,fs_17,fs_18,fs_19,fs_20,fs_53,fs_54,fs_55,fp_1,fp_21,fp_f,rb_1,rb_21,rb_0,fc_len,fc_ok,fc_id,fc_rs,v16,v32,cB_cells,h9]
    tactic =>
    refine endA ?_
    sym =>
    simp [Zaa,Zab,Zac,Zad,Zae,Zaf,Zag,Zah,Zai,Zak,Zal,Zam,Zan,Zao,Zap,Zaq,Zar,Zav,Zaw,Zax,Zay,Zaz,Za0,Za1,Za2,Za3,Za4,Za5,Za6,Za7,Za8,Za9,Zba,Zbb,Zbc,Zbd,Zbf,Zbh,Zbi,Zbt,Zbu,Zbv,Zbw,Zb2,Zcn,Zcx,Zc7,Zc8,Zdc,Zdd,Zde,Zdi,Zdo,Zdp,Zdt,Zdu,Zdv,Zdw,Zdx,Zdy,Zdz,Zd0,Zd1,Zd2,Zd3,Zeb,Zee,Zek,Zen,Zer,Zes,Zev,Zew,Zex,Zez,Ze0,Ze2,Ze3,Ze5,Ze8,Zfc,Zfd,Zfe,Zfh,Zfi,Zfk,Zfl,Zfn,Zfq,Zfz,Zf0,Zf1,Zga,Zgb,Zgc,Zgr,Zgs,Zgt,Zgu,Zgv,Zgw,Zgx,Zg4,Zg6,Zho,Zh6,Zh7,Zio,Zip,Zi6,Zjw,Zla,Zlb,Zle,Zll,Zlz,Zmt,Zmv,Zmw,Zmx,Zmz,Zm2,Zm5,Zm6,Zm7,Zna,Znb,Zne,Znf,Zng,Znr,Zns,Znt,Znv,Znw,Zn5,Zok,Zol,Zom,Zor,Zos,Zot,Zo3,Zo4,Zo7,Zo8,Zo9,Zpc,Zpg,Zpu,Zqf,Zqg,Zqh,Zqi,Zqk,Zql,Zqm,Zqn,eq_self,true_and,and_true]
theorem cR_cells (st : St) (l : List Rg) : okCells st (cR l) = True := eq_true (okF_cells (cR_okF l) st)
theorem cR_take (l : List Rg) (i : Nat) (h : i < l.length) : cR (l.take (i + 1)) = cR (l.take i) ++ [L l[i].1, L l[i].2] := by rw [take_step l i h, cR_snoc]
def i10 (z f : List AV) (g : AV → List AV) (r : List Rg) (k : Nat) (s : St) : Prop := ∃ i : Nat, i + k = r.length ∧ s = ⟨[(2, .pt 0 0), (3, .pt 1 0), (24, fR r), (25, I (IN r.length)), (26, I (IN i))], [(0, ⟨z, 1, 0⟩), (1, ⟨g (.lv 2 0 i), 1, 0⟩), (2, ⟨cR (r.take i), 2, 0⟩)], 3⟩
theorem theirs_con (f : Fm) (hr : f.r.length ≤ 1000000) : Con Try.prog 10 [] [.ag (fr f)] [] (.ag (fr f)) := by
  obtain ⟨k, t, es, er, o, n, su, d, r, c⟩ := f
  simp only at hr
  simp only [fr]
  refine con_j b10 rfl ?_
  sym =>
  simp [Zaa,Zab,Zad,Zae,Zaf,Zag,Zah,Zai,Zak,Zal,Zam,Zan,Zap,Zaq,Zav,Zaw,Zay,Zaz,Za0,Za1,Za2,Za3,Za4,Za5,Za9,Zba,Zbb,Zbf,Zbt,Zbv,Zb1,Zb9,Zcn,Zcv,Zcx,Zcz,Zc3,Zc5,Zev,Zew,Zez,Ze0,Ze1,Ze2,Ze3,Ze4,Ze5,Ze8,Zfb,Zfc,Zfd,Zfe,Zff,Zfg,Zfh,Zfn,Zfq,Zf1,Zgr,Zgs,Zgt,Zgu,Zgv,Zgw,Zgx,Zg4,Zg6,Zhd,Zhe,Zhf,Zhg,Zhh,Zho,Zh6,Zh7,Zin,Zio,Zip,Ziq,Zir,Ziu,Ziv,Ziw,Zix,Ziz,Zi0,Zi2,Zi3,Zi6,Zi7,Zjb,Zje,Zjg,Zjh,Zji,Zjj,Zjk,Zjn,Zjo,Zj2,Zj7,Zkl,Zmt,Zmv,Zmw,Zmy,Zm0,Zm1,Zm2,Zm5,Zm6,Zm7,Zm9,Zna,Znb,Znh,Znl,Znm,Znn,Zno,Znp,Znr,Zns,Znt,Znw,Zn5,Zos,Zot,Zo7,Zo8,Zo9,Zpc,Zpd,Zpg,Zpi,Zpm,Zpp,Zpu,Zpy,Zp1,Zp2,Zp8,Zqf,Zqg,Zqh,Zqi,Zqj,Zqk,Zql,Zqm,Zqn,eq_self,true_and,and_true,Nat.zero_add,zF_fc,fc_0,fc_17,fc_18,fc_19,fc_20,fc_53,fc_54,fc_55,fs_0,fs_17,fs_18,fs_19,fs_20,fs_53,fs_54,fs_55,fp_1,fp_21,fp_f,rb_1,rb_21,rb_0,fc_len,fc_ok,fc_id,fc_rs,v16,v32,cB_cells]
  tactic =>
  refine lpA (i10 (fc 0 z16 0 0 0 0 z32 .nl .nl 0) [] (fun x => fc k t es er o n su (fB d) x c) r) r.length [(0, 1), (1, 19)] _ ⟨0, by omega, rfl⟩ (wkA ?_) ?_
  · sym =>
    simp [Zaa,Zab,Zad,Zae,Zaf,Zag,Zah,Zai,Zak,Zal,Zam,Zan,Zap,Zaq,Zav,Zaw,Zay,Zaz,Za0,Za1,Za2,Za3,Za4,Za5,Za9,Zba,Zbb,Zbf,Zbt,Zbv,Zb1,Zb9,Zcn,Zcv,Zcx,Zcz,Zc3,Zc5,Zev,Zew,Zez,Ze0,Ze1,Ze2,Ze3,Ze4,Ze5,Ze8,Zfb,Zfc,Zfd,Zfe,Zff,Zfg,Zfh,Zfn,Zfq,Zf1,Zgr,Zgs,Zgt,Zgu,Zgv,Zgw,Zgx,Zg4,Zg6,Zhd,Zhe,Zhf,Zhg,Zhh,Zho,Zh6,Zh7,Zin,Zio,Zip,Ziq,Zir,Ziu,Ziv,Ziw,Zix,Ziz,Zi0,Zi2,Zi3,Zi6,Zi7,Zjb,Zje,Zjg,Zjh,Zji,Zjj,Zjk,Zjn,Zjo,Zj2,Zj7,Zkl,Zmt,Zmv,Zmw,Zmy,Zm0,Zm1,Zm2,Zm5,Zm6,Zm7,Zm9,Zna,Znb,Znh,Znl,Znm,Znn,Zno,Znp,Znr,Zns,Znt,Znw,Zn5,Zos,Zot,Zo7,Zo8,Zo9,Zpc,Zpd,Zpg,Zpi,Zpm,Zpp,Zpu,Zpy,Zp1,Zp2,Zp8,Zqf,Zqg,Zqh,Zqi,Zqj,Zqk,Zql,Zqm,Zqn,eq_self,true_and,and_true,Nat.zero_add,zF_fc,fc_0,fc_17,fc_18,fc_19,fc_20,fc_53,fc_54,fc_55,fs_0,fs_17,fs_18,fs_19,fs_20,fs_53,fs_54,fs_55,fp_1,fp_21,fp_f,rb_1,rb_21,rb_0,fc_len,fc_ok,fc_id,fc_rs,v16,v32,cB_cells]
    tactic =>
    all_goals rfl
  rintro kk s ⟨i, hi, rfl⟩
  simp only
  by_cases h : i < r.length
  · have hw := w64s i (by omega)
    have a0 := cR_q0 r i h
    have a1 := cR_q1 r i h
    have hl : (r.take i).length * 2 = i * 2 := by rw [List.length_take]; omega
    have ht := cR_take r i h
    sym =>
    simp [Zaa,Zab,Zad,Zae,Zaf,Zag,Zah,Zai,Zak,Zal,Zam,Zan,Zap,Zaq,Zav,Zaw,Zay,Zaz,Za0,Za1,Za2,Za3,Za4,Za5,Za9,Zba,Zbb,Zbf,Zbt,Zbv,Zb1,Zb9,Zcn,Zcv,Zcx,Zcz,Zc3,Zc5,Zev,Zew,Zez,Ze0,Ze1,Ze2,Ze3,Ze4,Ze5,Ze8,Zfb,Zfc,Zfd,Zfe,Zff,Zfg,Zfh,Zfn,Zfq,Zf1,Zgr,Zgs,Zgt,Zgu,Zgv,Zgw,Zgx,Zg4,Zg6,Zhd,Zhe,Zhf,Zhg,Zhh,Zho,Zh6,Zh7,Zin,Zio,Zip,Ziq,Zir,Ziu,Ziv,Ziw,Zix,Ziz,Zi0,Zi2,Zi3,Zi6,Zi7,Zjb,Zje,Zjg,Zjh,Zji,Zjj,Zjk,Zjn,Zjo,Zj2,Zj7,Zkl,Zmt,Zmv,Zmw,Zmy,Zm0,Zm1,Zm2,Zm5,Zm6,Zm7,Zm9,Zna,Znb,Znh,Znl,Znm,Znn,Zno,Znp,Znr,Zns,Znt,Znw,Zn5,Zos,Zot,Zo7,Zo8,Zo9,Zpc,Zpd,Zpg,Zpi,Zpm,Zpp,Zpu,Zpy,Zp1,Zp2,Zp8,Zqf,Zqg,Zqh,Zqi,Zqj,Zqk,Zql,Zqm,Zqn,eq_self,true_and,and_true,Nat.zero_add,zF_fc,fc_0,fc_17,fc_18,fc_19,fc_20,fc_53,fc_54,fc_55,fs_0,fs_17,fs_18,fs_19,fs_20,fs_53,fs_54,fs_55,fp_1,fp_21,fp_f,rb_1,rb_21,rb_0,fc_len,fc_ok,fc_id,fc_rs,v16,v32,cB_cells,h,hw,a0,a1,cR_length,hl,cR_cells]
    tactic =>
    and_intros <;> try (first | omega | rfl | assumption | simp only [IN]; omega)
    unfold NextL; refine ⟨(kk - 1), [(0, 0), (1, 1), (2, 12)], _, by omega, ⟨i + 1, by omega, rfl⟩, wkA ?_⟩
    rw [ht]
    sym =>
    simp [Zaa,Zab,Zad,Zae,Zaf,Zag,Zah,Zai,Zak,Zal,Zam,Zan,Zap,Zaq,Zav,Zaw,Zay,Zaz,Za0,Za1,Za2,Za3,Za4,Za5,Za9,Zba,Zbb,Zbf,Zbt,Zbv,Zb1,Zb9,Zcn,Zcv,Zcx,Zcz,Zc3,Zc5,Zev,Zew,Zez,Ze0,Ze1,Ze2,Ze3,Ze4,Ze5,Ze8,Zfb,Zfc,Zfd,Zfe,Zff,Zfg,Zfh,Zfn,Zfq,Zf1,Zgr,Zgs,Zgt,Zgu,Zgv,Zgw,Zgx,Zg4,Zg6,Zhd,Zhe,Zhf,Zhg,Zhh,Zho,Zh6,Zh7,Zin,Zio,Zip,Ziq,Zir,Ziu,Ziv,Ziw,Zix,Ziz,Zi0,Zi2,Zi3,Zi6,Zi7,Zjb,Zje,Zjg,Zjh,Zji,Zjj,Zjk,Zjn,Zjo,Zj2,Zj7,Zkl,Zmt,Zmv,Zmw,Zmy,Zm0,Zm1,Zm2,Zm5,Zm6,Zm7,Zm9,Zna,Znb,Znh,Znl,Znm,Znn,Zno,Znp,Znr,Zns,Znt,Znw,Zn5,Zos,Zot,Zo7,Zo8,Zo9,Zpc,Zpd,Zpg,Zpi,Zpm,Zpp,Zpu,Zpy,Zp1,Zp2,Zp8,Zqf,Zqg,Zqh,Zqi,Zqj,Zqk,Zql,Zqm,Zqn,eq_self,true_and,and_true,Nat.zero_add,zF_fc,fc_0,fc_17,fc_18,fc_19,fc_20,fc_53,fc_54,fc_55,fs_0,fs_17,fs_18,fs_19,fs_20,fs_53,fs_54,fs_55,fp_1,fp_21,fp_f,rb_1,rb_21,rb_0,fc_len,fc_ok,fc_id,fc_rs,v16,v32,cB_cells]
    tactic =>
    exact rs_self (by rw [← ht]; exact cR_okI _)
  · have e : r.take i = r := List.take_of_length_le (by omega)
    obtain rfl : i = r.length := by omega
    rw [e]
    sym =>
    simp [Zaa,Zab,Zad,Zae,Zaf,Zag,Zah,Zai,Zak,Zal,Zam,Zan,Zap,Zaq,Zav,Zaw,Zay,Zaz,Za0,Za1,Za2,Za3,Za4,Za5,Za9,Zba,Zbb,Zbf,Zbt,Zbv,Zb1,Zb9,Zcn,Zcv,Zcx,Zcz,Zc3,Zc5,Zev,Zew,Zez,Ze0,Ze1,Ze2,Ze3,Ze4,Ze5,Ze8,Zfb,Zfc,Zfd,Zfe,Zff,Zfg,Zfh,Zfn,Zfq,Zf1,Zgr,Zgs,Zgt,Zgu,Zgv,Zgw,Zgx,Zg4,Zg6,Zhd,Zhe,Zhf,Zhg,Zhh,Zho,Zh6,Zh7,Zin,Zio,Zip,Ziq,Zir,Ziu,Ziv,Ziw,Zix,Ziz,Zi0,Zi2,Zi3,Zi6,Zi7,Zjb,Zje,Zjg,Zjh,Zji,Zjj,Zjk,Zjn,Zjo,Zj2,Zj7,Zkl,Zmt,Zmv,Zmw,Zmy,Zm0,Zm1,Zm2,Zm5,Zm6,Zm7,Zm9,Zna,Znb,Znh,Znl,Znm,Znn,Zno,Znp,Znr,Zns,Znt,Znw,Zn5,Zos,Zot,Zo7,Zo8,Zo9,Zpc,Zpd,Zpg,Zpi,Zpm,Zpp,Zpu,Zpy,Zp1,Zp2,Zp8,Zqf,Zqg,Zqh,Zqi,Zqj,Zqk,Zql,Zqm,Zqn,eq_self,true_and,and_true,Nat.zero_add,zF_fc,fc_0,fc_17,fc_18,fc_19,fc_20,fc_53,fc_54,fc_55,fs_0,fs_17,fs_18,fs_19,fs_20,fs_53,fs_54,fs_55,fp_1,fp_21,fp_f,rb_1,rb_21,rb_0,fc_len,fc_ok,fc_id,fc_rs,v16,v32,cB_cells,h]
    tactic =>
    refine endA ?_
    sym =>
    simp [Zaa,Zab,Zad,Zae,Zaf,Zag,Zah,Zai,Zak,Zal,Zam,Zan,Zap,Zaq,Zav,Zaw,Zay,Zaz,Za0,Za1,Za2,Za3,Za4,Za5,Za9,Zba,Zbb,Zbf,Zbt,Zbv,Zb1,Zb9,Zcn,Zcv,Zcx,Zcz,Zc3,Zc5,Zev,Zew,Zez,Ze0,Ze1,Ze2,Ze3,Ze4,Ze5,Ze8,Zfb,Zfc,Zfd,Zfe,Zff,Zfg,Zfh,Zfn,Zfq,Zf1,Zgr,Zgs,Zgt,Zgu,Zgv,Zgw,Zgx,Zg4,Zg6,Zhd,Zhe,Zhf,Zhg,Zhh,Zho,Zh6,Zh7,Zin,Zio,Zip,Ziq,Zir,Ziu,Ziv,Ziw,Zix,Ziz,Zi0,Zi2,Zi3,Zi6,Zi7,Zjb,Zje,Zjg,Zjh,Zji,Zjj,Zjk,Zjn,Zjo,Zj2,Zj7,Zkl,Zmt,Zmv,Zmw,Zmy,Zm0,Zm1,Zm2,Zm5,Zm6,Zm7,Zm9,Zna,Znb,Znh,Znl,Znm,Znn,Zno,Znp,Znr,Zns,Znt,Znw,Zn5,Zos,Zot,Zo7,Zo8,Zo9,Zpc,Zpd,Zpg,Zpi,Zpm,Zpp,Zpu,Zpy,Zp1,Zp2,Zp8,Zqf,Zqg,Zqh,Zqi,Zqj,Zqk,Zql,Zqm,Zqn,eq_self,true_and,and_true,Nat.zero_add,zF_fc,fc_0,fc_17,fc_18,fc_19,fc_20,fc_53,fc_54,fc_55,fs_0,fs_17,fs_18,fs_19,fs_20,fs_53,fs_54,fs_55,fp_1,fp_21,fp_f,rb_1,rb_21,rb_0,fc_len,fc_ok,fc_id,fc_rs,v16,v32,cB_cells]
    tactic =>
    exact ⟨(cR_all r).symm, by rw [cR_length]; exact Nat.le_refl _, cR_okI r⟩
end Go.Proofs.Ythhccabdlajngaa.FrmE
