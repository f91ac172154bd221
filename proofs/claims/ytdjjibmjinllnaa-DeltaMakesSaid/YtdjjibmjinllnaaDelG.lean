import Derived.Test.YtdjjibmjinllnaaDelF
namespace Go.Proofs.Ytdjjibmjinllnaa.DelG
open Go Go.Sim Go.Sim.E Go.RowKit Go.Proofs Go.Proofs.Ytdjjibmjinllnaa.Cod Go.Proofs.Ytdjjibmjinllnaa.Tab Go.Proofs.Ytdjjibmjinllnaa.Bse Go.Proofs.Ytdjjibmjinllnaa.DelA Go.Proofs.Ytdjjibmjinllnaa.DelB Go.Proofs.Ytdjjibmjinllnaa.DelC Go.Proofs.Ytdjjibmjinllnaa.DelD Go.Proofs.Ytdjjibmjinllnaa.Krc Go.Proofs.Ytdjjibmjinllnaa.DelE Go.Proofs.Ytdjjibmjinllnaa.DelF
set_option linter.unusedVariables false
set_option linter.unusedSimpArgs false
set_option maxRecDepth 100000
set_option maxHeartbeats 4000000
def i38 (l : List Pc) (fresh : List Int) (R : List Int × Int) (k : Nat) (s : St) : Prop := ∃ (i : Nat) (out : List Int), i + k = l.length ∧ laF ((sumN fresh : Nat) : Int) (l.drop i) out = R ∧ out.length ≤ 2000009 * i ∧ s = ⟨[(0, fP l), (1, fB fresh), (6, .lv 0 0 out.length), (7, I (IN i))], [(0, ⟨cB out, 1, 0⟩)], 1⟩
theorem rlay_con (l : List Pc) (fresh : List Int) (hl : okL l) (hf : byt8 fresh) (hfl : fresh.length ≤ 1000000) : Con Try.prog 38 [] [fP l, fB fresh] [] (.tu [fB (laF ((sumN fresh : Nat) : Int) l []).1, I (laF ((sumN fresh : Nat) : Int) l []).2]) := by
  refine con_j b38 rfl ?_
  have hl1 := hl.1
  have hsum := rsum_con fresh hf (by omega)
  obtain ⟨R, hR⟩ : ∃ R, R = laF ((sumN fresh : Nat) : Int) l [] := ⟨_, rfl⟩
  rw [← hR]
  sym =>
  simp [Zaa,Zab,Zac,Zad,Zae,Zaf,Zag,Zah,Zai,Zak,Zal,Zam,Zan,Zao,Zap,Zaq,Zar,Zav,Zaw,Zax,Zay,Zaz,Za0,Za1,Za2,Za3,Za4,Za5,Za6,Za7,Za8,Za9,Zba,Zbb,Zbc,Zbd,Zbf,Zbj,Zbl,Zbt,Zbu,Zbv,Zbw,Zb1,Zcn,Zco,Zcv,Zcz,Zc0,Zc3,Zc5,Zc6,Zc7,Zc8,Zc9,Zdc,Zdd,Zde,Zdf,Zdg,Zdh,Zdi,Zdj,Zdk,Zdm,Zdo,Zdp,Zdt,Zdu,Zdv,Zdw,Zdx,Zdy,Zdz,Zd0,Zd1,Zd2,Zeb,Zeh,Zek,Zeq,Zet,Zev,Zew,Zex,Zez,Ze0,Ze1,Ze2,Ze3,Ze4,Ze5,Ze8,Zfb,Zfc,Zfd,Zfe,Zff,Zfg,Zfh,Zfi,Zfj,Zfl,Zfn,Zfq,Zf1,Zf3,Zgd,Zgg,Zgh,Zgi,Zgr,Zgs,Zgt,Zgu,Zgv,Zgw,Zgx,Zg4,Zg6,Zhf,Zhg,Zhh,Zho,Zh6,Zh7,Zin,Ziq,Zir,Ziu,Ziv,Ziw,Zix,Ziz,Zi0,Zi1,Zi2,Zi3,Zi6,Zi7,Zjh,Zji,Zjj,Zjk,Zjn,Zjo,Zjr,Zjw,Zj7,Zkb,Zla,Zlb,Zlc,Zld,Zle,Zlf,Zlh,Zlj,Zlk,Zll,Zlm,Zlz,Zl2,Zmt,Zmv,Zmw,Zmx,Zmz,Zm3,Zm5,Zm6,Zm7,Zm9,Zna,Znb,Znc,Znd,Zne,Znf,Zng,Znh,Znl,Znm,Znn,Zno,Znp,Znr,Zns,Znt,Znw,Znx,Zn5,Zof,Zog,Zos,Zot,Zo3,Zo4,Zo6,Zo7,Zo8,Zo9,Zpb,Zpc,Zpi,Zpo,Zpr,Zpw,Zpz,Zp1,Zp2,Zp9,Zqd,Zqe,Zqf,Zqg,Zqh,Zqi,Zqj,Zqk,Zql,Zqm,Zqn,List.append_assoc,List.length_append,eq_self,true_and,and_true,Nat.zero_add,Nat.mul_one]
  tactic =>
  refine lpA (i38 l fresh R) l.length [] _ ⟨0, [], by omega, hR.symm, by simp, rfl⟩ (wkA ?_) ?_
  · sym =>
    simp [Zaa,Zab,Zac,Zad,Zae,Zaf,Zag,Zah,Zai,Zak,Zal,Zam,Zan,Zao,Zap,Zaq,Zar,Zav,Zaw,Zax,Zay,Zaz,Za0,Za1,Za2,Za3,Za4,Za5,Za6,Za7,Za8,Za9,Zba,Zbb,Zbc,Zbd,Zbf,Zbj,Zbl,Zbt,Zbu,Zbv,Zbw,Zb1,Zcn,Zco,Zcv,Zcz,Zc0,Zc3,Zc5,Zc6,Zc7,Zc8,Zc9,Zdc,Zdd,Zde,Zdf,Zdg,Zdh,Zdi,Zdj,Zdk,Zdm,Zdo,Zdp,Zdt,Zdu,Zdv,Zdw,Zdx,Zdy,Zdz,Zd0,Zd1,Zd2,Zeb,Zeh,Zek,Zeq,Zet,Zev,Zew,Zex,Zez,Ze0,Ze1,Ze2,Ze3,Ze4,Ze5,Ze8,Zfb,Zfc,Zfd,Zfe,Zff,Zfg,Zfh,Zfi,Zfj,Zfl,Zfn,Zfq,Zf1,Zf3,Zgd,Zgg,Zgh,Zgi,Zgr,Zgs,Zgt,Zgu,Zgv,Zgw,Zgx,Zg4,Zg6,Zhf,Zhg,Zhh,Zho,Zh6,Zh7,Zin,Ziq,Zir,Ziu,Ziv,Ziw,Zix,Ziz,Zi0,Zi1,Zi2,Zi3,Zi6,Zi7,Zjh,Zji,Zjj,Zjk,Zjn,Zjo,Zjr,Zjw,Zj7,Zkb,Zla,Zlb,Zlc,Zld,Zle,Zlf,Zlh,Zlj,Zlk,Zll,Zlm,Zlz,Zl2,Zmt,Zmv,Zmw,Zmx,Zmz,Zm3,Zm5,Zm6,Zm7,Zm9,Zna,Znb,Znc,Znd,Zne,Znf,Zng,Znh,Znl,Znm,Znn,Zno,Znp,Znr,Zns,Znt,Znw,Znx,Zn5,Zof,Zog,Zos,Zot,Zo3,Zo4,Zo6,Zo7,Zo8,Zo9,Zpb,Zpc,Zpi,Zpo,Zpr,Zpw,Zpz,Zp1,Zp2,Zp9,Zqd,Zqe,Zqf,Zqg,Zqh,Zqi,Zqj,Zqk,Zql,Zqm,Zqn,List.append_assoc,List.length_append,eq_self,true_and,and_true,Nat.zero_add,Nat.mul_one]
    tactic =>
    rfl
  rintro k s ⟨i, out, hi, ha, hob, rfl⟩
  have hol := cB_length out
  have hoI := cB_okI out
  by_cases h : i < l.length
  · have hw := w64s i (by omega)
    have g0 := cP_q0 l i h
    have g1 := cP_q1 l i h
    have g2 : (cP l).getD (i * 3 + 1 + 1) .un = fB l[i].2.2 := cP_q2 l i h
    have hPl := cP_length l
    have hql := hl.2 l[i] (List.getElem_mem h)
    rw [laF_drop _ l out i h] at ha
    obtain ⟨p, hp⟩ : ∃ p, p = l[i] := ⟨_, rfl⟩
    rw [← hp] at g0 g1 g2 hql ha
    obtain ⟨a, b, q⟩ := p
    simp only at g0 g1 g2 hql
    have hrc := rright_con a b q
    by_cases hr : rightF (a, b, q) = true
    · obtain ⟨h0, h1⟩ := right_pos hr
      simp only at h0 h1
      have hx : pcb (a, b, q) = if 0 < q.length then 79 :: (four (IN q.length) ++ q) else 67 :: (four a ++ four b) := rfl
      rw [if_pos hr, hx] at ha
      rw [hr] at hrc
      simp only at ha
      by_cases h2 : 2147483647 < max a b
      · rw [if_pos h2] at ha
        by_cases ha1 : 2147483647 < a
        · have ha1' : a > 2147483647 := ha1
          sym =>
          simp [Zaa,Zab,Zac,Zad,Zae,Zaf,Zag,Zah,Zai,Zak,Zal,Zam,Zan,Zao,Zap,Zaq,Zar,Zav,Zaw,Zax,Zay,Zaz,Za0,Za1,Za2,Za3,Za4,Za5,Za6,Za7,Za8,Za9,Zba,Zbb,Zbc,Zbd,Zbf,Zbj,Zbl,Zbt,Zbu,Zbv,Zbw,Zb1,Zcn,Zco,Zcv,Zcz,Zc0,Zc3,Zc5,Zc6,Zc7,Zc8,Zc9,Zdc,Zdd,Zde,Zdf,Zdg,Zdh,Zdi,Zdj,Zdk,Zdm,Zdo,Zdp,Zdt,Zdu,Zdv,Zdw,Zdx,Zdy,Zdz,Zd0,Zd1,Zd2,Zeb,Zeh,Zek,Zeq,Zet,Zev,Zew,Zex,Zez,Ze0,Ze1,Ze2,Ze3,Ze4,Ze5,Ze8,Zfb,Zfc,Zfd,Zfe,Zff,Zfg,Zfh,Zfi,Zfj,Zfl,Zfn,Zfq,Zf1,Zf3,Zgd,Zgg,Zgh,Zgi,Zgr,Zgs,Zgt,Zgu,Zgv,Zgw,Zgx,Zg4,Zg6,Zhf,Zhg,Zhh,Zho,Zh6,Zh7,Zin,Ziq,Zir,Ziu,Ziv,Ziw,Zix,Ziz,Zi0,Zi1,Zi2,Zi3,Zi6,Zi7,Zjh,Zji,Zjj,Zjk,Zjn,Zjo,Zjr,Zjw,Zj7,Zkb,Zla,Zlb,Zlc,Zld,Zle,Zlf,Zlh,Zlj,Zlk,Zll,Zlm,Zlz,Zl2,Zmt,Zmv,Zmw,Zmx,Zmz,Zm3,Zm5,Zm6,Zm7,Zm9,Zna,Znb,Znc,Znd,Zne,Znf,Zng,Znh,Znl,Znm,Znn,Zno,Znp,Znr,Zns,Znt,Znw,Znx,Zn5,Zof,Zog,Zos,Zot,Zo3,Zo4,Zo6,Zo7,Zo8,Zo9,Zpb,Zpc,Zpi,Zpo,Zpr,Zpw,Zpz,Zp1,Zp2,Zp9,Zqd,Zqe,Zqf,Zqg,Zqh,Zqi,Zqj,Zqk,Zql,Zqm,Zqn,List.append_assoc,List.length_append,eq_self,true_and,and_true,Nat.zero_add,Nat.mul_one,h,hw,g0,g1,g2,callable_62]
          tactic =>
          and_intros <;> try (first | omega | rfl | assumption | simp only [IN]; omega)
          refine cl none (hrc) trivial ?_
          sym =>
          simp [Zaa,Zab,Zac,Zad,Zae,Zaf,Zag,Zah,Zai,Zak,Zal,Zam,Zan,Zao,Zap,Zaq,Zar,Zav,Zaw,Zax,Zay,Zaz,Za0,Za1,Za2,Za3,Za4,Za5,Za6,Za7,Za8,Za9,Zba,Zbb,Zbc,Zbd,Zbf,Zbj,Zbl,Zbt,Zbu,Zbv,Zbw,Zb1,Zcn,Zco,Zcv,Zcz,Zc0,Zc3,Zc5,Zc6,Zc7,Zc8,Zc9,Zdc,Zdd,Zde,Zdf,Zdg,Zdh,Zdi,Zdj,Zdk,Zdm,Zdo,Zdp,Zdt,Zdu,Zdv,Zdw,Zdx,Zdy,Zdz,Zd0,Zd1,Zd2,Zeb,Zeh,Zek,Zeq,Zet,Zev,Zew,Zex,Zez,Ze0,Ze1,Ze2,Ze3,Ze4,Ze5,Ze8,Zfb,Zfc,Zfd,Zfe,Zff,Zfg,Zfh,Zfi,Zfj,Zfl,Zfn,Zfq,Zf1,Zf3,Zgd,Zgg,Zgh,Zgi,Zgr,Zgs,Zgt,Zgu,Zgv,Zgw,Zgx,Zg4,Zg6,Zhf,Zhg,Zhh,Zho,Zh6,Zh7,Zin,Ziq,Zir,Ziu,Ziv,Ziw,Zix,Ziz,Zi0,Zi1,Zi2,Zi3,Zi6,Zi7,Zjh,Zji,Zjj,Zjk,Zjn,Zjo,Zjr,Zjw,Zj7,Zkb,Zla,Zlb,Zlc,Zld,Zle,Zlf,Zlh,Zlj,Zlk,Zll,Zlm,Zlz,Zl2,Zmt,Zmv,Zmw,Zmx,Zmz,Zm3,Zm5,Zm6,Zm7,Zm9,Zna,Znb,Znc,Znd,Zne,Znf,Zng,Znh,Znl,Znm,Znn,Zno,Znp,Znr,Zns,Znt,Znw,Znx,Zn5,Zof,Zog,Zos,Zot,Zo3,Zo4,Zo6,Zo7,Zo8,Zo9,Zpb,Zpc,Zpi,Zpo,Zpr,Zpw,Zpz,Zp1,Zp2,Zp9,Zqd,Zqe,Zqf,Zqg,Zqh,Zqi,Zqj,Zqk,Zql,Zqm,Zqn,List.append_assoc,List.length_append,eq_self,true_and,and_true,Nat.zero_add,Nat.mul_one,ha1']
          tactic =>
          refine endA ?_
          rw [← ha]
          sym =>
          simp [Zaa,Zab,Zac,Zad,Zae,Zaf,Zag,Zah,Zai,Zak,Zal,Zam,Zan,Zao,Zap,Zaq,Zar,Zav,Zaw,Zax,Zay,Zaz,Za0,Za1,Za2,Za3,Za4,Za5,Za6,Za7,Za8,Za9,Zba,Zbb,Zbc,Zbd,Zbf,Zbj,Zbl,Zbt,Zbu,Zbv,Zbw,Zb1,Zcn,Zco,Zcv,Zcz,Zc0,Zc3,Zc5,Zc6,Zc7,Zc8,Zc9,Zdc,Zdd,Zde,Zdf,Zdg,Zdh,Zdi,Zdj,Zdk,Zdm,Zdo,Zdp,Zdt,Zdu,Zdv,Zdw,Zdx,Zdy,Zdz,Zd0,Zd1,Zd2,Zeb,Zeh,Zek,Zeq,Zet,Zev,Zew,Zex,Zez,Ze0,Ze1,Ze2,Ze3,Ze4,Ze5,Ze8,Zfb,Zfc,Zfd,Zfe,Zff,Zfg,Zfh,Zfi,Zfj,Zfl,Zfn,Zfq,Zf1,Zf3,Zgd,Zgg,Zgh,Zgi,Zgr,Zgs,Zgt,Zgu,Zgv,Zgw,Zgx,Zg4,Zg6,Zhf,Zhg,Zhh,Zho,Zh6,Zh7,Zin,Ziq,Zir,Ziu,Ziv,Ziw,Zix,Ziz,Zi0,Zi1,Zi2,Zi3,Zi6,Zi7,Zjh,Zji,Zjj,Zjk,Zjn,Zjo,Zjr,Zjw,Zj7,Zkb,Zla,Zlb,Zlc,Zld,Zle,Zlf,Zlh,Zlj,Zlk,Zll,Zlm,Zlz,Zl2,Zmt,Zmv,Zmw,Zmx,Zmz,Zm3,Zm5,Zm6,Zm7,Zm9,Zna,Znb,Znc,Znd,Zne,Znf,Zng,Znh,Znl,Znm,Znn,Zno,Znp,Znr,Zns,Znt,Znw,Znx,Zn5,Zof,Zog,Zos,Zot,Zo3,Zo4,Zo6,Zo7,Zo8,Zo9,Zpb,Zpc,Zpi,Zpo,Zpr,Zpw,Zpz,Zp1,Zp2,Zp9,Zqd,Zqe,Zqf,Zqg,Zqh,Zqi,Zqj,Zqk,Zql,Zqm,Zqn,List.append_assoc,List.length_append,eq_self,true_and,and_true,Nat.zero_add,Nat.mul_one]
          tactic =>
          rfl
        · have ha1' : ¬ a > 2147483647 := ha1
          have hb1' : b > 2147483647 := by rcases Int.lt_or_le 2147483647 b with e | e; exact e; exact absurd (Int.max_le.2 ⟨by omega, e⟩) (by omega)
          sym =>
          simp [Zaa,Zab,Zac,Zad,Zae,Zaf,Zag,Zah,Zai,Zak,Zal,Zam,Zan,Zao,Zap,Zaq,Zar,Zav,Zaw,Zax,Zay,Zaz,Za0,Za1,Za2,Za3,Za4,Za5,Za6,Za7,Za8,Za9,Zba,Zbb,Zbc,Zbd,Zbf,Zbj,Zbl,Zbt,Zbu,Zbv,Zbw,Zb1,Zcn,Zco,Zcv,Zcz,Zc0,Zc3,Zc5,Zc6,Zc7,Zc8,Zc9,Zdc,Zdd,Zde,Zdf,Zdg,Zdh,Zdi,Zdj,Zdk,Zdm,Zdo,Zdp,Zdt,Zdu,Zdv,Zdw,Zdx,Zdy,Zdz,Zd0,Zd1,Zd2,Zeb,Zeh,Zek,Zeq,Zet,Zev,Zew,Zex,Zez,Ze0,Ze1,Ze2,Ze3,Ze4,Ze5,Ze8,Zfb,Zfc,Zfd,Zfe,Zff,Zfg,Zfh,Zfi,Zfj,Zfl,Zfn,Zfq,Zf1,Zf3,Zgd,Zgg,Zgh,Zgi,Zgr,Zgs,Zgt,Zgu,Zgv,Zgw,Zgx,Zg4,Zg6,Zhf,Zhg,Zhh,Zho,Zh6,Zh7,Zin,Ziq,Zir,Ziu,Ziv,Ziw,Zix,Ziz,Zi0,Zi1,Zi2,Zi3,Zi6,Zi7,Zjh,Zji,Zjj,Zjk,Zjn,Zjo,Zjr,Zjw,Zj7,Zkb,Zla,Zlb,Zlc,Zld,Zle,Zlf,Zlh,Zlj,Zlk,Zll,Zlm,Zlz,Zl2,Zmt,Zmv,Zmw,Zmx,Zmz,Zm3,Zm5,Zm6,Zm7,Zm9,Zna,Znb,Znc,Znd,Zne,Znf,Zng,Znh,Znl,Znm,Znn,Zno,Znp,Znr,Zns,Znt,Znw,Znx,Zn5,Zof,Zog,Zos,Zot,Zo3,Zo4,Zo6,Zo7,Zo8,Zo9,Zpb,Zpc,Zpi,Zpo,Zpr,Zpw,Zpz,Zp1,Zp2,Zp9,Zqd,Zqe,Zqf,Zqg,Zqh,Zqi,Zqj,Zqk,Zql,Zqm,Zqn,List.append_assoc,List.length_append,eq_self,true_and,and_true,Nat.zero_add,Nat.mul_one,h,hw,g0,g1,g2,callable_62]
          tactic =>
          and_intros <;> try (first | omega | rfl | assumption | simp only [IN]; omega)
          refine cl none (hrc) trivial ?_
          sym =>
          simp [Zaa,Zab,Zac,Zad,Zae,Zaf,Zag,Zah,Zai,Zak,Zal,Zam,Zan,Zao,Zap,Zaq,Zar,Zav,Zaw,Zax,Zay,Zaz,Za0,Za1,Za2,Za3,Za4,Za5,Za6,Za7,Za8,Za9,Zba,Zbb,Zbc,Zbd,Zbf,Zbj,Zbl,Zbt,Zbu,Zbv,Zbw,Zb1,Zcn,Zco,Zcv,Zcz,Zc0,Zc3,Zc5,Zc6,Zc7,Zc8,Zc9,Zdc,Zdd,Zde,Zdf,Zdg,Zdh,Zdi,Zdj,Zdk,Zdm,Zdo,Zdp,Zdt,Zdu,Zdv,Zdw,Zdx,Zdy,Zdz,Zd0,Zd1,Zd2,Zeb,Zeh,Zek,Zeq,Zet,Zev,Zew,Zex,Zez,Ze0,Ze1,Ze2,Ze3,Ze4,Ze5,Ze8,Zfb,Zfc,Zfd,Zfe,Zff,Zfg,Zfh,Zfi,Zfj,Zfl,Zfn,Zfq,Zf1,Zf3,Zgd,Zgg,Zgh,Zgi,Zgr,Zgs,Zgt,Zgu,Zgv,Zgw,Zgx,Zg4,Zg6,Zhf,Zhg,Zhh,Zho,Zh6,Zh7,Zin,Ziq,Zir,Ziu,Ziv,Ziw,Zix,Ziz,Zi0,Zi1,Zi2,Zi3,Zi6,Zi7,Zjh,Zji,Zjj,Zjk,Zjn,Zjo,Zjr,Zjw,Zj7,Zkb,Zla,Zlb,Zlc,Zld,Zle,Zlf,Zlh,Zlj,Zlk,Zll,Zlm,Zlz,Zl2,Zmt,Zmv,Zmw,Zmx,Zmz,Zm3,Zm5,Zm6,Zm7,Zm9,Zna,Znb,Znc,Znd,Zne,Znf,Zng,Znh,Znl,Znm,Znn,Zno,Znp,Znr,Zns,Znt,Znw,Znx,Zn5,Zof,Zog,Zos,Zot,Zo3,Zo4,Zo6,Zo7,Zo8,Zo9,Zpb,Zpc,Zpi,Zpo,Zpr,Zpw,Zpz,Zp1,Zp2,Zp9,Zqd,Zqe,Zqf,Zqg,Zqh,Zqi,Zqj,Zqk,Zql,Zqm,Zqn,List.append_assoc,List.length_append,eq_self,true_and,and_true,Nat.zero_add,Nat.mul_one,ha1',hb1']
          tactic =>
          refine endA ?_
          rw [← ha]
          sym =>
          simp [Zaa,Zab,Zac,Zad,Zae,Zaf,Zag,Zah,Zai,Zak,Zal,Zam,Zan,Zao,Zap,Zaq,Zar,Zav,Zaw,Zax,Zay,Zaz,Za0,Za1,Za2,Za3,Za4,Za5,Za6,Za7,Za8,Za9,Zba,Zbb,Zbc,Zbd,Zbf,Zbj,Zbl,Zbt,Zbu,Zbv,Zbw,Zb1,Zcn,Zco,Zcv,Zcz,Zc0,Zc3,Zc5,Zc6,Zc7,Zc8,Zc9,Zdc,Zdd,Zde,Zdf,Zdg,Zdh,Zdi,Zdj,Zdk,Zdm,Zdo,Zdp,Zdt,Zdu,Zdv,Zdw,Zdx,Zdy,Zdz,Zd0,Zd1,Zd2,Zeb,Zeh,Zek,Zeq,Zet,Zev,Zew,Zex,Zez,Ze0,Ze1,Ze2,Ze3,Ze4,Ze5,Ze8,Zfb,Zfc,Zfd,Zfe,Zff,Zfg,Zfh,Zfi,Zfj,Zfl,Zfn,Zfq,Zf1,Zf3,Zgd,Zgg,Zgh,Zgi,Zgr,Zgs,Zgt,Zgu,Zgv,Zgw,Zgx,Zg4,Zg6,Zhf,Zhg,Zhh,Zho,Zh6,Zh7,Zin,Ziq,Zir,Ziu,Ziv,Ziw,Zix,Ziz,Zi0,Zi1,Zi2,Zi3,Zi6,Zi7,Zjh,Zji,Zjj,Zjk,Zjn,Zjo,Zjr,Zjw,Zj7,Zkb,Zla,Zlb,Zlc,Zld,Zle,Zlf,Zlh,Zlj,Zlk,Zll,Zlm,Zlz,Zl2,Zmt,Zmv,Zmw,Zmx,Zmz,Zm3,Zm5,Zm6,Zm7,Zm9,Zna,Znb,Znc,Znd,Zne,Znf,Zng,Znh,Znl,Znm,Znn,Zno,Znp,Znr,Zns,Znt,Znw,Znx,Zn5,Zof,Zog,Zos,Zot,Zo3,Zo4,Zo6,Zo7,Zo8,Zo9,Zpb,Zpc,Zpi,Zpo,Zpr,Zpw,Zpz,Zp1,Zp2,Zp9,Zqd,Zqe,Zqf,Zqg,Zqh,Zqi,Zqj,Zqk,Zql,Zqm,Zqn,List.append_assoc,List.length_append,eq_self,true_and,and_true,Nat.zero_add,Nat.mul_one]
          tactic =>
          rfl
      rw [if_neg h2] at ha
      have hm1 : ¬ a > 2147483647 := by have := Int.le_max_left a b; omega
      have hm2 : ¬ b > 2147483647 := by have := Int.le_max_right a b; omega
      sym =>
      simp [Zaa,Zab,Zac,Zad,Zae,Zaf,Zag,Zah,Zai,Zak,Zal,Zam,Zan,Zao,Zap,Zaq,Zar,Zav,Zaw,Zax,Zay,Zaz,Za0,Za1,Za2,Za3,Za4,Za5,Za6,Za7,Za8,Za9,Zba,Zbb,Zbc,Zbd,Zbf,Zbj,Zbl,Zbt,Zbu,Zbv,Zbw,Zb1,Zcn,Zco,Zcv,Zcz,Zc0,Zc3,Zc5,Zc6,Zc7,Zc8,Zc9,Zdc,Zdd,Zde,Zdf,Zdg,Zdh,Zdi,Zdj,Zdk,Zdm,Zdo,Zdp,Zdt,Zdu,Zdv,Zdw,Zdx,Zdy,Zdz,Zd0,Zd1,Zd2,Zeb,Zeh,Zek,Zeq,Zet,Zev,Zew,Zex,Zez,Ze0,Ze1,Ze2,Ze3,Ze4,Ze5,Ze8,Zfb,Zfc,Zfd,Zfe,Zff,Zfg,Zfh,Zfi,Zfj,Zfl,Zfn,Zfq,Zf1,Zf3,Zgd,Zgg,Zgh,Zgi,Zgr,Zgs,Zgt,Zgu,Zgv,Zgw,Zgx,Zg4,Zg6,Zhf,Zhg,Zhh,Zho,Zh6,Zh7,Zin,Ziq,Zir,Ziu,Ziv,Ziw,Zix,Ziz,Zi0,Zi1,Zi2,Zi3,Zi6,Zi7,Zjh,Zji,Zjj,Zjk,Zjn,Zjo,Zjr,Zjw,Zj7,Zkb,Zla,Zlb,Zlc,Zld,Zle,Zlf,Zlh,Zlj,Zlk,Zll,Zlm,Zlz,Zl2,Zmt,Zmv,Zmw,Zmx,Zmz,Zm3,Zm5,Zm6,Zm7,Zm9,Zna,Znb,Znc,Znd,Zne,Znf,Zng,Znh,Znl,Znm,Znn,Zno,Znp,Znr,Zns,Znt,Znw,Znx,Zn5,Zof,Zog,Zos,Zot,Zo3,Zo4,Zo6,Zo7,Zo8,Zo9,Zpb,Zpc,Zpi,Zpo,Zpr,Zpw,Zpz,Zp1,Zp2,Zp9,Zqd,Zqe,Zqf,Zqg,Zqh,Zqi,Zqj,Zqk,Zql,Zqm,Zqn,List.append_assoc,List.length_append,eq_self,true_and,and_true,Nat.zero_add,Nat.mul_one,h,hw,g0,g1,g2,callable_62]
      tactic =>
      and_intros <;> try (first | omega | rfl | assumption | simp only [IN]; omega)
      refine cl none (hrc) trivial ?_
      by_cases hq : 0 < q.length
      · rw [if_pos hq] at ha
        have hfo := rfour_con (IN q.length) (by simp only [IN]; omega) (by simp only [IN]; omega)
        obtain ⟨w1, hw1⟩ : ∃ w1, w1 = out ++ [79] := ⟨_, rfl⟩
        obtain ⟨w2, hw2⟩ : ∃ w2, w2 = w1 ++ four (IN q.length) := ⟨_, rfl⟩
        have hcat : cB out ++ [Y 79] = cB w1 := by rw [hw1, cB_append]; rfl
        have hcat2 : cB w1 ++ cB (four (IN q.length)) = cB w2 := by rw [hw2, cB_append]
        have h1l : w1.length = out.length + 1 := by rw [hw1]; simp
        have h2l : w2.length = out.length + 1 + 4 := by rw [hw2, List.length_append, h1l]; rfl
        have hcl := cB_length w1
        have hqF := cB_okF q
        have hqc := cB_length q
        have hc5 := cB_length w2
        have h4l : (four (IN q.length)).length = 4 := rfl
        have h4F := cB_okF (four (IN q.length))
        have h4c := cB_length (four (IN q.length))
        rw [h4l] at h4c
        simp only [fB, h4l] at hfo
        rw [h1l] at hcl
        rw [h2l] at hc5
        sym =>
        simp [Zaa,Zab,Zac,Zad,Zae,Zaf,Zag,Zah,Zai,Zak,Zal,Zam,Zan,Zao,Zap,Zaq,Zar,Zav,Zaw,Zax,Zay,Zaz,Za0,Za1,Za2,Za3,Za4,Za5,Za6,Za7,Za8,Za9,Zba,Zbb,Zbc,Zbd,Zbf,Zbj,Zbl,Zbt,Zbu,Zbv,Zbw,Zb1,Zcn,Zco,Zcv,Zcz,Zc0,Zc3,Zc5,Zc6,Zc7,Zc8,Zc9,Zdc,Zdd,Zde,Zdf,Zdg,Zdh,Zdi,Zdj,Zdk,Zdm,Zdo,Zdp,Zdt,Zdu,Zdv,Zdw,Zdx,Zdy,Zdz,Zd0,Zd1,Zd2,Zeb,Zeh,Zek,Zeq,Zet,Zev,Zew,Zex,Zez,Ze0,Ze1,Ze2,Ze3,Ze4,Ze5,Ze8,Zfb,Zfc,Zfd,Zfe,Zff,Zfg,Zfh,Zfi,Zfj,Zfl,Zfn,Zfq,Zf1,Zf3,Zgd,Zgg,Zgh,Zgi,Zgr,Zgs,Zgt,Zgu,Zgv,Zgw,Zgx,Zg4,Zg6,Zhf,Zhg,Zhh,Zho,Zh6,Zh7,Zin,Ziq,Zir,Ziu,Ziv,Ziw,Zix,Ziz,Zi0,Zi1,Zi2,Zi3,Zi6,Zi7,Zjh,Zji,Zjj,Zjk,Zjn,Zjo,Zjr,Zjw,Zj7,Zkb,Zla,Zlb,Zlc,Zld,Zle,Zlf,Zlh,Zlj,Zlk,Zll,Zlm,Zlz,Zl2,Zmt,Zmv,Zmw,Zmx,Zmz,Zm3,Zm5,Zm6,Zm7,Zm9,Zna,Znb,Znc,Znd,Zne,Znf,Zng,Znh,Znl,Znm,Znn,Zno,Znp,Znr,Zns,Znt,Znw,Znx,Zn5,Zof,Zog,Zos,Zot,Zo3,Zo4,Zo6,Zo7,Zo8,Zo9,Zpb,Zpc,Zpi,Zpo,Zpr,Zpw,Zpz,Zp1,Zp2,Zp9,Zqd,Zqe,Zqf,Zqg,Zqh,Zqi,Zqj,Zqk,Zql,Zqm,Zqn,List.append_assoc,List.length_append,eq_self,true_and,and_true,Nat.zero_add,Nat.mul_one,hq,hm1,hm2,hcat,hcl,callable_63]
        tactic =>
        and_intros <;> try (first | omega | rfl | assumption | simp only [IN]; omega)
        refine cl none (hfo) trivial ?_
        sym =>
        simp [Zaa,Zab,Zac,Zad,Zae,Zaf,Zag,Zah,Zai,Zak,Zal,Zam,Zan,Zao,Zap,Zaq,Zar,Zav,Zaw,Zax,Zay,Zaz,Za0,Za1,Za2,Za3,Za4,Za5,Za6,Za7,Za8,Za9,Zba,Zbb,Zbc,Zbd,Zbf,Zbj,Zbl,Zbt,Zbu,Zbv,Zbw,Zb1,Zcn,Zco,Zcv,Zcz,Zc0,Zc3,Zc5,Zc6,Zc7,Zc8,Zc9,Zdc,Zdd,Zde,Zdf,Zdg,Zdh,Zdi,Zdj,Zdk,Zdm,Zdo,Zdp,Zdt,Zdu,Zdv,Zdw,Zdx,Zdy,Zdz,Zd0,Zd1,Zd2,Zeb,Zeh,Zek,Zeq,Zet,Zev,Zew,Zex,Zez,Ze0,Ze1,Ze2,Ze3,Ze4,Ze5,Ze8,Zfb,Zfc,Zfd,Zfe,Zff,Zfg,Zfh,Zfi,Zfj,Zfl,Zfn,Zfq,Zf1,Zf3,Zgd,Zgg,Zgh,Zgi,Zgr,Zgs,Zgt,Zgu,Zgv,Zgw,Zgx,Zg4,Zg6,Zhf,Zhg,Zhh,Zho,Zh6,Zh7,Zin,Ziq,Zir,Ziu,Ziv,Ziw,Zix,Ziz,Zi0,Zi1,Zi2,Zi3,Zi6,Zi7,Zjh,Zji,Zjj,Zjk,Zjn,Zjo,Zjr,Zjw,Zj7,Zkb,Zla,Zlb,Zlc,Zld,Zle,Zlf,Zlh,Zlj,Zlk,Zll,Zlm,Zlz,Zl2,Zmt,Zmv,Zmw,Zmx,Zmz,Zm3,Zm5,Zm6,Zm7,Zm9,Zna,Znb,Znc,Znd,Zne,Znf,Zng,Znh,Znl,Znm,Znn,Zno,Znp,Znr,Zns,Znt,Znw,Znx,Zn5,Zof,Zog,Zos,Zot,Zo3,Zo4,Zo6,Zo7,Zo8,Zo9,Zpb,Zpc,Zpi,Zpo,Zpr,Zpw,Zpz,Zp1,Zp2,Zp9,Zqd,Zqe,Zqf,Zqg,Zqh,Zqi,Zqj,Zqk,Zql,Zqm,Zqn,List.append_assoc,List.length_append,eq_self,true_and,and_true,Nat.zero_add,Nat.mul_one,hw,hcat2,hcl,hc5,h4c]
        tactic =>
        and_intros <;> try (first | omega | rfl | assumption | simp only [IN]; omega)
        unfold NextL; refine ⟨(k - 1), [(0, 38)], _, by omega, ⟨i + 1, out ++ (79 :: (four (IN q.length) ++ q)), by omega, ha, by simp [four_length]; omega, rfl⟩, wkA ?_⟩
        sym =>
        simp [Zaa,Zab,Zac,Zad,Zae,Zaf,Zag,Zah,Zai,Zak,Zal,Zam,Zan,Zao,Zap,Zaq,Zar,Zav,Zaw,Zax,Zay,Zaz,Za0,Za1,Za2,Za3,Za4,Za5,Za6,Za7,Za8,Za9,Zba,Zbb,Zbc,Zbd,Zbf,Zbj,Zbl,Zbt,Zbu,Zbv,Zbw,Zb1,Zcn,Zco,Zcv,Zcz,Zc0,Zc3,Zc5,Zc6,Zc7,Zc8,Zc9,Zdc,Zdd,Zde,Zdf,Zdg,Zdh,Zdi,Zdj,Zdk,Zdm,Zdo,Zdp,Zdt,Zdu,Zdv,Zdw,Zdx,Zdy,Zdz,Zd0,Zd1,Zd2,Zeb,Zeh,Zek,Zeq,Zet,Zev,Zew,Zex,Zez,Ze0,Ze1,Ze2,Ze3,Ze4,Ze5,Ze8,Zfb,Zfc,Zfd,Zfe,Zff,Zfg,Zfh,Zfi,Zfj,Zfl,Zfn,Zfq,Zf1,Zf3,Zgd,Zgg,Zgh,Zgi,Zgr,Zgs,Zgt,Zgu,Zgv,Zgw,Zgx,Zg4,Zg6,Zhf,Zhg,Zhh,Zho,Zh6,Zh7,Zin,Ziq,Zir,Ziu,Ziv,Ziw,Zix,Ziz,Zi0,Zi1,Zi2,Zi3,Zi6,Zi7,Zjh,Zji,Zjj,Zjk,Zjn,Zjo,Zjr,Zjw,Zj7,Zkb,Zla,Zlb,Zlc,Zld,Zle,Zlf,Zlh,Zlj,Zlk,Zll,Zlm,Zlz,Zl2,Zmt,Zmv,Zmw,Zmx,Zmz,Zm3,Zm5,Zm6,Zm7,Zm9,Zna,Znb,Znc,Znd,Zne,Znf,Zng,Znh,Znl,Znm,Znn,Zno,Znp,Znr,Zns,Znt,Znw,Znx,Zn5,Zof,Zog,Zos,Zot,Zo3,Zo4,Zo6,Zo7,Zo8,Zo9,Zpb,Zpc,Zpi,Zpo,Zpr,Zpw,Zpz,Zp1,Zp2,Zp9,Zqd,Zqe,Zqf,Zqg,Zqh,Zqi,Zqj,Zqk,Zql,Zqm,Zqn,List.append_assoc,List.length_append,eq_self,true_and,and_true,Nat.zero_add,Nat.mul_one]
        tactic =>
        refine ⟨by simp [four_length] <;> omega, cB_rs _ _ _ _ _ ?_⟩
        rw [← cB_append, hw2, hw1]; simp
      · rw [if_neg hq] at ha
        have hfo := rfour_con a (by omega) (by omega)
        have hfo2 := rfour_con b (by omega) (by omega)
        obtain ⟨w1, hw1⟩ : ∃ w1, w1 = out ++ [67] := ⟨_, rfl⟩
        obtain ⟨w2, hw2⟩ : ∃ w2, w2 = w1 ++ four a := ⟨_, rfl⟩
        obtain ⟨w3, hw3⟩ : ∃ w3, w3 = w2 ++ four b := ⟨_, rfl⟩
        have hcat : cB out ++ [Y 67] = cB w1 := by rw [hw1, cB_append]; rfl
        have hcat2 : cB w1 ++ cB (four a) = cB w2 := by rw [hw2, cB_append]
        have hcat3 : cB w2 ++ cB (four b) = cB w3 := by rw [hw3, cB_append]
        have h1l : w1.length = out.length + 1 := by rw [hw1]; simp
        have h2l : w2.length = out.length + 1 + 4 := by rw [hw2, List.length_append, h1l]; rfl
        have h3l : w3.length = out.length + 1 + 4 + 4 := by rw [hw3, List.length_append, h2l]; rfl
        have hcl := cB_length w1
        have hc5 := cB_length w2
        have h4l : (four a).length = 4 := rfl
        have h4lb : (four b).length = 4 := rfl
        have h4F := cB_okF (four a)
        have h4c := cB_length (four a)
        have h4Fb := cB_okF (four b)
        have h4cb := cB_length (four b)
        rw [h4l] at h4c
        rw [h4lb] at h4cb
        simp only [fB, h4l] at hfo
        simp only [fB, h4lb] at hfo2
        rw [h1l] at hcl
        rw [h2l] at hc5
        sym =>
        simp [Zaa,Zab,Zac,Zad,Zae,Zaf,Zag,Zah,Zai,Zak,Zal,Zam,Zan,Zao,Zap,Zaq,Zar,Zav,Zaw,Zax,Zay,Zaz,Za0,Za1,Za2,Za3,Za4,Za5,Za6,Za7,Za8,Za9,Zba,Zbb,Zbc,Zbd,Zbf,Zbj,Zbl,Zbt,Zbu,Zbv,Zbw,Zb1,Zcn,Zco,Zcv,Zcz,Zc0,Zc3,Zc5,Zc6,Zc7,Zc8,Zc9,Zdc,Zdd,Zde,Zdf,Zdg,Zdh,Zdi,Zdj,Zdk,Zdm,Zdo,Zdp,Zdt,Zdu,Zdv,Zdw,Zdx,Zdy,Zdz,Zd0,Zd1,Zd2,Zeb,Zeh,Zek,Zeq,Zet,Zev,Zew,Zex,Zez,Ze0,Ze1,Ze2,Ze3,Ze4,Ze5,Ze8,Zfb,Zfc,Zfd,Zfe,Zff,Zfg,Zfh,Zfi,Zfj,Zfl,Zfn,Zfq,Zf1,Zf3,Zgd,Zgg,Zgh,Zgi,Zgr,Zgs,Zgt,Zgu,Zgv,Zgw,Zgx,Zg4,Zg6,Zhf,Zhg,Zhh,Zho,Zh6,Zh7,Zin,Ziq,Zir,Ziu,Ziv,Ziw,Zix,Ziz,Zi0,Zi1,Zi2,Zi3,Zi6,Zi7,Zjh,Zji,Zjj,Zjk,Zjn,Zjo,Zjr,Zjw,Zj7,Zkb,Zla,Zlb,Zlc,Zld,Zle,Zlf,Zlh,Zlj,Zlk,Zll,Zlm,Zlz,Zl2,Zmt,Zmv,Zmw,Zmx,Zmz,Zm3,Zm5,Zm6,Zm7,Zm9,Zna,Znb,Znc,Znd,Zne,Znf,Zng,Znh,Znl,Znm,Znn,Zno,Znp,Znr,Zns,Znt,Znw,Znx,Zn5,Zof,Zog,Zos,Zot,Zo3,Zo4,Zo6,Zo7,Zo8,Zo9,Zpb,Zpc,Zpi,Zpo,Zpr,Zpw,Zpz,Zp1,Zp2,Zp9,Zqd,Zqe,Zqf,Zqg,Zqh,Zqi,Zqj,Zqk,Zql,Zqm,Zqn,List.append_assoc,List.length_append,eq_self,true_and,and_true,Nat.zero_add,Nat.mul_one,hq,hm1,hm2,hcat,hcl,callable_63]
        tactic =>
        and_intros <;> try (first | omega | rfl | assumption | simp only [IN]; omega)
        refine cl none (hfo) trivial ?_
        sym =>
        simp [Zaa,Zab,Zac,Zad,Zae,Zaf,Zag,Zah,Zai,Zak,Zal,Zam,Zan,Zao,Zap,Zaq,Zar,Zav,Zaw,Zax,Zay,Zaz,Za0,Za1,Za2,Za3,Za4,Za5,Za6,Za7,Za8,Za9,Zba,Zbb,Zbc,Zbd,Zbf,Zbj,Zbl,Zbt,Zbu,Zbv,Zbw,Zb1,Zcn,Zco,Zcv,Zcz,Zc0,Zc3,Zc5,Zc6,Zc7,Zc8,Zc9,Zdc,Zdd,Zde,Zdf,Zdg,Zdh,Zdi,Zdj,Zdk,Zdm,Zdo,Zdp,Zdt,Zdu,Zdv,Zdw,Zdx,Zdy,Zdz,Zd0,Zd1,Zd2,Zeb,Zeh,Zek,Zeq,Zet,Zev,Zew,Zex,Zez,Ze0,Ze1,Ze2,Ze3,Ze4,Ze5,Ze8,Zfb,Zfc,Zfd,Zfe,Zff,Zfg,Zfh,Zfi,Zfj,Zfl,Zfn,Zfq,Zf1,Zf3,Zgd,Zgg,Zgh,Zgi,Zgr,Zgs,Zgt,Zgu,Zgv,Zgw,Zgx,Zg4,Zg6,Zhf,Zhg,Zhh,Zho,Zh6,Zh7,Zin,Ziq,Zir,Ziu,Ziv,Ziw,Zix,Ziz,Zi0,Zi1,Zi2,Zi3,Zi6,Zi7,Zjh,Zji,Zjj,Zjk,Zjn,Zjo,Zjr,Zjw,Zj7,Zkb,Zla,Zlb,Zlc,Zld,Zle,Zlf,Zlh,Zlj,Zlk,Zll,Zlm,Zlz,Zl2,Zmt,Zmv,Zmw,Zmx,Zmz,Zm3,Zm5,Zm6,Zm7,Zm9,Zna,Znb,Znc,Znd,Zne,Znf,Zng,Znh,Znl,Znm,Znn,Zno,Znp,Znr,Zns,Znt,Znw,Znx,Zn5,Zof,Zog,Zos,Zot,Zo3,Zo4,Zo6,Zo7,Zo8,Zo9,Zpb,Zpc,Zpi,Zpo,Zpr,Zpw,Zpz,Zp1,Zp2,Zp9,Zqd,Zqe,Zqf,Zqg,Zqh,Zqi,Zqj,Zqk,Zql,Zqm,Zqn,List.append_assoc,List.length_append,eq_self,true_and,and_true,Nat.zero_add,Nat.mul_one,hcat2,hcl,h4c,callable_63]
        tactic =>
        and_intros <;> try (first | omega | rfl | assumption | simp only [IN]; omega)
        refine cl none (hfo2) trivial ?_
        sym =>
        simp [Zaa,Zab,Zac,Zad,Zae,Zaf,Zag,Zah,Zai,Zak,Zal,Zam,Zan,Zao,Zap,Zaq,Zar,Zav,Zaw,Zax,Zay,Zaz,Za0,Za1,Za2,Za3,Za4,Za5,Za6,Za7,Za8,Za9,Zba,Zbb,Zbc,Zbd,Zbf,Zbj,Zbl,Zbt,Zbu,Zbv,Zbw,Zb1,Zcn,Zco,Zcv,Zcz,Zc0,Zc3,Zc5,Zc6,Zc7,Zc8,Zc9,Zdc,Zdd,Zde,Zdf,Zdg,Zdh,Zdi,Zdj,Zdk,Zdm,Zdo,Zdp,Zdt,Zdu,Zdv,Zdw,Zdx,Zdy,Zdz,Zd0,Zd1,Zd2,Zeb,Zeh,Zek,Zeq,Zet,Zev,Zew,Zex,Zez,Ze0,Ze1,Ze2,Ze3,Ze4,Ze5,Ze8,Zfb,Zfc,Zfd,Zfe,Zff,Zfg,Zfh,Zfi,Zfj,Zfl,Zfn,Zfq,Zf1,Zf3,Zgd,Zgg,Zgh,Zgi,Zgr,Zgs,Zgt,Zgu,Zgv,Zgw,Zgx,Zg4,Zg6,Zhf,Zhg,Zhh,Zho,Zh6,Zh7,Zin,Ziq,Zir,Ziu,Ziv,Ziw,Zix,Ziz,Zi0,Zi1,Zi2,Zi3,Zi6,Zi7,Zjh,Zji,Zjj,Zjk,Zjn,Zjo,Zjr,Zjw,Zj7,Zkb,Zla,Zlb,Zlc,Zld,Zle,Zlf,Zlh,Zlj,Zlk,Zll,Zlm,Zlz,Zl2,Zmt,Zmv,Zmw,Zmx,Zmz,Zm3,Zm5,Zm6,Zm7,Zm9,Zna,Znb,Znc,Znd,Zne,Znf,Zng,Znh,Znl,Znm,Znn,Zno,Znp,Znr,Zns,Znt,Znw,Znx,Zn5,Zof,Zog,Zos,Zot,Zo3,Zo4,Zo6,Zo7,Zo8,Zo9,Zpb,Zpc,Zpi,Zpo,Zpr,Zpw,Zpz,Zp1,Zp2,Zp9,Zqd,Zqe,Zqf,Zqg,Zqh,Zqi,Zqj,Zqk,Zql,Zqm,Zqn,List.append_assoc,List.length_append,eq_self,true_and,and_true,Nat.zero_add,Nat.mul_one,hw,hcat3,hc5,h4cb]
        tactic =>
        and_intros <;> try (first | omega | rfl | assumption | simp only [IN]; omega)
        unfold NextL; refine ⟨(k - 1), [(0, 38)], _, by omega, ⟨i + 1, out ++ (67 :: (four a ++ four b)), by omega, ha, by simp [four_length]; omega, rfl⟩, wkA ?_⟩
        sym =>
        simp [Zaa,Zab,Zac,Zad,Zae,Zaf,Zag,Zah,Zai,Zak,Zal,Zam,Zan,Zao,Zap,Zaq,Zar,Zav,Zaw,Zax,Zay,Zaz,Za0,Za1,Za2,Za3,Za4,Za5,Za6,Za7,Za8,Za9,Zba,Zbb,Zbc,Zbd,Zbf,Zbj,Zbl,Zbt,Zbu,Zbv,Zbw,Zb1,Zcn,Zco,Zcv,Zcz,Zc0,Zc3,Zc5,Zc6,Zc7,Zc8,Zc9,Zdc,Zdd,Zde,Zdf,Zdg,Zdh,Zdi,Zdj,Zdk,Zdm,Zdo,Zdp,Zdt,Zdu,Zdv,Zdw,Zdx,Zdy,Zdz,Zd0,Zd1,Zd2,Zeb,Zeh,Zek,Zeq,Zet,Zev,Zew,Zex,Zez,Ze0,Ze1,Ze2,Ze3,Ze4,Ze5,Ze8,Zfb,Zfc,Zfd,Zfe,Zff,Zfg,Zfh,Zfi,Zfj,Zfl,Zfn,Zfq,Zf1,Zf3,Zgd,Zgg,Zgh,Zgi,Zgr,Zgs,Zgt,Zgu,Zgv,Zgw,Zgx,Zg4,Zg6,Zhf,Zhg,Zhh,Zho,Zh6,Zh7,Zin,Ziq,Zir,Ziu,Ziv,Ziw,Zix,Ziz,Zi0,Zi1,Zi2,Zi3,Zi6,Zi7,Zjh,Zji,Zjj,Zjk,Zjn,Zjo,Zjr,Zjw,Zj7,Zkb,Zla,Zlb,Zlc,Zld,Zle,Zlf,Zlh,Zlj,Zlk,Zll,Zlm,Zlz,Zl2,Zmt,Zmv,Zmw,Zmx,Zmz,Zm3,Zm5,Zm6,Zm7,Zm9,Zna,Znb,Znc,Znd,Zne,Znf,Zng,Znh,Znl,Znm,Znn,Zno,Znp,Znr,Zns,Znt,Znw,Znx,Zn5,Zof,Zog,Zos,Zot,Zo3,Zo4,Zo6,Zo7,Zo8,Zo9,Zpb,Zpc,Zpi,Zpo,Zpr,Zpw,Zpz,Zp1,Zp2,Zp9,Zqd,Zqe,Zqf,Zqg,Zqh,Zqi,Zqj,Zqk,Zql,Zqm,Zqn,List.append_assoc,List.length_append,eq_self,true_and,and_true,Nat.zero_add,Nat.mul_one]
        tactic =>
        refine ⟨by simp [four_length] <;> omega, cB_rs _ _ _ _ _ ?_⟩
        rw [hw3, hw2, hw1]; simp
    · rw [if_neg hr] at ha
      have hrf : rightF (a, b, q) = false := by simpa using hr
      rw [hrf] at hrc
      sym =>
      simp [Zaa,Zab,Zac,Zad,Zae,Zaf,Zag,Zah,Zai,Zak,Zal,Zam,Zan,Zao,Zap,Zaq,Zar,Zav,Zaw,Zax,Zay,Zaz,Za0,Za1,Za2,Za3,Za4,Za5,Za6,Za7,Za8,Za9,Zba,Zbb,Zbc,Zbd,Zbf,Zbj,Zbl,Zbt,Zbu,Zbv,Zbw,Zb1,Zcn,Zco,Zcv,Zcz,Zc0,Zc3,Zc5,Zc6,Zc7,Zc8,Zc9,Zdc,Zdd,Zde,Zdf,Zdg,Zdh,Zdi,Zdj,Zdk,Zdm,Zdo,Zdp,Zdt,Zdu,Zdv,Zdw,Zdx,Zdy,Zdz,Zd0,Zd1,Zd2,Zeb,Zeh,Zek,Zeq,Zet,Zev,Zew,Zex,Zez,Ze0,Ze1,Ze2,Ze3,Ze4,Ze5,Ze8,Zfb,Zfc,Zfd,Zfe,Zff,Zfg,Zfh,Zfi,Zfj,Zfl,Zfn,Zfq,Zf1,Zf3,Zgd,Zgg,Zgh,Zgi,Zgr,Zgs,Zgt,Zgu,Zgv,Zgw,Zgx,Zg4,Zg6,Zhf,Zhg,Zhh,Zho,Zh6,Zh7,Zin,Ziq,Zir,Ziu,Ziv,Ziw,Zix,Ziz,Zi0,Zi1,Zi2,Zi3,Zi6,Zi7,Zjh,Zji,Zjj,Zjk,Zjn,Zjo,Zjr,Zjw,Zj7,Zkb,Zla,Zlb,Zlc,Zld,Zle,Zlf,Zlh,Zlj,Zlk,Zll,Zlm,Zlz,Zl2,Zmt,Zmv,Zmw,Zmx,Zmz,Zm3,Zm5,Zm6,Zm7,Zm9,Zna,Znb,Znc,Znd,Zne,Znf,Zng,Znh,Znl,Znm,Znn,Zno,Znp,Znr,Zns,Znt,Znw,Znx,Zn5,Zof,Zog,Zos,Zot,Zo3,Zo4,Zo6,Zo7,Zo8,Zo9,Zpb,Zpc,Zpi,Zpo,Zpr,Zpw,Zpz,Zp1,Zp2,Zp9,Zqd,Zqe,Zqf,Zqg,Zqh,Zqi,Zqj,Zqk,Zql,Zqm,Zqn,List.append_assoc,List.length_append,eq_self,true_and,and_true,Nat.zero_add,Nat.mul_one,h,hw,g0,g1,g2,callable_62]
      tactic =>
      and_intros <;> try (first | omega | rfl | assumption | simp only [IN]; omega)
      refine cl none (hrc) trivial ?_
      sym =>
      simp [Zaa,Zab,Zac,Zad,Zae,Zaf,Zag,Zah,Zai,Zak,Zal,Zam,Zan,Zao,Zap,Zaq,Zar,Zav,Zaw,Zax,Zay,Zaz,Za0,Za1,Za2,Za3,Za4,Za5,Za6,Za7,Za8,Za9,Zba,Zbb,Zbc,Zbd,Zbf,Zbj,Zbl,Zbt,Zbu,Zbv,Zbw,Zb1,Zcn,Zco,Zcv,Zcz,Zc0,Zc3,Zc5,Zc6,Zc7,Zc8,Zc9,Zdc,Zdd,Zde,Zdf,Zdg,Zdh,Zdi,Zdj,Zdk,Zdm,Zdo,Zdp,Zdt,Zdu,Zdv,Zdw,Zdx,Zdy,Zdz,Zd0,Zd1,Zd2,Zeb,Zeh,Zek,Zeq,Zet,Zev,Zew,Zex,Zez,Ze0,Ze1,Ze2,Ze3,Ze4,Ze5,Ze8,Zfb,Zfc,Zfd,Zfe,Zff,Zfg,Zfh,Zfi,Zfj,Zfl,Zfn,Zfq,Zf1,Zf3,Zgd,Zgg,Zgh,Zgi,Zgr,Zgs,Zgt,Zgu,Zgv,Zgw,Zgx,Zg4,Zg6,Zhf,Zhg,Zhh,Zho,Zh6,Zh7,Zin,Ziq,Zir,Ziu,Ziv,Ziw,Zix,Ziz,Zi0,Zi1,Zi2,Zi3,Zi6,Zi7,Zjh,Zji,Zjj,Zjk,Zjn,Zjo,Zjr,Zjw,Zj7,Zkb,Zla,Zlb,Zlc,Zld,Zle,Zlf,Zlh,Zlj,Zlk,Zll,Zlm,Zlz,Zl2,Zmt,Zmv,Zmw,Zmx,Zmz,Zm3,Zm5,Zm6,Zm7,Zm9,Zna,Znb,Znc,Znd,Zne,Znf,Zng,Znh,Znl,Znm,Znn,Zno,Znp,Znr,Zns,Znt,Znw,Znx,Zn5,Zof,Zog,Zos,Zot,Zo3,Zo4,Zo6,Zo7,Zo8,Zo9,Zpb,Zpc,Zpi,Zpo,Zpr,Zpw,Zpz,Zp1,Zp2,Zp9,Zqd,Zqe,Zqf,Zqg,Zqh,Zqi,Zqj,Zqk,Zql,Zqm,Zqn,List.append_assoc,List.length_append,eq_self,true_and,and_true,Nat.zero_add,Nat.mul_one]
      tactic =>
      refine endA ?_
      rw [← ha]
      sym =>
      simp [Zaa,Zab,Zac,Zad,Zae,Zaf,Zag,Zah,Zai,Zak,Zal,Zam,Zan,Zao,Zap,Zaq,Zar,Zav,Zaw,Zax,Zay,Zaz,Za0,Za1,Za2,Za3,Za4,Za5,Za6,Za7,Za8,Za9,Zba,Zbb,Zbc,Zbd,Zbf,Zbj,Zbl,Zbt,Zbu,Zbv,Zbw,Zb1,Zcn,Zco,Zcv,Zcz,Zc0,Zc3,Zc5,Zc6,Zc7,Zc8,Zc9,Zdc,Zdd,Zde,Zdf,Zdg,Zdh,Zdi,Zdj,Zdk,Zdm,Zdo,Zdp,Zdt,Zdu,Zdv,Zdw,Zdx,Zdy,Zdz,Zd0,Zd1,Zd2,Zeb,Zeh,Zek,Zeq,Zet,Zev,Zew,Zex,Zez,Ze0,Ze1,Ze2,Ze3,Ze4,Ze5,Ze8,Zfb,Zfc,Zfd,Zfe,Zff,Zfg,Zfh,Zfi,Zfj,Zfl,Zfn,Zfq,Zf1,Zf3,Zgd,Zgg,Zgh,Zgi,Zgr,Zgs,Zgt,Zgu,Zgv,Zgw,Zgx,Zg4,Zg6,Zhf,Zhg,Zhh,Zho,Zh6,Zh7,Zin,Ziq,Zir,Ziu,Ziv,Ziw,Zix,Ziz,Zi0,Zi1,Zi2,Zi3,Zi6,Zi7,Zjh,Zji,Zjj,Zjk,Zjn,Zjo,Zjr,Zjw,Zj7,Zkb,Zla,Zlb,Zlc,Zld,Zle,Zlf,Zlh,Zlj,Zlk,Zll,Zlm,Zlz,Zl2,Zmt,Zmv,Zmw,Zmx,Zmz,Zm3,Zm5,Zm6,Zm7,Zm9,Zna,Znb,Znc,Znd,Zne,Znf,Zng,Znh,Znl,Znm,Znn,Zno,Znp,Znr,Zns,Znt,Znw,Znx,Zn5,Zof,Zog,Zos,Zot,Zo3,Zo4,Zo6,Zo7,Zo8,Zo9,Zpb,Zpc,Zpi,Zpo,Zpr,Zpw,Zpz,Zp1,Zp2,Zp9,Zqd,Zqe,Zqf,Zqg,Zqh,Zqi,Zqj,Zqk,Zql,Zqm,Zqn,List.append_assoc,List.length_append,eq_self,true_and,and_true,Nat.zero_add,Nat.mul_one]
      tactic =>
      rfl
  · rw [List.drop_of_length_le (by omega)] at ha
    simp only [laF] at ha
    have hsl := sumN_lt fresh
    have hfo := rfour_con ((sumN fresh : Nat) : Int) (by omega) (by omega)
    have hws : IntKind.i64.wrap ((sumN fresh : Nat) : Int) = ((sumN fresh : Nat) : Int) := w64 _ (by omega)
    obtain ⟨w1, hw1⟩ : ∃ w1, w1 = out ++ [69] := ⟨_, rfl⟩
    obtain ⟨w2, hw2⟩ : ∃ w2, w2 = w1 ++ four ((sumN fresh : Nat) : Int) := ⟨_, rfl⟩
    have hcat : cB out ++ [Y 69] = cB w1 := by rw [hw1, cB_append]; rfl
    have hcat2 : cB w1 ++ cB (four ((sumN fresh : Nat) : Int)) = cB w2 := by rw [hw2, cB_append]
    have h1l : w1.length = out.length + 1 := by rw [hw1]; simp
    have h2l : w2.length = out.length + 1 + 4 := by rw [hw2, List.length_append, h1l]; rfl
    have hcl := cB_length w1
    have h4l : (four ((sumN fresh : Nat) : Int)).length = 4 := rfl
    have h4F := cB_okF (four ((sumN fresh : Nat) : Int))
    have h4c := cB_length (four ((sumN fresh : Nat) : Int))
    rw [h4l] at h4c
    simp only [fB, h4l] at hfo
    rw [h1l] at hcl
    have hR : out ++ 69 :: four ((sumN fresh : Nat) : Int) = w2 := by rw [hw2, hw1]; simp
    rw [← ha, hR]
    sym =>
    simp [Zaa,Zab,Zac,Zad,Zae,Zaf,Zag,Zah,Zai,Zak,Zal,Zam,Zan,Zao,Zap,Zaq,Zar,Zav,Zaw,Zax,Zay,Zaz,Za0,Za1,Za2,Za3,Za4,Za5,Za6,Za7,Za8,Za9,Zba,Zbb,Zbc,Zbd,Zbf,Zbj,Zbl,Zbt,Zbu,Zbv,Zbw,Zb1,Zcn,Zco,Zcv,Zcz,Zc0,Zc3,Zc5,Zc6,Zc7,Zc8,Zc9,Zdc,Zdd,Zde,Zdf,Zdg,Zdh,Zdi,Zdj,Zdk,Zdm,Zdo,Zdp,Zdt,Zdu,Zdv,Zdw,Zdx,Zdy,Zdz,Zd0,Zd1,Zd2,Zeb,Zeh,Zek,Zeq,Zet,Zev,Zew,Zex,Zez,Ze0,Ze1,Ze2,Ze3,Ze4,Ze5,Ze8,Zfb,Zfc,Zfd,Zfe,Zff,Zfg,Zfh,Zfi,Zfj,Zfl,Zfn,Zfq,Zf1,Zf3,Zgd,Zgg,Zgh,Zgi,Zgr,Zgs,Zgt,Zgu,Zgv,Zgw,Zgx,Zg4,Zg6,Zhf,Zhg,Zhh,Zho,Zh6,Zh7,Zin,Ziq,Zir,Ziu,Ziv,Ziw,Zix,Ziz,Zi0,Zi1,Zi2,Zi3,Zi6,Zi7,Zjh,Zji,Zjj,Zjk,Zjn,Zjo,Zjr,Zjw,Zj7,Zkb,Zla,Zlb,Zlc,Zld,Zle,Zlf,Zlh,Zlj,Zlk,Zll,Zlm,Zlz,Zl2,Zmt,Zmv,Zmw,Zmx,Zmz,Zm3,Zm5,Zm6,Zm7,Zm9,Zna,Znb,Znc,Znd,Zne,Znf,Zng,Znh,Znl,Znm,Znn,Zno,Znp,Znr,Zns,Znt,Znw,Znx,Zn5,Zof,Zog,Zos,Zot,Zo3,Zo4,Zo6,Zo7,Zo8,Zo9,Zpb,Zpc,Zpi,Zpo,Zpr,Zpw,Zpz,Zp1,Zp2,Zp9,Zqd,Zqe,Zqf,Zqg,Zqh,Zqi,Zqj,Zqk,Zql,Zqm,Zqn,List.append_assoc,List.length_append,eq_self,true_and,and_true,Nat.zero_add,Nat.mul_one,h,hcat,hcl,callable_64]
    tactic =>
    and_intros <;> try (first | omega | rfl | assumption | simp only [IN]; omega)
    refine cl none (hsum) trivial ?_
    sym =>
    simp [Zaa,Zab,Zac,Zad,Zae,Zaf,Zag,Zah,Zai,Zak,Zal,Zam,Zan,Zao,Zap,Zaq,Zar,Zav,Zaw,Zax,Zay,Zaz,Za0,Za1,Za2,Za3,Za4,Za5,Za6,Za7,Za8,Za9,Zba,Zbb,Zbc,Zbd,Zbf,Zbj,Zbl,Zbt,Zbu,Zbv,Zbw,Zb1,Zcn,Zco,Zcv,Zcz,Zc0,Zc3,Zc5,Zc6,Zc7,Zc8,Zc9,Zdc,Zdd,Zde,Zdf,Zdg,Zdh,Zdi,Zdj,Zdk,Zdm,Zdo,Zdp,Zdt,Zdu,Zdv,Zdw,Zdx,Zdy,Zdz,Zd0,Zd1,Zd2,Zeb,Zeh,Zek,Zeq,Zet,Zev,Zew,Zex,Zez,Ze0,Ze1,Ze2,Ze3,Ze4,Ze5,Ze8,Zfb,Zfc,Zfd,Zfe,Zff,Zfg,Zfh,Zfi,Zfj,Zfl,Zfn,Zfq,Zf1,Zf3,Zgd,Zgg,Zgh,Zgi,Zgr,Zgs,Zgt,Zgu,Zgv,Zgw,Zgx,Zg4,Zg6,Zhf,Zhg,Zhh,Zho,Zh6,Zh7,Zin,Ziq,Zir,Ziu,Ziv,Ziw,Zix,Ziz,Zi0,Zi1,Zi2,Zi3,Zi6,Zi7,Zjh,Zji,Zjj,Zjk,Zjn,Zjo,Zjr,Zjw,Zj7,Zkb,Zla,Zlb,Zlc,Zld,Zle,Zlf,Zlh,Zlj,Zlk,Zll,Zlm,Zlz,Zl2,Zmt,Zmv,Zmw,Zmx,Zmz,Zm3,Zm5,Zm6,Zm7,Zm9,Zna,Znb,Znc,Znd,Zne,Znf,Zng,Znh,Znl,Znm,Znn,Zno,Znp,Znr,Zns,Znt,Znw,Znx,Zn5,Zof,Zog,Zos,Zot,Zo3,Zo4,Zo6,Zo7,Zo8,Zo9,Zpb,Zpc,Zpi,Zpo,Zpr,Zpw,Zpz,Zp1,Zp2,Zp9,Zqd,Zqe,Zqf,Zqg,Zqh,Zqi,Zqj,Zqk,Zql,Zqm,Zqn,List.append_assoc,List.length_append,eq_self,true_and,and_true,Nat.zero_add,Nat.mul_one,hws,callable_63]
    tactic =>
    refine cl none (hfo) trivial ?_
    sym =>
    simp [Zaa,Zab,Zac,Zad,Zae,Zaf,Zag,Zah,Zai,Zak,Zal,Zam,Zan,Zao,Zap,Zaq,Zar,Zav,Zaw,Zax,Zay,Zaz,Za0,Za1,Za2,Za3,Za4,Za5,Za6,Za7,Za8,Za9,Zba,Zbb,Zbc,Zbd,Zbf,Zbj,Zbl,Zbt,Zbu,Zbv,Zbw,Zb1,Zcn,Zco,Zcv,Zcz,Zc0,Zc3,Zc5,Zc6,Zc7,Zc8,Zc9,Zdc,Zdd,Zde,Zdf,Zdg,Zdh,Zdi,Zdj,Zdk,Zdm,Zdo,Zdp,Zdt,Zdu,Zdv,Zdw,Zdx,Zdy,Zdz,Zd0,Zd1,Zd2,Zeb,Zeh,Zek,Zeq,Zet,Zev,Zew,Zex,Zez,Ze0,Ze1,Ze2,Ze3,Ze4,Ze5,Ze8,Zfb,Zfc,Zfd,Zfe,Zff,Zfg,Zfh,Zfi,Zfj,Zfl,Zfn,Zfq,Zf1,Zf3,Zgd,Zgg,Zgh,Zgi,Zgr,Zgs,Zgt,Zgu,Zgv,Zgw,Zgx,Zg4,Zg6,Zhf,Zhg,Zhh,Zho,Zh6,Zh7,Zin,Ziq,Zir,Ziu,Ziv,Ziw,Zix,Ziz,Zi0,Zi1,Zi2,Zi3,Zi6,Zi7,Zjh,Zji,Zjj,Zjk,Zjn,Zjo,Zjr,Zjw,Zj7,Zkb,Zla,Zlb,Zlc,Zld,Zle,Zlf,Zlh,Zlj,Zlk,Zll,Zlm,Zlz,Zl2,Zmt,Zmv,Zmw,Zmx,Zmz,Zm3,Zm5,Zm6,Zm7,Zm9,Zna,Znb,Znc,Znd,Zne,Znf,Zng,Znh,Znl,Znm,Znn,Zno,Znp,Znr,Zns,Znt,Znw,Znx,Zn5,Zof,Zog,Zos,Zot,Zo3,Zo4,Zo6,Zo7,Zo8,Zo9,Zpb,Zpc,Zpi,Zpo,Zpr,Zpw,Zpz,Zp1,Zp2,Zp9,Zqd,Zqe,Zqf,Zqg,Zqh,Zqi,Zqj,Zqk,Zql,Zqm,Zqn,List.append_assoc,List.length_append,eq_self,true_and,and_true,Nat.zero_add,Nat.mul_one,hcat2,hcl,h4c]
    tactic =>
    and_intros <;> try (first | omega | rfl | assumption | simp only [IN]; omega)
    refine endA ?_
    sym =>
    simp [Zaa,Zab,Zac,Zad,Zae,Zaf,Zag,Zah,Zai,Zak,Zal,Zam,Zan,Zao,Zap,Zaq,Zar,Zav,Zaw,Zax,Zay,Zaz,Za0,Za1,Za2,Za3,Za4,Za5,Za6,Za7,Za8,Za9,Zba,Zbb,Zbc,Zbd,Zbf,Zbj,Zbl,Zbt,Zbu,Zbv,Zbw,Zb1,Zcn,Zco,Zcv,Zcz,Zc0,Zc3,Zc5,Zc6,Zc7,Zc8,Zc9,Zdc,Zdd,Zde,Zdf,Zdg,Zdh,Zdi,Zdj,Zdk,Zdm,Zdo,Zdp,Zdt,Zdu,Zdv,Zdw,Zdx,Zdy,Zdz,Zd0,Zd1,Zd2,Zeb,Zeh,Zek,Zeq,Zet,Zev,Zew,Zex,Zez,Ze0,Ze1,Ze2,Ze3,Ze4,Ze5,Ze8,Zfb,Zfc,Zfd,Zfe,Zff,Zfg,Zfh,Zfi,Zfj,Zfl,Zfn,Zfq,Zf1,Zf3,Zgd,Zgg,Zgh,Zgi,Zgr,Zgs,Zgt,Zgu,Zgv,Zgw,Zgx,Zg4,Zg6,Zhf,Zhg,Zhh,Zho,Zh6,Zh7,Zin,Ziq,Zir,Ziu,Ziv,Ziw,Zix,Ziz,Zi0,Zi1,Zi2,Zi3,Zi6,Zi7,Zjh,Zji,Zjj,Zjk,Zjn,Zjo,Zjr,Zjw,Zj7,Zkb,Zla,Zlb,Zlc,Zld,Zle,Zlf,Zlh,Zlj,Zlk,Zll,Zlm,Zlz,Zl2,Zmt,Zmv,Zmw,Zmx,Zmz,Zm3,Zm5,Zm6,Zm7,Zm9,Zna,Znb,Znc,Znd,Zne,Znf,Zng,Znh,Znl,Znm,Znn,Zno,Znp,Znr,Zns,Znt,Znw,Znx,Zn5,Zof,Zog,Zos,Zot,Zo3,Zo4,Zo6,Zo7,Zo8,Zo9,Zpb,Zpc,Zpi,Zpo,Zpr,Zpw,Zpz,Zp1,Zp2,Zp9,Zqd,Zqe,Zqf,Zqg,Zqh,Zqi,Zqj,Zqk,Zql,Zqm,Zqn,List.append_assoc,List.length_append,eq_self,true_and,and_true,Nat.zero_add,Nat.mul_one]
    tactic =>
    exact ⟨h2l, by rw [← h2l]; exact (cB_all w2).symm, by rw [cB_length, h2l]; exact Nat.le_refl _, cB_okI w2⟩
theorem bclone_con (l : List Int) (hl : l.length ≤ 140737488355328) : Con Try.prog 47 [] [fB l] [(0, ⟨cB l, 1, 0⟩)] (.lv 0 0 l.length) := by
  refine con_o b47 rfl ?_
  sym =>
  simp [Zaa,Zab,Zad,Zae,Zaf,Zak,Zal,Zam,Zao,Zay,Zaz,Za0,Za1,Za2,Za3,Za4,Za5,Za9,Zba,Zbb,Zcz,Zc5,Zda,Zdb,Zev,Zew,Zez,Ze0,Ze2,Ze3,Ze4,Ze5,Zfb,Zfc,Zfd,Zfe,Zff,Zfg,Zfh,Zhf,Ziq,Zir,Zix,Ziz,Zi0,Zi1,Zmt,Zmv,Zmw,Zmx,Zmz,Zm2,Zna,Znb,Znc,Znr,Zos,Zot,Zo3,Zo7,Zpo,Zpr,Zqh,Zqi,Zqj,Zqk,Zql,Zqm,Zqn,eq_self,true_and,and_true,Nat.zero_add,Nat.mul_one]
  tactic =>
  refine nilQ (fun h => ?_) ?_
  · sym =>
    simp [Zaa,Zab,Zad,Zae,Zaf,Zak,Zal,Zam,Zao,Zay,Zaz,Za0,Za1,Za2,Za3,Za4,Za5,Za9,Zba,Zbb,Zcz,Zc5,Zda,Zdb,Zev,Zew,Zez,Ze0,Ze2,Ze3,Ze4,Ze5,Zfb,Zfc,Zfd,Zfe,Zff,Zfg,Zfh,Zhf,Ziq,Zir,Zix,Ziz,Zi0,Zi1,Zmt,Zmv,Zmw,Zmx,Zmz,Zm2,Zna,Znb,Znc,Znr,Zos,Zot,Zo3,Zo7,Zpo,Zpr,Zqh,Zqi,Zqj,Zqk,Zql,Zqm,Zqn,eq_self,true_and,and_true,Nat.zero_add,Nat.mul_one]
    tactic =>
    obtain rfl := List.length_eq_zero_iff.1 h
    refine endO [] (nx := 1) ?_
    sym =>
    simp [Zaa,Zab,Zad,Zae,Zaf,Zak,Zal,Zam,Zao,Zay,Zaz,Za0,Za1,Za2,Za3,Za4,Za5,Za9,Zba,Zbb,Zcz,Zc5,Zda,Zdb,Zev,Zew,Zez,Ze0,Ze2,Ze3,Ze4,Ze5,Zfb,Zfc,Zfd,Zfe,Zff,Zfg,Zfh,Zhf,Ziq,Zir,Zix,Ziz,Zi0,Zi1,Zmt,Zmv,Zmw,Zmx,Zmz,Zm2,Zna,Znb,Znc,Znr,Zos,Zot,Zo3,Zo7,Zpo,Zpr,Zqh,Zqi,Zqj,Zqk,Zql,Zqm,Zqn,eq_self,true_and,and_true,Nat.zero_add,Nat.mul_one]
    tactic =>
    rfl
  · sym =>
    simp [Zaa,Zab,Zad,Zae,Zaf,Zak,Zal,Zam,Zao,Zay,Zaz,Za0,Za1,Za2,Za3,Za4,Za5,Za9,Zba,Zbb,Zcz,Zc5,Zda,Zdb,Zev,Zew,Zez,Ze0,Ze2,Ze3,Ze4,Ze5,Zfb,Zfc,Zfd,Zfe,Zff,Zfg,Zfh,Zhf,Ziq,Zir,Zix,Ziz,Zi0,Zi1,Zmt,Zmv,Zmw,Zmx,Zmz,Zm2,Zna,Znb,Znc,Znr,Zos,Zot,Zo3,Zo7,Zpo,Zpr,Zqh,Zqi,Zqj,Zqk,Zql,Zqm,Zqn,eq_self,true_and,and_true,Nat.zero_add,Nat.mul_one,cB_length]
    tactic =>
    refine ⟨⟨cB_okF l, hl, by omega⟩, ?_⟩
    refine endO [(0, 5)] (nx := 6) ?_
    sym =>
    simp [Zaa,Zab,Zad,Zae,Zaf,Zak,Zal,Zam,Zao,Zay,Zaz,Za0,Za1,Za2,Za3,Za4,Za5,Za9,Zba,Zbb,Zcz,Zc5,Zda,Zdb,Zev,Zew,Zez,Ze0,Ze2,Ze3,Ze4,Ze5,Zfb,Zfc,Zfd,Zfe,Zff,Zfg,Zfh,Zhf,Ziq,Zir,Zix,Ziz,Zi0,Zi1,Zmt,Zmv,Zmw,Zmx,Zmz,Zm2,Zna,Znb,Znc,Znr,Zos,Zot,Zo3,Zo7,Zpo,Zpr,Zqh,Zqi,Zqj,Zqk,Zql,Zqm,Zqn,eq_self,true_and,and_true,Nat.zero_add,Nat.mul_one]
    tactic =>
    exact rs_self (cB_okI l)
/-- The number of four bytes. -/
def num4 (b : List Int) : Int := ((b.getD 0 0 * 256 + b.getD 1 0) * 256 + b.getD 2 0) * 256 + b.getD 3 0
def numI (b : List Int) : Nat → Int
  | 0 => 0
  | i + 1 => numI b i * 256 + b.getD i 0
theorem numI_bound {b : List Int} (hb : byt8 b) : ∀ i, 0 ≤ numI b i ∧ numI b i < 256 ^ i
  | 0 => by simp [numI]
  | i + 1 => by
    have h1 := numI_bound hb i
    have h2 := byt8_get hb i
    rw [numI, Int.pow_succ]
    omega
theorem join64 (n c : Int) (h0 : 0 ≤ n) (h1 : n < 16777216) (h2 : 0 ≤ c) (h3 : c < 256) : bits .or .i64 (IntKind.i64.wrap (n * 256)) c = n * 256 + c := by
  rw [w64 _ (by omega)]
  exact bits_join .i64 63 (by decide) (fun m h0 h1 => by rw [IntKind.wrap_i64]; omega) 8 _ _ (by omega) (by omega) (by omega) h2 (by omega) (by omega)
def i87 (b D : List Int) (k : Nat) (s : St) : Prop := ∃ i : Nat, i + k = 4 ∧ s = ⟨[(0, fB b), (5, I (numI b i)), (12, .fz 4 (cB D)), (13, I (IN 4)), (14, I (IN i))], [], 0⟩
abbrev t4 (b : List Int) : AV := if b.length < 4 then .tu [I 0, .fz 0 [], Bo false] else .tu [I (num4 b), fB (b.drop 4), Bo true]
theorem take4_con (b : List Int) (hb : byt8 b) (hl : b.length ≤ 100000000000000) : Con Try.prog 87 [] [fB b] [] (t4 b) := by
  refine con_j b87 rfl ?_
  by_cases h : b.length < 4
  · have h' : IN b.length < (4 : Int) := by simp only [IN]; omega
    unfold t4
    rw [if_pos h]
    sym =>
    simp [Zaa,Zab,Zac,Zad,Zae,Zaf,Zag,Zah,Zai,Zak,Zal,Zam,Zan,Zao,Zap,Zaq,Zav,Zaw,Zay,Zaz,Za0,Za1,Za2,Za3,Za4,Za5,Za9,Zba,Zbb,Zbc,Zbf,Zbl,Zbt,Zb1,Zch,Zci,Zcn,Zc7,Zc8,Zdo,Zdp,Zdt,Zdu,Zdv,Zdw,Zdx,Zdy,Zd0,Zd1,Zd2,Zeb,Zev,Zew,Zez,Ze0,Ze2,Ze5,Zfd,Zfe,Zfh,Zfn,Zfo,Zfq,Zfw,Zf1,Zgh,Zgi,Zgr,Zgu,Zg4,Zg6,Zhm,Zhn,Zho,Zhs,Zht,Zhu,Zh6,Zh7,Zmt,Zmv,Zmw,Zmx,Zmz,Zm3,Zm6,Zna,Znb,Zne,Znh,Zns,Znu,Znw,Zn5,Zn9,Zrd,Zos,Zot,Zo7,Zo8,Zo9,Zpb,Zpc,Zph,Zpi,Zpw,Zp9,Zqd,Zqe,Zqf,Zqg,Zqh,Zqm,Zqr,List.length_drop,eq_self,true_and,and_true,Nat.mul_one,h']
    tactic =>
    refine endA ?_
    sym =>
    simp [Zaa,Zab,Zac,Zad,Zae,Zaf,Zag,Zah,Zai,Zak,Zal,Zam,Zan,Zao,Zap,Zaq,Zav,Zaw,Zay,Zaz,Za0,Za1,Za2,Za3,Za4,Za5,Za9,Zba,Zbb,Zbc,Zbf,Zbl,Zbt,Zb1,Zch,Zci,Zcn,Zc7,Zc8,Zdo,Zdp,Zdt,Zdu,Zdv,Zdw,Zdx,Zdy,Zd0,Zd1,Zd2,Zeb,Zev,Zew,Zez,Ze0,Ze2,Ze5,Zfd,Zfe,Zfh,Zfn,Zfo,Zfq,Zfw,Zf1,Zgh,Zgi,Zgr,Zgu,Zg4,Zg6,Zhm,Zhn,Zho,Zhs,Zht,Zhu,Zh6,Zh7,Zmt,Zmv,Zmw,Zmx,Zmz,Zm3,Zm6,Zna,Znb,Zne,Znh,Zns,Znu,Znw,Zn5,Zn9,Zrd,Zos,Zot,Zo7,Zo8,Zo9,Zpb,Zpc,Zph,Zpi,Zpw,Zp9,Zqd,Zqe,Zqf,Zqg,Zqh,Zqm,Zqr,List.length_drop,eq_self,true_and,and_true,Nat.mul_one]
  have h' : ¬ IN b.length < (4 : Int) := by simp only [IN]; omega
  unfold t4
  rw [if_neg h]
  obtain ⟨D, hD⟩ : ∃ D, D = b.take 4 := ⟨_, rfl⟩
  have hDl : D.length = 4 := by rw [hD, List.length_take]; omega
  have hDc : List.take 4 (cB b) = cB D := by rw [hD, cB_take]
  have h4 : (4 : Int) ≤ IN b.length := by simp only [IN]; omega
  sym =>
  simp [Zaa,Zab,Zac,Zad,Zae,Zaf,Zag,Zah,Zai,Zak,Zal,Zam,Zan,Zao,Zap,Zaq,Zav,Zaw,Zay,Zaz,Za0,Za1,Za2,Za3,Za4,Za5,Za9,Zba,Zbb,Zbc,Zbf,Zbl,Zbt,Zb1,Zch,Zci,Zcn,Zc7,Zc8,Zdo,Zdp,Zdt,Zdu,Zdv,Zdw,Zdx,Zdy,Zd0,Zd1,Zd2,Zeb,Zev,Zew,Zez,Ze0,Ze2,Ze5,Zfd,Zfe,Zfh,Zfn,Zfo,Zfq,Zfw,Zf1,Zgh,Zgi,Zgr,Zgu,Zg4,Zg6,Zhm,Zhn,Zho,Zhs,Zht,Zhu,Zh6,Zh7,Zmt,Zmv,Zmw,Zmx,Zmz,Zm3,Zm6,Zna,Znb,Zne,Znh,Zns,Znu,Znw,Zn5,Zn9,Zrd,Zos,Zot,Zo7,Zo8,Zo9,Zpb,Zpc,Zph,Zpi,Zpw,Zp9,Zqd,Zqe,Zqf,Zqg,Zqh,Zqm,Zqr,List.length_drop,eq_self,true_and,and_true,Nat.mul_one,h',hDc,h4]
  tactic =>
  refine lpA (i87 b D) 4 [] _ ⟨0, by omega, rfl⟩ (wkA ?_) ?_
  · sym =>
    simp [Zaa,Zab,Zac,Zad,Zae,Zaf,Zag,Zah,Zai,Zak,Zal,Zam,Zan,Zao,Zap,Zaq,Zav,Zaw,Zay,Zaz,Za0,Za1,Za2,Za3,Za4,Za5,Za9,Zba,Zbb,Zbc,Zbf,Zbl,Zbt,Zb1,Zch,Zci,Zcn,Zc7,Zc8,Zdo,Zdp,Zdt,Zdu,Zdv,Zdw,Zdx,Zdy,Zd0,Zd1,Zd2,Zeb,Zev,Zew,Zez,Ze0,Ze2,Ze5,Zfd,Zfe,Zfh,Zfn,Zfo,Zfq,Zfw,Zf1,Zgh,Zgi,Zgr,Zgu,Zg4,Zg6,Zhm,Zhn,Zho,Zhs,Zht,Zhu,Zh6,Zh7,Zmt,Zmv,Zmw,Zmx,Zmz,Zm3,Zm6,Zna,Znb,Zne,Znh,Zns,Znu,Znw,Zn5,Zn9,Zrd,Zos,Zot,Zo7,Zo8,Zo9,Zpb,Zpc,Zph,Zpi,Zpw,Zp9,Zqd,Zqe,Zqf,Zqg,Zqh,Zqm,Zqr,List.length_drop,eq_self,true_and,and_true,Nat.mul_one]
    tactic =>
    rfl
  rintro k s ⟨i, hi, rfl⟩
  by_cases h2 : i < 4
  · have hI : IN i < (4 : Int) := by simp only [IN]; omega
    have hw := w64s i (by omega)
    have hg := cB_get D i (by omega)
    have hgd : D.getD i 0 = b.getD i 0 := by rw [hD, getD_take _ _ _ h2]
    rw [hgd] at hg
    have hn := numI_bound hb i
    have hc := byt8_get hb i
    have hp : (256 : Int) ^ i ≤ 256 ^ 3 := by
      match i, h2 with
      | 0, _ => decide
      | 1, _ => decide
      | 2, _ => decide
      | 3, _ => decide
    have hj := join64 (numI b i) (b.getD i 0) hn.1 (by omega) hc.1 hc.2
    have hwc : IntKind.i64.wrap (b.getD i 0) = b.getD i 0 := w64 _ (by omega)
    have e8 : min 8 IntKind.i64.bits = 8 := by decide
    sym =>
    simp [Zaa,Zab,Zac,Zad,Zae,Zaf,Zag,Zah,Zai,Zak,Zal,Zam,Zan,Zao,Zap,Zaq,Zav,Zaw,Zay,Zaz,Za0,Za1,Za2,Za3,Za4,Za5,Za9,Zba,Zbb,Zbc,Zbf,Zbl,Zbt,Zb1,Zch,Zci,Zcn,Zc7,Zc8,Zdo,Zdp,Zdt,Zdu,Zdv,Zdw,Zdx,Zdy,Zd0,Zd1,Zd2,Zeb,Zev,Zew,Zez,Ze0,Ze2,Ze5,Zfd,Zfe,Zfh,Zfn,Zfo,Zfq,Zfw,Zf1,Zgh,Zgi,Zgr,Zgu,Zg4,Zg6,Zhm,Zhn,Zho,Zhs,Zht,Zhu,Zh6,Zh7,Zmt,Zmv,Zmw,Zmx,Zmz,Zm3,Zm6,Zna,Znb,Zne,Znh,Zns,Znu,Znw,Zn5,Zn9,Zrd,Zos,Zot,Zo7,Zo8,Zo9,Zpb,Zpc,Zph,Zpi,Zpw,Zp9,Zqd,Zqe,Zqf,Zqg,Zqh,Zqm,Zqr,List.length_drop,eq_self,true_and,and_true,Nat.mul_one,hI,hw,hg,hj,hwc,e8,cB_length,hDl,h2]
    tactic =>
    and_intros <;> try (first | omega | rfl | assumption | simp only [IN]; omega)
    unfold NextL; refine ⟨(k - 1), [], _, by omega, ⟨i + 1, by omega, rfl⟩, wkA ?_⟩
    sym =>
    simp [Zaa,Zab,Zac,Zad,Zae,Zaf,Zag,Zah,Zai,Zak,Zal,Zam,Zan,Zao,Zap,Zaq,Zav,Zaw,Zay,Zaz,Za0,Za1,Za2,Za3,Za4,Za5,Za9,Zba,Zbb,Zbc,Zbf,Zbl,Zbt,Zb1,Zch,Zci,Zcn,Zc7,Zc8,Zdo,Zdp,Zdt,Zdu,Zdv,Zdw,Zdx,Zdy,Zd0,Zd1,Zd2,Zeb,Zev,Zew,Zez,Ze0,Ze2,Ze5,Zfd,Zfe,Zfh,Zfn,Zfo,Zfq,Zfw,Zf1,Zgh,Zgi,Zgr,Zgu,Zg4,Zg6,Zhm,Zhn,Zho,Zhs,Zht,Zhu,Zh6,Zh7,Zmt,Zmv,Zmw,Zmx,Zmz,Zm3,Zm6,Zna,Znb,Zne,Znh,Zns,Znu,Znw,Zn5,Zn9,Zrd,Zos,Zot,Zo7,Zo8,Zo9,Zpb,Zpc,Zph,Zpi,Zpw,Zp9,Zqd,Zqe,Zqf,Zqg,Zqh,Zqm,Zqr,List.length_drop,eq_self,true_and,and_true,Nat.mul_one]
    tactic =>
    rfl
  · have hI : ¬ IN i < (4 : Int) := by simp only [IN]; omega
    obtain rfl : i = 4 := by omega
    have hn4 : numI b 4 = num4 b := by simp [numI, num4]
    have hdl : (b.drop 4).length = b.length - 4 := List.length_drop
    have hdc : List.take (b.length - 4) (List.drop 4 (cB b)) = cB (b.drop 4) := by
      rw [cB_drop]; exact List.take_of_length_le (by rw [List.length_drop, cB_length]; exact Nat.le_refl _)
    rw [hn4]
    sym =>
    simp [Zaa,Zab,Zac,Zad,Zae,Zaf,Zag,Zah,Zai,Zak,Zal,Zam,Zan,Zao,Zap,Zaq,Zav,Zaw,Zay,Zaz,Za0,Za1,Za2,Za3,Za4,Za5,Za9,Zba,Zbb,Zbc,Zbf,Zbl,Zbt,Zb1,Zch,Zci,Zcn,Zc7,Zc8,Zdo,Zdp,Zdt,Zdu,Zdv,Zdw,Zdx,Zdy,Zd0,Zd1,Zd2,Zeb,Zev,Zew,Zez,Ze0,Ze2,Ze5,Zfd,Zfe,Zfh,Zfn,Zfo,Zfq,Zfw,Zf1,Zgh,Zgi,Zgr,Zgu,Zg4,Zg6,Zhm,Zhn,Zho,Zhs,Zht,Zhu,Zh6,Zh7,Zmt,Zmv,Zmw,Zmx,Zmz,Zm3,Zm6,Zna,Znb,Zne,Znh,Zns,Znu,Znw,Zn5,Zn9,Zrd,Zos,Zot,Zo7,Zo8,Zo9,Zpb,Zpc,Zph,Zpi,Zpw,Zp9,Zqd,Zqe,Zqf,Zqg,Zqh,Zqm,Zqr,List.length_drop,eq_self,true_and,and_true,Nat.mul_one,hI,h4,hdc]
    tactic =>
    and_intros <;> try (first | omega | rfl | assumption | simp only [IN]; omega)
    refine endA ?_
    sym =>
    simp [Zaa,Zab,Zac,Zad,Zae,Zaf,Zag,Zah,Zai,Zak,Zal,Zam,Zan,Zao,Zap,Zaq,Zav,Zaw,Zay,Zaz,Za0,Za1,Za2,Za3,Za4,Za5,Za9,Zba,Zbb,Zbc,Zbf,Zbl,Zbt,Zb1,Zch,Zci,Zcn,Zc7,Zc8,Zdo,Zdp,Zdt,Zdu,Zdv,Zdw,Zdx,Zdy,Zd0,Zd1,Zd2,Zeb,Zev,Zew,Zez,Ze0,Ze2,Ze5,Zfd,Zfe,Zfh,Zfn,Zfo,Zfq,Zfw,Zf1,Zgh,Zgi,Zgr,Zgu,Zg4,Zg6,Zhm,Zhn,Zho,Zhs,Zht,Zhu,Zh6,Zh7,Zmt,Zmv,Zmw,Zmx,Zmz,Zm3,Zm6,Zna,Znb,Zne,Znh,Zns,Znu,Znw,Zn5,Zn9,Zrd,Zos,Zot,Zo7,Zo8,Zo9,Zpb,Zpc,Zph,Zpi,Zpw,Zp9,Zqd,Zqe,Zqf,Zqg,Zqh,Zqm,Zqr,List.length_drop,eq_self,true_and,and_true,Nat.mul_one,hdl]
theorem num4_bound {b : List Int} (hb : byt8 b) : 0 ≤ num4 b ∧ num4 b < 4294967296 := by
  have h0 := byt8_get hb 0
  have h1 := byt8_get hb 1
  have h2 := byt8_get hb 2
  have h3 := byt8_get hb 3
  unfold num4; omega
/-- The sum behind the mark that ends. -/
def laS (t : List Int) : Int × Int := if t.length < 4 then (0, 4) else if 4 < t.length then (0, 3) else (num4 t, 0)
theorem last_con (c : Int) (t : List Int) (hb : byt8 t) (hl : t.length ≤ 1000000000000) : Con Try.prog 77 [] [fB (c :: t)] [] (.tu [U (laS t).1, I (laS t).2]) := by
  refine con_j b77 rfl ?_
  have ht := take4_con t hb (by omega)
  have hl1 : (c :: t).length = t.length + 1 := rfl
  have hs1 : t.length + 1 - 1 = t.length := rfl
  have h1 : (1 : Int) ≤ IN (t.length + 1) := by simp only [IN]; omega
  have hdt : List.take t.length (List.drop 1 (cB (c :: t))) = cB t := cB_all t
  by_cases h : t.length < 4
  · unfold t4 at ht
    rw [if_pos h] at ht
    rw [laS, if_pos h]
    sym =>
    simp [Zaa,Zab,Zad,Zae,Zaf,Zag,Zak,Zal,Zam,Zao,Zap,Zar,Zay,Zaz,Za0,Za1,Za2,Za3,Za4,Za5,Za9,Zba,Zbb,Zbf,Zbj,Zbl,Zb7,Zch,Zcn,Zdc,Zdd,Zde,Zdi,Zev,Zew,Zez,Ze0,Ze2,Ze5,Zfd,Zfe,Zfh,Zfn,Zf3,Zgd,Zgg,Zgh,Zgi,Zhb,Zhc,Zhm,Zhn,Zho,Zhs,Zht,Zhu,Zh6,Zh7,Zjq,Zka,Zky,Zk0,Zk2,Zk4,Zla,Zlb,Zle,Zll,Zlz,Zl2,Zmt,Zmv,Zmw,Zmx,Zmz,Zm3,Zm9,Zna,Znb,Zne,Znf,Zng,Zns,Znu,Znx,Zof,Zog,Zrd,Zos,Zot,Zo3,Zo4,Zo7,Zo8,Zo9,Zpb,Zp9,Zqd,Zqe,List.length_drop,eq_self,true_and,and_true,Nat.mul_one,hl1,h1,hs1,hdt,callable_87]
    tactic =>
    and_intros <;> try (first | omega | rfl | assumption | simp only [IN]; omega)
    refine cl none (ht) trivial ?_
    sym =>
    simp [Zaa,Zab,Zad,Zae,Zaf,Zag,Zak,Zal,Zam,Zao,Zap,Zar,Zay,Zaz,Za0,Za1,Za2,Za3,Za4,Za5,Za9,Zba,Zbb,Zbf,Zbj,Zbl,Zb7,Zch,Zcn,Zdc,Zdd,Zde,Zdi,Zev,Zew,Zez,Ze0,Ze2,Ze5,Zfd,Zfe,Zfh,Zfn,Zf3,Zgd,Zgg,Zgh,Zgi,Zhb,Zhc,Zhm,Zhn,Zho,Zhs,Zht,Zhu,Zh6,Zh7,Zjq,Zka,Zky,Zk0,Zk2,Zk4,Zla,Zlb,Zle,Zll,Zlz,Zl2,Zmt,Zmv,Zmw,Zmx,Zmz,Zm3,Zm9,Zna,Znb,Zne,Znf,Zng,Zns,Znu,Znx,Zof,Zog,Zrd,Zos,Zot,Zo3,Zo4,Zo7,Zo8,Zo9,Zpb,Zp9,Zqd,Zqe,List.length_drop,eq_self,true_and,and_true,Nat.mul_one]
    tactic =>
    refine endA ?_
    sym =>
    simp [Zaa,Zab,Zad,Zae,Zaf,Zag,Zak,Zal,Zam,Zao,Zap,Zar,Zay,Zaz,Za0,Za1,Za2,Za3,Za4,Za5,Za9,Zba,Zbb,Zbf,Zbj,Zbl,Zb7,Zch,Zcn,Zdc,Zdd,Zde,Zdi,Zev,Zew,Zez,Ze0,Ze2,Ze5,Zfd,Zfe,Zfh,Zfn,Zf3,Zgd,Zgg,Zgh,Zgi,Zhb,Zhc,Zhm,Zhn,Zho,Zhs,Zht,Zhu,Zh6,Zh7,Zjq,Zka,Zky,Zk0,Zk2,Zk4,Zla,Zlb,Zle,Zll,Zlz,Zl2,Zmt,Zmv,Zmw,Zmx,Zmz,Zm3,Zm9,Zna,Znb,Zne,Znf,Zng,Zns,Znu,Znx,Zof,Zog,Zrd,Zos,Zot,Zo3,Zo4,Zo7,Zo8,Zo9,Zpb,Zp9,Zqd,Zqe,List.length_drop,eq_self,true_and,and_true,Nat.mul_one]
  · unfold t4 at ht
    rw [if_neg h] at ht
    rw [laS, if_neg h]
    have hn := num4_bound hb
    have hdl : (t.drop 4).length = t.length - 4 := List.length_drop
    simp only [fB, hdl] at ht
    sym =>
    simp [Zaa,Zab,Zad,Zae,Zaf,Zag,Zak,Zal,Zam,Zao,Zap,Zar,Zay,Zaz,Za0,Za1,Za2,Za3,Za4,Za5,Za9,Zba,Zbb,Zbf,Zbj,Zbl,Zb7,Zch,Zcn,Zdc,Zdd,Zde,Zdi,Zev,Zew,Zez,Ze0,Ze2,Ze5,Zfd,Zfe,Zfh,Zfn,Zf3,Zgd,Zgg,Zgh,Zgi,Zhb,Zhc,Zhm,Zhn,Zho,Zhs,Zht,Zhu,Zh6,Zh7,Zjq,Zka,Zky,Zk0,Zk2,Zk4,Zla,Zlb,Zle,Zll,Zlz,Zl2,Zmt,Zmv,Zmw,Zmx,Zmz,Zm3,Zm9,Zna,Znb,Zne,Znf,Zng,Zns,Znu,Znx,Zof,Zog,Zrd,Zos,Zot,Zo3,Zo4,Zo7,Zo8,Zo9,Zpb,Zp9,Zqd,Zqe,List.length_drop,eq_self,true_and,and_true,Nat.mul_one,hl1,h1,hs1,hdt,callable_87]
    tactic =>
    and_intros <;> try (first | omega | rfl | assumption | simp only [IN]; omega)
    refine cl none (ht) trivial ?_
    by_cases h4 : 4 < t.length
    · rw [if_pos h4]
      have h4' : 0 < t.length - 4 := by omega
      sym =>
      simp [Zaa,Zab,Zad,Zae,Zaf,Zag,Zak,Zal,Zam,Zao,Zap,Zar,Zay,Zaz,Za0,Za1,Za2,Za3,Za4,Za5,Za9,Zba,Zbb,Zbf,Zbj,Zbl,Zb7,Zch,Zcn,Zdc,Zdd,Zde,Zdi,Zev,Zew,Zez,Ze0,Ze2,Ze5,Zfd,Zfe,Zfh,Zfn,Zf3,Zgd,Zgg,Zgh,Zgi,Zhb,Zhc,Zhm,Zhn,Zho,Zhs,Zht,Zhu,Zh6,Zh7,Zjq,Zka,Zky,Zk0,Zk2,Zk4,Zla,Zlb,Zle,Zll,Zlz,Zl2,Zmt,Zmv,Zmw,Zmx,Zmz,Zm3,Zm9,Zna,Znb,Zne,Znf,Zng,Zns,Znu,Znx,Zof,Zog,Zrd,Zos,Zot,Zo3,Zo4,Zo7,Zo8,Zo9,Zpb,Zp9,Zqd,Zqe,List.length_drop,eq_self,true_and,and_true,Nat.mul_one,h4']
      tactic =>
      refine endA ?_
      sym =>
      simp [Zaa,Zab,Zad,Zae,Zaf,Zag,Zak,Zal,Zam,Zao,Zap,Zar,Zay,Zaz,Za0,Za1,Za2,Za3,Za4,Za5,Za9,Zba,Zbb,Zbf,Zbj,Zbl,Zb7,Zch,Zcn,Zdc,Zdd,Zde,Zdi,Zev,Zew,Zez,Ze0,Ze2,Ze5,Zfd,Zfe,Zfh,Zfn,Zf3,Zgd,Zgg,Zgh,Zgi,Zhb,Zhc,Zhm,Zhn,Zho,Zhs,Zht,Zhu,Zh6,Zh7,Zjq,Zka,Zky,Zk0,Zk2,Zk4,Zla,Zlb,Zle,Zll,Zlz,Zl2,Zmt,Zmv,Zmw,Zmx,Zmz,Zm3,Zm9,Zna,Znb,Zne,Znf,Zng,Zns,Znu,Znx,Zof,Zog,Zrd,Zos,Zot,Zo3,Zo4,Zo7,Zo8,Zo9,Zpb,Zp9,Zqd,Zqe,List.length_drop,eq_self,true_and,and_true,Nat.mul_one]
    · rw [if_neg h4]
      have h4' : ¬ 0 < t.length - 4 := by omega
      have hw : IntKind.u32.wrap (num4 t) = num4 t := by rw [w32u]; omega
      sym =>
      simp [Zaa,Zab,Zad,Zae,Zaf,Zag,Zak,Zal,Zam,Zao,Zap,Zar,Zay,Zaz,Za0,Za1,Za2,Za3,Za4,Za5,Za9,Zba,Zbb,Zbf,Zbj,Zbl,Zb7,Zch,Zcn,Zdc,Zdd,Zde,Zdi,Zev,Zew,Zez,Ze0,Ze2,Ze5,Zfd,Zfe,Zfh,Zfn,Zf3,Zgd,Zgg,Zgh,Zgi,Zhb,Zhc,Zhm,Zhn,Zho,Zhs,Zht,Zhu,Zh6,Zh7,Zjq,Zka,Zky,Zk0,Zk2,Zk4,Zla,Zlb,Zle,Zll,Zlz,Zl2,Zmt,Zmv,Zmw,Zmx,Zmz,Zm3,Zm9,Zna,Znb,Zne,Znf,Zng,Zns,Znu,Znx,Zof,Zog,Zrd,Zos,Zot,Zo3,Zo4,Zo7,Zo8,Zo9,Zpb,Zp9,Zqd,Zqe,List.length_drop,eq_self,true_and,and_true,Nat.mul_one,h4',hw]
      tactic =>
      refine endA ?_
      sym =>
      simp [Zaa,Zab,Zad,Zae,Zaf,Zag,Zak,Zal,Zam,Zao,Zap,Zar,Zay,Zaz,Za0,Za1,Za2,Za3,Za4,Za5,Za9,Zba,Zbb,Zbf,Zbj,Zbl,Zb7,Zch,Zcn,Zdc,Zdd,Zde,Zdi,Zev,Zew,Zez,Ze0,Ze2,Ze5,Zfd,Zfe,Zfh,Zfn,Zf3,Zgd,Zgg,Zgh,Zgi,Zhb,Zhc,Zhm,Zhn,Zho,Zhs,Zht,Zhu,Zh6,Zh7,Zjq,Zka,Zky,Zk0,Zk2,Zk4,Zla,Zlb,Zle,Zll,Zlz,Zl2,Zmt,Zmv,Zmw,Zmx,Zmz,Zm3,Zm9,Zna,Znb,Zne,Znf,Zng,Zns,Znu,Znx,Zof,Zog,Zrd,Zos,Zot,Zo3,Zo4,Zo7,Zo8,Zo9,Zpb,Zp9,Zqd,Zqe,List.length_drop,eq_self,true_and,and_true,Nat.mul_one]
abbrev noP : Pc := (0, 0, [])
def fiF (c : Int) (t : List Int) : Pc × List Int × Int :=
  if t.length < 4 then (noP, [], 4) else
  if c = 67 then (if (t.drop 4).length < 4 then (noP, [], 4) else if 2147483647 < num4 t then (noP, [], 3) else if 2147483647 < num4 (t.drop 4) then (noP, [], 3) else if num4 (t.drop 4) = 0 then (noP, [], 3) else ((num4 t, num4 (t.drop 4), []), (t.drop 4).drop 4, 0))
  else (if 2147483647 < num4 t then (noP, [], 3) else if num4 t = 0 then (noP, [], 3) else if ((t.drop 4).length : Int) < num4 t then (noP, [], 4) else ((0, 0, (t.drop 4).take (num4 t).toNat), (t.drop 4).drop (num4 t).toNat, 0))
abbrev fiV (r : Pc × List Int × Int) : AV := .tu [.ag [I r.1.1, I r.1.2.1, fB r.1.2.2], fB r.2.1, I r.2.2]
theorem first_con (c : Int) (t : List Int) (hb : byt8 t) (hl : t.length ≤ 1000000000000) : Con Try.prog 78 [] [fB (c :: t)] [] (fiV (fiF c t)) := by
  refine con_j b78 rfl ?_
  have ht := take4_con t hb (by omega)
  have hl1 : (c :: t).length = t.length + 1 := rfl
  have hs1 : t.length + 1 - 1 = t.length := rfl
  have h1 : (1 : Int) ≤ IN (t.length + 1) := by simp only [IN]; omega
  have hdt : List.take t.length (List.drop 1 (cB (c :: t))) = cB t := cB_all t
  have hc0 : (cB (c :: t)).getD 0 .un = Y c := rfl
  have hcl := cB_length (c :: t)
  by_cases h : t.length < 4
  · unfold t4 at ht
    rw [if_pos h] at ht
    rw [fiF, if_pos h]
    sym =>
    simp [Zaa,Zab,Zac,Zad,Zae,Zaf,Zag,Zak,Zal,Zam,Zao,Zap,Zar,Zaz,Za0,Za1,Za2,Za3,Za4,Za5,Za6,Za7,Za8,Za9,Zba,Zbb,Zbc,Zbd,Zbf,Zbj,Zbt,Zb1,Zb7,Zb9,Zca,Zch,Zci,Zcn,Zcv,Zc3,Zc4,Zc7,Zc8,Zc9,Zdc,Zdd,Zde,Zdf,Zdg,Zdh,Zdi,Zdj,Zdl,Zdm,Zdo,Zdp,Zdt,Zdu,Zdv,Zdw,Zdx,Zdy,Zdz,Zd0,Zd1,Zd2,Zd3,Zeb,Zeh,Zei,Zek,Zen,Zeq,Zer,Zes,Zet,Zev,Zew,Zex,Zez,Ze0,Ze1,Ze2,Ze3,Ze5,Zfc,Zfd,Zfe,Zfh,Zfi,Zfj,Zfl,Zfn,Zfz,Zf1,Zf3,Zgd,Zgg,Zgr,Zgu,Zg4,Zg6,Zhb,Zhc,Zhd,Zhe,Zhf,Zhg,Zhh,Zhm,Zhn,Zho,Zhs,Zht,Zhu,Zh6,Zh7,Zin,Ziu,Ziv,Ziw,Zi6,Zi7,Zje,Zjg,Zjh,Zji,Zjn,Zjq,Zj2,Zka,Zkl,Zky,Zk0,Zk2,Zk4,Zla,Zlb,Zle,Zll,Zlz,Zl0,Zl1,Zl2,Zmk,Zmt,Zmv,Zmw,Zmx,Zmy,Zmz,Zm0,Zm1,Zm3,Zm5,Zm6,Zm7,Zm9,Zna,Znb,Znc,Znd,Zne,Znf,Zng,Znh,Znn,Zno,Znp,Znr,Zns,Znt,Znu,Znw,Znx,Zny,Zn5,Zof,Zog,Zoh,Zrd,Zos,Zot,Zov,Zo3,Zo4,Zo6,Zo7,Zo8,Zo9,Zpa,Zpb,Zph,Zpv,Zpw,Zpy,Zp1,Zp2,Zp7,Zp9,Zqb,Zqc,Zqd,Zqe,List.length_drop,eq_self,true_and,and_true,Nat.zero_add,Nat.mul_one,Nat.sub_zero,hl1,h1,hs1,hdt,callable_87]
    tactic =>
    and_intros <;> try (first | omega | rfl | assumption | simp only [IN]; omega)
    refine cl none (ht) trivial ?_
    sym =>
    simp [Zaa,Zab,Zac,Zad,Zae,Zaf,Zag,Zak,Zal,Zam,Zao,Zap,Zar,Zaz,Za0,Za1,Za2,Za3,Za4,Za5,Za6,Za7,Za8,Za9,Zba,Zbb,Zbc,Zbd,Zbf,Zbj,Zbt,Zb1,Zb7,Zb9,Zca,Zch,Zci,Zcn,Zcv,Zc3,Zc4,Zc7,Zc8,Zc9,Zdc,Zdd,Zde,Zdf,Zdg,Zdh,Zdi,Zdj,Zdl,Zdm,Zdo,Zdp,Zdt,Zdu,Zdv,Zdw,Zdx,Zdy,Zdz,Zd0,Zd1,Zd2,Zd3,Zeb,Zeh,Zei,Zek,Zen,Zeq,Zer,Zes,Zet,Zev,Zew,Zex,Zez,Ze0,Ze1,Ze2,Ze3,Ze5,Zfc,Zfd,Zfe,Zfh,Zfi,Zfj,Zfl,Zfn,Zfz,Zf1,Zf3,Zgd,Zgg,Zgr,Zgu,Zg4,Zg6,Zhb,Zhc,Zhd,Zhe,Zhf,Zhg,Zhh,Zhm,Zhn,Zho,Zhs,Zht,Zhu,Zh6,Zh7,Zin,Ziu,Ziv,Ziw,Zi6,Zi7,Zje,Zjg,Zjh,Zji,Zjn,Zjq,Zj2,Zka,Zkl,Zky,Zk0,Zk2,Zk4,Zla,Zlb,Zle,Zll,Zlz,Zl0,Zl1,Zl2,Zmk,Zmt,Zmv,Zmw,Zmx,Zmy,Zmz,Zm0,Zm1,Zm3,Zm5,Zm6,Zm7,Zm9,Zna,Znb,Znc,Znd,Zne,Znf,Zng,Znh,Znn,Zno,Znp,Znr,Zns,Znt,Znu,Znw,Znx,Zny,Zn5,Zof,Zog,Zoh,Zrd,Zos,Zot,Zov,Zo3,Zo4,Zo6,Zo7,Zo8,Zo9,Zpa,Zpb,Zph,Zpv,Zpw,Zpy,Zp1,Zp2,Zp7,Zp9,Zqb,Zqc,Zqd,Zqe,List.length_drop,eq_self,true_and,and_true,Nat.zero_add,Nat.mul_one,Nat.sub_zero]
    tactic =>
    refine endA ?_
    sym =>
    simp [Zaa,Zab,Zac,Zad,Zae,Zaf,Zag,Zak,Zal,Zam,Zao,Zap,Zar,Zaz,Za0,Za1,Za2,Za3,Za4,Za5,Za6,Za7,Za8,Za9,Zba,Zbb,Zbc,Zbd,Zbf,Zbj,Zbt,Zb1,Zb7,Zb9,Zca,Zch,Zci,Zcn,Zcv,Zc3,Zc4,Zc7,Zc8,Zc9,Zdc,Zdd,Zde,Zdf,Zdg,Zdh,Zdi,Zdj,Zdl,Zdm,Zdo,Zdp,Zdt,Zdu,Zdv,Zdw,Zdx,Zdy,Zdz,Zd0,Zd1,Zd2,Zd3,Zeb,Zeh,Zei,Zek,Zen,Zeq,Zer,Zes,Zet,Zev,Zew,Zex,Zez,Ze0,Ze1,Ze2,Ze3,Ze5,Zfc,Zfd,Zfe,Zfh,Zfi,Zfj,Zfl,Zfn,Zfz,Zf1,Zf3,Zgd,Zgg,Zgr,Zgu,Zg4,Zg6,Zhb,Zhc,Zhd,Zhe,Zhf,Zhg,Zhh,Zhm,Zhn,Zho,Zhs,Zht,Zhu,Zh6,Zh7,Zin,Ziu,Ziv,Ziw,Zi6,Zi7,Zje,Zjg,Zjh,Zji,Zjn,Zjq,Zj2,Zka,Zkl,Zky,Zk0,Zk2,Zk4,Zla,Zlb,Zle,Zll,Zlz,Zl0,Zl1,Zl2,Zmk,Zmt,Zmv,Zmw,Zmx,Zmy,Zmz,Zm0,Zm1,Zm3,Zm5,Zm6,Zm7,Zm9,Zna,Znb,Znc,Znd,Zne,Znf,Zng,Znh,Znn,Zno,Znp,Znr,Zns,Znt,Znu,Znw,Znx,Zny,Zn5,Zof,Zog,Zoh,Zrd,Zos,Zot,Zov,Zo3,Zo4,Zo6,Zo7,Zo8,Zo9,Zpa,Zpb,Zph,Zpv,Zpw,Zpy,Zp1,Zp2,Zp7,Zp9,Zqb,Zqc,Zqd,Zqe,List.length_drop,eq_self,true_and,and_true,Nat.zero_add,Nat.mul_one,Nat.sub_zero]
    tactic =>
    exact ⟨rfl, rfl⟩
  unfold t4 at ht
  rw [if_neg h] at ht
  rw [fiF, if_neg h]
  have hn := num4_bound hb
  have hdl : (t.drop 4).length = t.length - 4 := List.length_drop
  obtain ⟨u, hu⟩ : ∃ u, u = t.drop 4 := ⟨_, rfl⟩
  have hub : byt8 u := by rw [hu]; exact byt8_drop hb 4
  rw [← hu] at hdl ht ⊢
  obtain ⟨n, hnn⟩ : ∃ n, n = num4 t := ⟨_, rfl⟩
  rw [← hnn] at hn ht ⊢
  sym =>
  simp [Zaa,Zab,Zac,Zad,Zae,Zaf,Zag,Zak,Zal,Zam,Zao,Zap,Zar,Zaz,Za0,Za1,Za2,Za3,Za4,Za5,Za6,Za7,Za8,Za9,Zba,Zbb,Zbc,Zbd,Zbf,Zbj,Zbt,Zb1,Zb7,Zb9,Zca,Zch,Zci,Zcn,Zcv,Zc3,Zc4,Zc7,Zc8,Zc9,Zdc,Zdd,Zde,Zdf,Zdg,Zdh,Zdi,Zdj,Zdl,Zdm,Zdo,Zdp,Zdt,Zdu,Zdv,Zdw,Zdx,Zdy,Zdz,Zd0,Zd1,Zd2,Zd3,Zeb,Zeh,Zei,Zek,Zen,Zeq,Zer,Zes,Zet,Zev,Zew,Zex,Zez,Ze0,Ze1,Ze2,Ze3,Ze5,Zfc,Zfd,Zfe,Zfh,Zfi,Zfj,Zfl,Zfn,Zfz,Zf1,Zf3,Zgd,Zgg,Zgr,Zgu,Zg4,Zg6,Zhb,Zhc,Zhd,Zhe,Zhf,Zhg,Zhh,Zhm,Zhn,Zho,Zhs,Zht,Zhu,Zh6,Zh7,Zin,Ziu,Ziv,Ziw,Zi6,Zi7,Zje,Zjg,Zjh,Zji,Zjn,Zjq,Zj2,Zka,Zkl,Zky,Zk0,Zk2,Zk4,Zla,Zlb,Zle,Zll,Zlz,Zl0,Zl1,Zl2,Zmk,Zmt,Zmv,Zmw,Zmx,Zmy,Zmz,Zm0,Zm1,Zm3,Zm5,Zm6,Zm7,Zm9,Zna,Znb,Znc,Znd,Zne,Znf,Zng,Znh,Znn,Zno,Znp,Znr,Zns,Znt,Znu,Znw,Znx,Zny,Zn5,Zof,Zog,Zoh,Zrd,Zos,Zot,Zov,Zo3,Zo4,Zo6,Zo7,Zo8,Zo9,Zpa,Zpb,Zph,Zpv,Zpw,Zpy,Zp1,Zp2,Zp7,Zp9,Zqb,Zqc,Zqd,Zqe,List.length_drop,eq_self,true_and,and_true,Nat.zero_add,Nat.mul_one,Nat.sub_zero,hl1,h1,hs1,hdt,callable_87]
  tactic =>
  and_intros <;> try (first | omega | rfl | assumption | simp only [IN]; omega)
  refine cl none (ht) trivial ?_
  have hcl1 : 1 ≤ (cB (c :: t)).length := by rw [hcl, hl1]; omega
  by_cases h67 : c = 67
  · rw [if_pos h67]
    subst h67
    have hu4 := take4_con u hub (by omega)
    by_cases h2 : u.length < 4
    · unfold t4 at hu4
      rw [if_pos h2] at hu4
      rw [if_pos h2]
      sym =>
      simp [Zaa,Zab,Zac,Zad,Zae,Zaf,Zag,Zak,Zal,Zam,Zao,Zap,Zar,Zaz,Za0,Za1,Za2,Za3,Za4,Za5,Za6,Za7,Za8,Za9,Zba,Zbb,Zbc,Zbd,Zbf,Zbj,Zbt,Zb1,Zb7,Zb9,Zca,Zch,Zci,Zcn,Zcv,Zc3,Zc4,Zc7,Zc8,Zc9,Zdc,Zdd,Zde,Zdf,Zdg,Zdh,Zdi,Zdj,Zdl,Zdm,Zdo,Zdp,Zdt,Zdu,Zdv,Zdw,Zdx,Zdy,Zdz,Zd0,Zd1,Zd2,Zd3,Zeb,Zeh,Zei,Zek,Zen,Zeq,Zer,Zes,Zet,Zev,Zew,Zex,Zez,Ze0,Ze1,Ze2,Ze3,Ze5,Zfc,Zfd,Zfe,Zfh,Zfi,Zfj,Zfl,Zfn,Zfz,Zf1,Zf3,Zgd,Zgg,Zgr,Zgu,Zg4,Zg6,Zhb,Zhc,Zhd,Zhe,Zhf,Zhg,Zhh,Zhm,Zhn,Zho,Zhs,Zht,Zhu,Zh6,Zh7,Zin,Ziu,Ziv,Ziw,Zi6,Zi7,Zje,Zjg,Zjh,Zji,Zjn,Zjq,Zj2,Zka,Zkl,Zky,Zk0,Zk2,Zk4,Zla,Zlb,Zle,Zll,Zlz,Zl0,Zl1,Zl2,Zmk,Zmt,Zmv,Zmw,Zmx,Zmy,Zmz,Zm0,Zm1,Zm3,Zm5,Zm6,Zm7,Zm9,Zna,Znb,Znc,Znd,Zne,Znf,Zng,Znh,Znn,Zno,Znp,Znr,Zns,Znt,Znu,Znw,Znx,Zny,Zn5,Zof,Zog,Zoh,Zrd,Zos,Zot,Zov,Zo3,Zo4,Zo6,Zo7,Zo8,Zo9,Zpa,Zpb,Zph,Zpv,Zpw,Zpy,Zp1,Zp2,Zp7,Zp9,Zqb,Zqc,Zqd,Zqe,List.length_drop,eq_self,true_and,and_true,Nat.zero_add,Nat.mul_one,Nat.sub_zero,hc0,callable_87]
      tactic =>
      and_intros <;> try (first | omega | rfl | assumption | simp only [IN]; omega)
      refine cl none (hu4) trivial ?_
      sym =>
      simp [Zaa,Zab,Zac,Zad,Zae,Zaf,Zag,Zak,Zal,Zam,Zao,Zap,Zar,Zaz,Za0,Za1,Za2,Za3,Za4,Za5,Za6,Za7,Za8,Za9,Zba,Zbb,Zbc,Zbd,Zbf,Zbj,Zbt,Zb1,Zb7,Zb9,Zca,Zch,Zci,Zcn,Zcv,Zc3,Zc4,Zc7,Zc8,Zc9,Zdc,Zdd,Zde,Zdf,Zdg,Zdh,Zdi,Zdj,Zdl,Zdm,Zdo,Zdp,Zdt,Zdu,Zdv,Zdw,Zdx,Zdy,Zdz,Zd0,Zd1,Zd2,Zd3,Zeb,Zeh,Zei,Zek,Zen,Zeq,Zer,Zes,Zet,Zev,Zew,Zex,Zez,Ze0,Ze1,Ze2,Ze3,Ze5,Zfc,Zfd,Zfe,Zfh,Zfi,Zfj,Zfl,Zfn,Zfz,Zf1,Zf3,Zgd,Zgg,Zgr,Zgu,Zg4,Zg6,Zhb,Zhc,Zhd,Zhe,Zhf,Zhg,Zhh,Zhm,Zhn,Zho,Zhs,Zht,Zhu,Zh6,Zh7,Zin,Ziu,Ziv,Ziw,Zi6,Zi7,Zje,Zjg,Zjh,Zji,Zjn,Zjq,Zj2,Zka,Zkl,Zky,Zk0,Zk2,Zk4,Zla,Zlb,Zle,Zll,Zlz,Zl0,Zl1,Zl2,Zmk,Zmt,Zmv,Zmw,Zmx,Zmy,Zmz,Zm0,Zm1,Zm3,Zm5,Zm6,Zm7,Zm9,Zna,Znb,Znc,Znd,Zne,Znf,Zng,Znh,Znn,Zno,Znp,Znr,Zns,Znt,Znu,Znw,Znx,Zny,Zn5,Zof,Zog,Zoh,Zrd,Zos,Zot,Zov,Zo3,Zo4,Zo6,Zo7,Zo8,Zo9,Zpa,Zpb,Zph,Zpv,Zpw,Zpy,Zp1,Zp2,Zp7,Zp9,Zqb,Zqc,Zqd,Zqe,List.length_drop,eq_self,true_and,and_true,Nat.zero_add,Nat.mul_one,Nat.sub_zero]
      tactic =>
      refine endA ?_
      sym =>
      simp [Zaa,Zab,Zac,Zad,Zae,Zaf,Zag,Zak,Zal,Zam,Zao,Zap,Zar,Zaz,Za0,Za1,Za2,Za3,Za4,Za5,Za6,Za7,Za8,Za9,Zba,Zbb,Zbc,Zbd,Zbf,Zbj,Zbt,Zb1,Zb7,Zb9,Zca,Zch,Zci,Zcn,Zcv,Zc3,Zc4,Zc7,Zc8,Zc9,Zdc,Zdd,Zde,Zdf,Zdg,Zdh,Zdi,Zdj,Zdl,Zdm,Zdo,Zdp,Zdt,Zdu,Zdv,Zdw,Zdx,Zdy,Zdz,Zd0,Zd1,Zd2,Zd3,Zeb,Zeh,Zei,Zek,Zen,Zeq,Zer,Zes,Zet,Zev,Zew,Zex,Zez,Ze0,Ze1,Ze2,Ze3,Ze5,Zfc,Zfd,Zfe,Zfh,Zfi,Zfj,Zfl,Zfn,Zfz,Zf1,Zf3,Zgd,Zgg,Zgr,Zgu,Zg4,Zg6,Zhb,Zhc,Zhd,Zhe,Zhf,Zhg,Zhh,Zhm,Zhn,Zho,Zhs,Zht,Zhu,Zh6,Zh7,Zin,Ziu,Ziv,Ziw,Zi6,Zi7,Zje,Zjg,Zjh,Zji,Zjn,Zjq,Zj2,Zka,Zkl,Zky,Zk0,Zk2,Zk4,Zla,Zlb,Zle,Zll,Zlz,Zl0,Zl1,Zl2,Zmk,Zmt,Zmv,Zmw,Zmx,Zmy,Zmz,Zm0,Zm1,Zm3,Zm5,Zm6,Zm7,Zm9,Zna,Znb,Znc,Znd,Zne,Znf,Zng,Znh,Znn,Zno,Znp,Znr,Zns,Znt,Znu,Znw,Znx,Zny,Zn5,Zof,Zog,Zoh,Zrd,Zos,Zot,Zov,Zo3,Zo4,Zo6,Zo7,Zo8,Zo9,Zpa,Zpb,Zph,Zpv,Zpw,Zpy,Zp1,Zp2,Zp7,Zp9,Zqb,Zqc,Zqd,Zqe,List.length_drop,eq_self,true_and,and_true,Nat.zero_add,Nat.mul_one,Nat.sub_zero]
      tactic =>
      exact ⟨rfl, rfl⟩
    unfold t4 at hu4
    rw [if_neg h2] at hu4
    rw [if_neg h2]
    have hm := num4_bound hub
    obtain ⟨m, hmm⟩ : ∃ m, m = num4 u := ⟨_, rfl⟩
    rw [← hmm] at hm hu4 ⊢
    obtain ⟨v, hv⟩ : ∃ v, v = u.drop 4 := ⟨_, rfl⟩
    rw [← hv] at hu4 ⊢
    sym =>
    simp [Zaa,Zab,Zac,Zad,Zae,Zaf,Zag,Zak,Zal,Zam,Zao,Zap,Zar,Zaz,Za0,Za1,Za2,Za3,Za4,Za5,Za6,Za7,Za8,Za9,Zba,Zbb,Zbc,Zbd,Zbf,Zbj,Zbt,Zb1,Zb7,Zb9,Zca,Zch,Zci,Zcn,Zcv,Zc3,Zc4,Zc7,Zc8,Zc9,Zdc,Zdd,Zde,Zdf,Zdg,Zdh,Zdi,Zdj,Zdl,Zdm,Zdo,Zdp,Zdt,Zdu,Zdv,Zdw,Zdx,Zdy,Zdz,Zd0,Zd1,Zd2,Zd3,Zeb,Zeh,Zei,Zek,Zen,Zeq,Zer,Zes,Zet,Zev,Zew,Zex,Zez,Ze0,Ze1,Ze2,Ze3,Ze5,Zfc,Zfd,Zfe,Zfh,Zfi,Zfj,Zfl,Zfn,Zfz,Zf1,Zf3,Zgd,Zgg,Zgr,Zgu,Zg4,Zg6,Zhb,Zhc,Zhd,Zhe,Zhf,Zhg,Zhh,Zhm,Zhn,Zho,Zhs,Zht,Zhu,Zh6,Zh7,Zin,Ziu,Ziv,Ziw,Zi6,Zi7,Zje,Zjg,Zjh,Zji,Zjn,Zjq,Zj2,Zka,Zkl,Zky,Zk0,Zk2,Zk4,Zla,Zlb,Zle,Zll,Zlz,Zl0,Zl1,Zl2,Zmk,Zmt,Zmv,Zmw,Zmx,Zmy,Zmz,Zm0,Zm1,Zm3,Zm5,Zm6,Zm7,Zm9,Zna,Znb,Znc,Znd,Zne,Znf,Zng,Znh,Znn,Zno,Znp,Znr,Zns,Znt,Znu,Znw,Znx,Zny,Zn5,Zof,Zog,Zoh,Zrd,Zos,Zot,Zov,Zo3,Zo4,Zo6,Zo7,Zo8,Zo9,Zpa,Zpb,Zph,Zpv,Zpw,Zpy,Zp1,Zp2,Zp7,Zp9,Zqb,Zqc,Zqd,Zqe,List.length_drop,eq_self,true_and,and_true,Nat.zero_add,Nat.mul_one,Nat.sub_zero,hc0,callable_87]
    tactic =>
    and_intros <;> try (first | omega | rfl | assumption | simp only [IN]; omega)
    refine cl none (hu4) trivial ?_
    by_cases g1 : 2147483647 < n
    · have g1' : n > 2147483647 := g1
      rw [if_pos g1]
      sym =>
      simp [Zaa,Zab,Zac,Zad,Zae,Zaf,Zag,Zak,Zal,Zam,Zao,Zap,Zar,Zaz,Za0,Za1,Za2,Za3,Za4,Za5,Za6,Za7,Za8,Za9,Zba,Zbb,Zbc,Zbd,Zbf,Zbj,Zbt,Zb1,Zb7,Zb9,Zca,Zch,Zci,Zcn,Zcv,Zc3,Zc4,Zc7,Zc8,Zc9,Zdc,Zdd,Zde,Zdf,Zdg,Zdh,Zdi,Zdj,Zdl,Zdm,Zdo,Zdp,Zdt,Zdu,Zdv,Zdw,Zdx,Zdy,Zdz,Zd0,Zd1,Zd2,Zd3,Zeb,Zeh,Zei,Zek,Zen,Zeq,Zer,Zes,Zet,Zev,Zew,Zex,Zez,Ze0,Ze1,Ze2,Ze3,Ze5,Zfc,Zfd,Zfe,Zfh,Zfi,Zfj,Zfl,Zfn,Zfz,Zf1,Zf3,Zgd,Zgg,Zgr,Zgu,Zg4,Zg6,Zhb,Zhc,Zhd,Zhe,Zhf,Zhg,Zhh,Zhm,Zhn,Zho,Zhs,Zht,Zhu,Zh6,Zh7,Zin,Ziu,Ziv,Ziw,Zi6,Zi7,Zje,Zjg,Zjh,Zji,Zjn,Zjq,Zj2,Zka,Zkl,Zky,Zk0,Zk2,Zk4,Zla,Zlb,Zle,Zll,Zlz,Zl0,Zl1,Zl2,Zmk,Zmt,Zmv,Zmw,Zmx,Zmy,Zmz,Zm0,Zm1,Zm3,Zm5,Zm6,Zm7,Zm9,Zna,Znb,Znc,Znd,Zne,Znf,Zng,Znh,Znn,Zno,Znp,Znr,Zns,Znt,Znu,Znw,Znx,Zny,Zn5,Zof,Zog,Zoh,Zrd,Zos,Zot,Zov,Zo3,Zo4,Zo6,Zo7,Zo8,Zo9,Zpa,Zpb,Zph,Zpv,Zpw,Zpy,Zp1,Zp2,Zp7,Zp9,Zqb,Zqc,Zqd,Zqe,List.length_drop,eq_self,true_and,and_true,Nat.zero_add,Nat.mul_one,Nat.sub_zero,g1']
      tactic =>
      refine endA ?_
      sym =>
      simp [Zaa,Zab,Zac,Zad,Zae,Zaf,Zag,Zak,Zal,Zam,Zao,Zap,Zar,Zaz,Za0,Za1,Za2,Za3,Za4,Za5,Za6,Za7,Za8,Za9,Zba,Zbb,Zbc,Zbd,Zbf,Zbj,Zbt,Zb1,Zb7,Zb9,Zca,Zch,Zci,Zcn,Zcv,Zc3,Zc4,Zc7,Zc8,Zc9,Zdc,Zdd,Zde,Zdf,Zdg,Zdh,Zdi,Zdj,Zdl,Zdm,Zdo,Zdp,Zdt,Zdu,Zdv,Zdw,Zdx,Zdy,Zdz,Zd0,Zd1,Zd2,Zd3,Zeb,Zeh,Zei,Zek,Zen,Zeq,Zer,Zes,Zet,Zev,Zew,Zex,Zez,Ze0,Ze1,Ze2,Ze3,Ze5,Zfc,Zfd,Zfe,Zfh,Zfi,Zfj,Zfl,Zfn,Zfz,Zf1,Zf3,Zgd,Zgg,Zgr,Zgu,Zg4,Zg6,Zhb,Zhc,Zhd,Zhe,Zhf,Zhg,Zhh,Zhm,Zhn,Zho,Zhs,Zht,Zhu,Zh6,Zh7,Zin,Ziu,Ziv,Ziw,Zi6,Zi7,Zje,Zjg,Zjh,Zji,Zjn,Zjq,Zj2,Zka,Zkl,Zky,Zk0,Zk2,Zk4,Zla,Zlb,Zle,Zll,Zlz,Zl0,Zl1,Zl2,Zmk,Zmt,Zmv,Zmw,Zmx,Zmy,Zmz,Zm0,Zm1,Zm3,Zm5,Zm6,Zm7,Zm9,Zna,Znb,Znc,Znd,Zne,Znf,Zng,Znh,Znn,Zno,Znp,Znr,Zns,Znt,Znu,Znw,Znx,Zny,Zn5,Zof,Zog,Zoh,Zrd,Zos,Zot,Zov,Zo3,Zo4,Zo6,Zo7,Zo8,Zo9,Zpa,Zpb,Zph,Zpv,Zpw,Zpy,Zp1,Zp2,Zp7,Zp9,Zqb,Zqc,Zqd,Zqe,List.length_drop,eq_self,true_and,and_true,Nat.zero_add,Nat.mul_one,Nat.sub_zero]
      tactic =>
      exact ⟨rfl, rfl⟩
    have g1' : ¬ n > 2147483647 := g1
    rw [if_neg g1]
    by_cases g2 : 2147483647 < m
    · have g2' : m > 2147483647 := g2
      rw [if_pos g2]
      sym =>
      simp [Zaa,Zab,Zac,Zad,Zae,Zaf,Zag,Zak,Zal,Zam,Zao,Zap,Zar,Zaz,Za0,Za1,Za2,Za3,Za4,Za5,Za6,Za7,Za8,Za9,Zba,Zbb,Zbc,Zbd,Zbf,Zbj,Zbt,Zb1,Zb7,Zb9,Zca,Zch,Zci,Zcn,Zcv,Zc3,Zc4,Zc7,Zc8,Zc9,Zdc,Zdd,Zde,Zdf,Zdg,Zdh,Zdi,Zdj,Zdl,Zdm,Zdo,Zdp,Zdt,Zdu,Zdv,Zdw,Zdx,Zdy,Zdz,Zd0,Zd1,Zd2,Zd3,Zeb,Zeh,Zei,Zek,Zen,Zeq,Zer,Zes,Zet,Zev,Zew,Zex,Zez,Ze0,Ze1,Ze2,Ze3,Ze5,Zfc,Zfd,Zfe,Zfh,Zfi,Zfj,Zfl,Zfn,Zfz,Zf1,Zf3,Zgd,Zgg,Zgr,Zgu,Zg4,Zg6,Zhb,Zhc,Zhd,Zhe,Zhf,Zhg,Zhh,Zhm,Zhn,Zho,Zhs,Zht,Zhu,Zh6,Zh7,Zin,Ziu,Ziv,Ziw,Zi6,Zi7,Zje,Zjg,Zjh,Zji,Zjn,Zjq,Zj2,Zka,Zkl,Zky,Zk0,Zk2,Zk4,Zla,Zlb,Zle,Zll,Zlz,Zl0,Zl1,Zl2,Zmk,Zmt,Zmv,Zmw,Zmx,Zmy,Zmz,Zm0,Zm1,Zm3,Zm5,Zm6,Zm7,Zm9,Zna,Znb,Znc,Znd,Zne,Znf,Zng,Znh,Znn,Zno,Znp,Znr,Zns,Znt,Znu,Znw,Znx,Zny,Zn5,Zof,Zog,Zoh,Zrd,Zos,Zot,Zov,Zo3,Zo4,Zo6,Zo7,Zo8,Zo9,Zpa,Zpb,Zph,Zpv,Zpw,Zpy,Zp1,Zp2,Zp7,Zp9,Zqb,Zqc,Zqd,Zqe,List.length_drop,eq_self,true_and,and_true,Nat.zero_add,Nat.mul_one,Nat.sub_zero,g1',g2']
      tactic =>
      refine endA ?_
      sym =>
      simp [Zaa,Zab,Zac,Zad,Zae,Zaf,Zag,Zak,Zal,Zam,Zao,Zap,Zar,Zaz,Za0,Za1,Za2,Za3,Za4,Za5,Za6,Za7,Za8,Za9,Zba,Zbb,Zbc,Zbd,Zbf,Zbj,Zbt,Zb1,Zb7,Zb9,Zca,Zch,Zci,Zcn,Zcv,Zc3,Zc4,Zc7,Zc8,Zc9,Zdc,Zdd,Zde,Zdf,Zdg,Zdh,Zdi,Zdj,Zdl,Zdm,Zdo,Zdp,Zdt,Zdu,Zdv,Zdw,Zdx,Zdy,Zdz,Zd0,Zd1,Zd2,Zd3,Zeb,Zeh,Zei,Zek,Zen,Zeq,Zer,Zes,Zet,Zev,Zew,Zex,Zez,Ze0,Ze1,Ze2,Ze3,Ze5,Zfc,Zfd,Zfe,Zfh,Zfi,Zfj,Zfl,Zfn,Zfz,Zf1,Zf3,Zgd,Zgg,Zgr,Zgu,Zg4,Zg6,Zhb,Zhc,Zhd,Zhe,Zhf,Zhg,Zhh,Zhm,Zhn,Zho,Zhs,Zht,Zhu,Zh6,Zh7,Zin,Ziu,Ziv,Ziw,Zi6,Zi7,Zje,Zjg,Zjh,Zji,Zjn,Zjq,Zj2,Zka,Zkl,Zky,Zk0,Zk2,Zk4,Zla,Zlb,Zle,Zll,Zlz,Zl0,Zl1,Zl2,Zmk,Zmt,Zmv,Zmw,Zmx,Zmy,Zmz,Zm0,Zm1,Zm3,Zm5,Zm6,Zm7,Zm9,Zna,Znb,Znc,Znd,Zne,Znf,Zng,Znh,Znn,Zno,Znp,Znr,Zns,Znt,Znu,Znw,Znx,Zny,Zn5,Zof,Zog,Zoh,Zrd,Zos,Zot,Zov,Zo3,Zo4,Zo6,Zo7,Zo8,Zo9,Zpa,Zpb,Zph,Zpv,Zpw,Zpy,Zp1,Zp2,Zp7,Zp9,Zqb,Zqc,Zqd,Zqe,List.length_drop,eq_self,true_and,and_true,Nat.zero_add,Nat.mul_one,Nat.sub_zero]
      tactic =>
      exact ⟨rfl, rfl⟩
    have g2' : ¬ m > 2147483647 := g2
    rw [if_neg g2]
    by_cases g3 : m = 0
    · rw [if_pos g3]
      sym =>
      simp [Zaa,Zab,Zac,Zad,Zae,Zaf,Zag,Zak,Zal,Zam,Zao,Zap,Zar,Zaz,Za0,Za1,Za2,Za3,Za4,Za5,Za6,Za7,Za8,Za9,Zba,Zbb,Zbc,Zbd,Zbf,Zbj,Zbt,Zb1,Zb7,Zb9,Zca,Zch,Zci,Zcn,Zcv,Zc3,Zc4,Zc7,Zc8,Zc9,Zdc,Zdd,Zde,Zdf,Zdg,Zdh,Zdi,Zdj,Zdl,Zdm,Zdo,Zdp,Zdt,Zdu,Zdv,Zdw,Zdx,Zdy,Zdz,Zd0,Zd1,Zd2,Zd3,Zeb,Zeh,Zei,Zek,Zen,Zeq,Zer,Zes,Zet,Zev,Zew,Zex,Zez,Ze0,Ze1,Ze2,Ze3,Ze5,Zfc,Zfd,Zfe,Zfh,Zfi,Zfj,Zfl,Zfn,Zfz,Zf1,Zf3,Zgd,Zgg,Zgr,Zgu,Zg4,Zg6,Zhb,Zhc,Zhd,Zhe,Zhf,Zhg,Zhh,Zhm,Zhn,Zho,Zhs,Zht,Zhu,Zh6,Zh7,Zin,Ziu,Ziv,Ziw,Zi6,Zi7,Zje,Zjg,Zjh,Zji,Zjn,Zjq,Zj2,Zka,Zkl,Zky,Zk0,Zk2,Zk4,Zla,Zlb,Zle,Zll,Zlz,Zl0,Zl1,Zl2,Zmk,Zmt,Zmv,Zmw,Zmx,Zmy,Zmz,Zm0,Zm1,Zm3,Zm5,Zm6,Zm7,Zm9,Zna,Znb,Znc,Znd,Zne,Znf,Zng,Znh,Znn,Zno,Znp,Znr,Zns,Znt,Znu,Znw,Znx,Zny,Zn5,Zof,Zog,Zoh,Zrd,Zos,Zot,Zov,Zo3,Zo4,Zo6,Zo7,Zo8,Zo9,Zpa,Zpb,Zph,Zpv,Zpw,Zpy,Zp1,Zp2,Zp7,Zp9,Zqb,Zqc,Zqd,Zqe,List.length_drop,eq_self,true_and,and_true,Nat.zero_add,Nat.mul_one,Nat.sub_zero,g1',g2',g3]
      tactic =>
      refine endA ?_
      sym =>
      simp [Zaa,Zab,Zac,Zad,Zae,Zaf,Zag,Zak,Zal,Zam,Zao,Zap,Zar,Zaz,Za0,Za1,Za2,Za3,Za4,Za5,Za6,Za7,Za8,Za9,Zba,Zbb,Zbc,Zbd,Zbf,Zbj,Zbt,Zb1,Zb7,Zb9,Zca,Zch,Zci,Zcn,Zcv,Zc3,Zc4,Zc7,Zc8,Zc9,Zdc,Zdd,Zde,Zdf,Zdg,Zdh,Zdi,Zdj,Zdl,Zdm,Zdo,Zdp,Zdt,Zdu,Zdv,Zdw,Zdx,Zdy,Zdz,Zd0,Zd1,Zd2,Zd3,Zeb,Zeh,Zei,Zek,Zen,Zeq,Zer,Zes,Zet,Zev,Zew,Zex,Zez,Ze0,Ze1,Ze2,Ze3,Ze5,Zfc,Zfd,Zfe,Zfh,Zfi,Zfj,Zfl,Zfn,Zfz,Zf1,Zf3,Zgd,Zgg,Zgr,Zgu,Zg4,Zg6,Zhb,Zhc,Zhd,Zhe,Zhf,Zhg,Zhh,Zhm,Zhn,Zho,Zhs,Zht,Zhu,Zh6,Zh7,Zin,Ziu,Ziv,Ziw,Zi6,Zi7,Zje,Zjg,Zjh,Zji,Zjn,Zjq,Zj2,Zka,Zkl,Zky,Zk0,Zk2,Zk4,Zla,Zlb,Zle,Zll,Zlz,Zl0,Zl1,Zl2,Zmk,Zmt,Zmv,Zmw,Zmx,Zmy,Zmz,Zm0,Zm1,Zm3,Zm5,Zm6,Zm7,Zm9,Zna,Znb,Znc,Znd,Zne,Znf,Zng,Znh,Znn,Zno,Znp,Znr,Zns,Znt,Znu,Znw,Znx,Zny,Zn5,Zof,Zog,Zoh,Zrd,Zos,Zot,Zov,Zo3,Zo4,Zo6,Zo7,Zo8,Zo9,Zpa,Zpb,Zph,Zpv,Zpw,Zpy,Zp1,Zp2,Zp7,Zp9,Zqb,Zqc,Zqd,Zqe,List.length_drop,eq_self,true_and,and_true,Nat.zero_add,Nat.mul_one,Nat.sub_zero]
      tactic =>
      exact ⟨rfl, rfl⟩
    rw [if_neg g3]
    sym =>
    simp [Zaa,Zab,Zac,Zad,Zae,Zaf,Zag,Zak,Zal,Zam,Zao,Zap,Zar,Zaz,Za0,Za1,Za2,Za3,Za4,Za5,Za6,Za7,Za8,Za9,Zba,Zbb,Zbc,Zbd,Zbf,Zbj,Zbt,Zb1,Zb7,Zb9,Zca,Zch,Zci,Zcn,Zcv,Zc3,Zc4,Zc7,Zc8,Zc9,Zdc,Zdd,Zde,Zdf,Zdg,Zdh,Zdi,Zdj,Zdl,Zdm,Zdo,Zdp,Zdt,Zdu,Zdv,Zdw,Zdx,Zdy,Zdz,Zd0,Zd1,Zd2,Zd3,Zeb,Zeh,Zei,Zek,Zen,Zeq,Zer,Zes,Zet,Zev,Zew,Zex,Zez,Ze0,Ze1,Ze2,Ze3,Ze5,Zfc,Zfd,Zfe,Zfh,Zfi,Zfj,Zfl,Zfn,Zfz,Zf1,Zf3,Zgd,Zgg,Zgr,Zgu,Zg4,Zg6,Zhb,Zhc,Zhd,Zhe,Zhf,Zhg,Zhh,Zhm,Zhn,Zho,Zhs,Zht,Zhu,Zh6,Zh7,Zin,Ziu,Ziv,Ziw,Zi6,Zi7,Zje,Zjg,Zjh,Zji,Zjn,Zjq,Zj2,Zka,Zkl,Zky,Zk0,Zk2,Zk4,Zla,Zlb,Zle,Zll,Zlz,Zl0,Zl1,Zl2,Zmk,Zmt,Zmv,Zmw,Zmx,Zmy,Zmz,Zm0,Zm1,Zm3,Zm5,Zm6,Zm7,Zm9,Zna,Znb,Znc,Znd,Zne,Znf,Zng,Znh,Znn,Zno,Znp,Znr,Zns,Znt,Znu,Znw,Znx,Zny,Zn5,Zof,Zog,Zoh,Zrd,Zos,Zot,Zov,Zo3,Zo4,Zo6,Zo7,Zo8,Zo9,Zpa,Zpb,Zph,Zpv,Zpw,Zpy,Zp1,Zp2,Zp7,Zp9,Zqb,Zqc,Zqd,Zqe,List.length_drop,eq_self,true_and,and_true,Nat.zero_add,Nat.mul_one,Nat.sub_zero,g1',g2',g3]
    tactic =>
    refine endA ?_
    sym =>
    simp [Zaa,Zab,Zac,Zad,Zae,Zaf,Zag,Zak,Zal,Zam,Zao,Zap,Zar,Zaz,Za0,Za1,Za2,Za3,Za4,Za5,Za6,Za7,Za8,Za9,Zba,Zbb,Zbc,Zbd,Zbf,Zbj,Zbt,Zb1,Zb7,Zb9,Zca,Zch,Zci,Zcn,Zcv,Zc3,Zc4,Zc7,Zc8,Zc9,Zdc,Zdd,Zde,Zdf,Zdg,Zdh,Zdi,Zdj,Zdl,Zdm,Zdo,Zdp,Zdt,Zdu,Zdv,Zdw,Zdx,Zdy,Zdz,Zd0,Zd1,Zd2,Zd3,Zeb,Zeh,Zei,Zek,Zen,Zeq,Zer,Zes,Zet,Zev,Zew,Zex,Zez,Ze0,Ze1,Ze2,Ze3,Ze5,Zfc,Zfd,Zfe,Zfh,Zfi,Zfj,Zfl,Zfn,Zfz,Zf1,Zf3,Zgd,Zgg,Zgr,Zgu,Zg4,Zg6,Zhb,Zhc,Zhd,Zhe,Zhf,Zhg,Zhh,Zhm,Zhn,Zho,Zhs,Zht,Zhu,Zh6,Zh7,Zin,Ziu,Ziv,Ziw,Zi6,Zi7,Zje,Zjg,Zjh,Zji,Zjn,Zjq,Zj2,Zka,Zkl,Zky,Zk0,Zk2,Zk4,Zla,Zlb,Zle,Zll,Zlz,Zl0,Zl1,Zl2,Zmk,Zmt,Zmv,Zmw,Zmx,Zmy,Zmz,Zm0,Zm1,Zm3,Zm5,Zm6,Zm7,Zm9,Zna,Znb,Znc,Znd,Zne,Znf,Zng,Znh,Znn,Zno,Znp,Znr,Zns,Znt,Znu,Znw,Znx,Zny,Zn5,Zof,Zog,Zoh,Zrd,Zos,Zot,Zov,Zo3,Zo4,Zo6,Zo7,Zo8,Zo9,Zpa,Zpb,Zph,Zpv,Zpw,Zpy,Zp1,Zp2,Zp7,Zp9,Zqb,Zqc,Zqd,Zqe,List.length_drop,eq_self,true_and,and_true,Nat.zero_add,Nat.mul_one,Nat.sub_zero]
    tactic =>
    rfl
  · rw [if_neg h67]
    sym =>
    simp [Zaa,Zab,Zac,Zad,Zae,Zaf,Zag,Zak,Zal,Zam,Zao,Zap,Zar,Zaz,Za0,Za1,Za2,Za3,Za4,Za5,Za6,Za7,Za8,Za9,Zba,Zbb,Zbc,Zbd,Zbf,Zbj,Zbt,Zb1,Zb7,Zb9,Zca,Zch,Zci,Zcn,Zcv,Zc3,Zc4,Zc7,Zc8,Zc9,Zdc,Zdd,Zde,Zdf,Zdg,Zdh,Zdi,Zdj,Zdl,Zdm,Zdo,Zdp,Zdt,Zdu,Zdv,Zdw,Zdx,Zdy,Zdz,Zd0,Zd1,Zd2,Zd3,Zeb,Zeh,Zei,Zek,Zen,Zeq,Zer,Zes,Zet,Zev,Zew,Zex,Zez,Ze0,Ze1,Ze2,Ze3,Ze5,Zfc,Zfd,Zfe,Zfh,Zfi,Zfj,Zfl,Zfn,Zfz,Zf1,Zf3,Zgd,Zgg,Zgr,Zgu,Zg4,Zg6,Zhb,Zhc,Zhd,Zhe,Zhf,Zhg,Zhh,Zhm,Zhn,Zho,Zhs,Zht,Zhu,Zh6,Zh7,Zin,Ziu,Ziv,Ziw,Zi6,Zi7,Zje,Zjg,Zjh,Zji,Zjn,Zjq,Zj2,Zka,Zkl,Zky,Zk0,Zk2,Zk4,Zla,Zlb,Zle,Zll,Zlz,Zl0,Zl1,Zl2,Zmk,Zmt,Zmv,Zmw,Zmx,Zmy,Zmz,Zm0,Zm1,Zm3,Zm5,Zm6,Zm7,Zm9,Zna,Znb,Znc,Znd,Zne,Znf,Zng,Znh,Znn,Zno,Znp,Znr,Zns,Znt,Znu,Znw,Znx,Zny,Zn5,Zof,Zog,Zoh,Zrd,Zos,Zot,Zov,Zo3,Zo4,Zo6,Zo7,Zo8,Zo9,Zpa,Zpb,Zph,Zpv,Zpw,Zpy,Zp1,Zp2,Zp7,Zp9,Zqb,Zqc,Zqd,Zqe,List.length_drop,eq_self,true_and,and_true,Nat.zero_add,Nat.mul_one,Nat.sub_zero,hc0,h67]
    tactic =>
    and_intros <;> try (first | omega | rfl | assumption | simp only [IN]; omega)
    by_cases g1 : 2147483647 < n
    · have g1' : n > 2147483647 := g1
      rw [if_pos g1]
      sym =>
      simp [Zaa,Zab,Zac,Zad,Zae,Zaf,Zag,Zak,Zal,Zam,Zao,Zap,Zar,Zaz,Za0,Za1,Za2,Za3,Za4,Za5,Za6,Za7,Za8,Za9,Zba,Zbb,Zbc,Zbd,Zbf,Zbj,Zbt,Zb1,Zb7,Zb9,Zca,Zch,Zci,Zcn,Zcv,Zc3,Zc4,Zc7,Zc8,Zc9,Zdc,Zdd,Zde,Zdf,Zdg,Zdh,Zdi,Zdj,Zdl,Zdm,Zdo,Zdp,Zdt,Zdu,Zdv,Zdw,Zdx,Zdy,Zdz,Zd0,Zd1,Zd2,Zd3,Zeb,Zeh,Zei,Zek,Zen,Zeq,Zer,Zes,Zet,Zev,Zew,Zex,Zez,Ze0,Ze1,Ze2,Ze3,Ze5,Zfc,Zfd,Zfe,Zfh,Zfi,Zfj,Zfl,Zfn,Zfz,Zf1,Zf3,Zgd,Zgg,Zgr,Zgu,Zg4,Zg6,Zhb,Zhc,Zhd,Zhe,Zhf,Zhg,Zhh,Zhm,Zhn,Zho,Zhs,Zht,Zhu,Zh6,Zh7,Zin,Ziu,Ziv,Ziw,Zi6,Zi7,Zje,Zjg,Zjh,Zji,Zjn,Zjq,Zj2,Zka,Zkl,Zky,Zk0,Zk2,Zk4,Zla,Zlb,Zle,Zll,Zlz,Zl0,Zl1,Zl2,Zmk,Zmt,Zmv,Zmw,Zmx,Zmy,Zmz,Zm0,Zm1,Zm3,Zm5,Zm6,Zm7,Zm9,Zna,Znb,Znc,Znd,Zne,Znf,Zng,Znh,Znn,Zno,Znp,Znr,Zns,Znt,Znu,Znw,Znx,Zny,Zn5,Zof,Zog,Zoh,Zrd,Zos,Zot,Zov,Zo3,Zo4,Zo6,Zo7,Zo8,Zo9,Zpa,Zpb,Zph,Zpv,Zpw,Zpy,Zp1,Zp2,Zp7,Zp9,Zqb,Zqc,Zqd,Zqe,List.length_drop,eq_self,true_and,and_true,Nat.zero_add,Nat.mul_one,Nat.sub_zero,g1']
      tactic =>
      refine endA ?_
      sym =>
      simp [Zaa,Zab,Zac,Zad,Zae,Zaf,Zag,Zak,Zal,Zam,Zao,Zap,Zar,Zaz,Za0,Za1,Za2,Za3,Za4,Za5,Za6,Za7,Za8,Za9,Zba,Zbb,Zbc,Zbd,Zbf,Zbj,Zbt,Zb1,Zb7,Zb9,Zca,Zch,Zci,Zcn,Zcv,Zc3,Zc4,Zc7,Zc8,Zc9,Zdc,Zdd,Zde,Zdf,Zdg,Zdh,Zdi,Zdj,Zdl,Zdm,Zdo,Zdp,Zdt,Zdu,Zdv,Zdw,Zdx,Zdy,Zdz,Zd0,Zd1,Zd2,Zd3,Zeb,Zeh,Zei,Zek,Zen,Zeq,Zer,Zes,Zet,Zev,Zew,Zex,Zez,Ze0,Ze1,Ze2,Ze3,Ze5,Zfc,Zfd,Zfe,Zfh,Zfi,Zfj,Zfl,Zfn,Zfz,Zf1,Zf3,Zgd,Zgg,Zgr,Zgu,Zg4,Zg6,Zhb,Zhc,Zhd,Zhe,Zhf,Zhg,Zhh,Zhm,Zhn,Zho,Zhs,Zht,Zhu,Zh6,Zh7,Zin,Ziu,Ziv,Ziw,Zi6,Zi7,Zje,Zjg,Zjh,Zji,Zjn,Zjq,Zj2,Zka,Zkl,Zky,Zk0,Zk2,Zk4,Zla,Zlb,Zle,Zll,Zlz,Zl0,Zl1,Zl2,Zmk,Zmt,Zmv,Zmw,Zmx,Zmy,Zmz,Zm0,Zm1,Zm3,Zm5,Zm6,Zm7,Zm9,Zna,Znb,Znc,Znd,Zne,Znf,Zng,Znh,Znn,Zno,Znp,Znr,Zns,Znt,Znu,Znw,Znx,Zny,Zn5,Zof,Zog,Zoh,Zrd,Zos,Zot,Zov,Zo3,Zo4,Zo6,Zo7,Zo8,Zo9,Zpa,Zpb,Zph,Zpv,Zpw,Zpy,Zp1,Zp2,Zp7,Zp9,Zqb,Zqc,Zqd,Zqe,List.length_drop,eq_self,true_and,and_true,Nat.zero_add,Nat.mul_one,Nat.sub_zero]
      tactic =>
      exact ⟨rfl, rfl⟩
    have g1' : ¬ n > 2147483647 := g1
    rw [if_neg g1]
    by_cases g2 : n = 0
    · rw [if_pos g2]
      sym =>
      simp [Zaa,Zab,Zac,Zad,Zae,Zaf,Zag,Zak,Zal,Zam,Zao,Zap,Zar,Zaz,Za0,Za1,Za2,Za3,Za4,Za5,Za6,Za7,Za8,Za9,Zba,Zbb,Zbc,Zbd,Zbf,Zbj,Zbt,Zb1,Zb7,Zb9,Zca,Zch,Zci,Zcn,Zcv,Zc3,Zc4,Zc7,Zc8,Zc9,Zdc,Zdd,Zde,Zdf,Zdg,Zdh,Zdi,Zdj,Zdl,Zdm,Zdo,Zdp,Zdt,Zdu,Zdv,Zdw,Zdx,Zdy,Zdz,Zd0,Zd1,Zd2,Zd3,Zeb,Zeh,Zei,Zek,Zen,Zeq,Zer,Zes,Zet,Zev,Zew,Zex,Zez,Ze0,Ze1,Ze2,Ze3,Ze5,Zfc,Zfd,Zfe,Zfh,Zfi,Zfj,Zfl,Zfn,Zfz,Zf1,Zf3,Zgd,Zgg,Zgr,Zgu,Zg4,Zg6,Zhb,Zhc,Zhd,Zhe,Zhf,Zhg,Zhh,Zhm,Zhn,Zho,Zhs,Zht,Zhu,Zh6,Zh7,Zin,Ziu,Ziv,Ziw,Zi6,Zi7,Zje,Zjg,Zjh,Zji,Zjn,Zjq,Zj2,Zka,Zkl,Zky,Zk0,Zk2,Zk4,Zla,Zlb,Zle,Zll,Zlz,Zl0,Zl1,Zl2,Zmk,Zmt,Zmv,Zmw,Zmx,Zmy,Zmz,Zm0,Zm1,Zm3,Zm5,Zm6,Zm7,Zm9,Zna,Znb,Znc,Znd,Zne,Znf,Zng,Znh,Znn,Zno,Znp,Znr,Zns,Znt,Znu,Znw,Znx,Zny,Zn5,Zof,Zog,Zoh,Zrd,Zos,Zot,Zov,Zo3,Zo4,Zo6,Zo7,Zo8,Zo9,Zpa,Zpb,Zph,Zpv,Zpw,Zpy,Zp1,Zp2,Zp7,Zp9,Zqb,Zqc,Zqd,Zqe,List.length_drop,eq_self,true_and,and_true,Nat.zero_add,Nat.mul_one,Nat.sub_zero,g1',g2]
      tactic =>
      refine endA ?_
      sym =>
      simp [Zaa,Zab,Zac,Zad,Zae,Zaf,Zag,Zak,Zal,Zam,Zao,Zap,Zar,Zaz,Za0,Za1,Za2,Za3,Za4,Za5,Za6,Za7,Za8,Za9,Zba,Zbb,Zbc,Zbd,Zbf,Zbj,Zbt,Zb1,Zb7,Zb9,Zca,Zch,Zci,Zcn,Zcv,Zc3,Zc4,Zc7,Zc8,Zc9,Zdc,Zdd,Zde,Zdf,Zdg,Zdh,Zdi,Zdj,Zdl,Zdm,Zdo,Zdp,Zdt,Zdu,Zdv,Zdw,Zdx,Zdy,Zdz,Zd0,Zd1,Zd2,Zd3,Zeb,Zeh,Zei,Zek,Zen,Zeq,Zer,Zes,Zet,Zev,Zew,Zex,Zez,Ze0,Ze1,Ze2,Ze3,Ze5,Zfc,Zfd,Zfe,Zfh,Zfi,Zfj,Zfl,Zfn,Zfz,Zf1,Zf3,Zgd,Zgg,Zgr,Zgu,Zg4,Zg6,Zhb,Zhc,Zhd,Zhe,Zhf,Zhg,Zhh,Zhm,Zhn,Zho,Zhs,Zht,Zhu,Zh6,Zh7,Zin,Ziu,Ziv,Ziw,Zi6,Zi7,Zje,Zjg,Zjh,Zji,Zjn,Zjq,Zj2,Zka,Zkl,Zky,Zk0,Zk2,Zk4,Zla,Zlb,Zle,Zll,Zlz,Zl0,Zl1,Zl2,Zmk,Zmt,Zmv,Zmw,Zmx,Zmy,Zmz,Zm0,Zm1,Zm3,Zm5,Zm6,Zm7,Zm9,Zna,Znb,Znc,Znd,Zne,Znf,Zng,Znh,Znn,Zno,Znp,Znr,Zns,Znt,Znu,Znw,Znx,Zny,Zn5,Zof,Zog,Zoh,Zrd,Zos,Zot,Zov,Zo3,Zo4,Zo6,Zo7,Zo8,Zo9,Zpa,Zpb,Zph,Zpv,Zpw,Zpy,Zp1,Zp2,Zp7,Zp9,Zqb,Zqc,Zqd,Zqe,List.length_drop,eq_self,true_and,and_true,Nat.zero_add,Nat.mul_one,Nat.sub_zero]
      tactic =>
      exact ⟨rfl, rfl⟩
    rw [if_neg g2]
    obtain ⟨N, rfl⟩ : ∃ N : Nat, n = IN N := ⟨n.toNat, by simp only [IN]; omega⟩
    have gz : ¬ N = 0 := fun e => g2 (by rw [e]; rfl)
    by_cases g3 : u.length < N
    · have g3' : (u.length : Int) < IN N := by simp only [IN]; omega
      rw [if_pos g3']
      sym =>
      simp [Zaa,Zab,Zac,Zad,Zae,Zaf,Zag,Zak,Zal,Zam,Zao,Zap,Zar,Zaz,Za0,Za1,Za2,Za3,Za4,Za5,Za6,Za7,Za8,Za9,Zba,Zbb,Zbc,Zbd,Zbf,Zbj,Zbt,Zb1,Zb7,Zb9,Zca,Zch,Zci,Zcn,Zcv,Zc3,Zc4,Zc7,Zc8,Zc9,Zdc,Zdd,Zde,Zdf,Zdg,Zdh,Zdi,Zdj,Zdl,Zdm,Zdo,Zdp,Zdt,Zdu,Zdv,Zdw,Zdx,Zdy,Zdz,Zd0,Zd1,Zd2,Zd3,Zeb,Zeh,Zei,Zek,Zen,Zeq,Zer,Zes,Zet,Zev,Zew,Zex,Zez,Ze0,Ze1,Ze2,Ze3,Ze5,Zfc,Zfd,Zfe,Zfh,Zfi,Zfj,Zfl,Zfn,Zfz,Zf1,Zf3,Zgd,Zgg,Zgr,Zgu,Zg4,Zg6,Zhb,Zhc,Zhd,Zhe,Zhf,Zhg,Zhh,Zhm,Zhn,Zho,Zhs,Zht,Zhu,Zh6,Zh7,Zin,Ziu,Ziv,Ziw,Zi6,Zi7,Zje,Zjg,Zjh,Zji,Zjn,Zjq,Zj2,Zka,Zkl,Zky,Zk0,Zk2,Zk4,Zla,Zlb,Zle,Zll,Zlz,Zl0,Zl1,Zl2,Zmk,Zmt,Zmv,Zmw,Zmx,Zmy,Zmz,Zm0,Zm1,Zm3,Zm5,Zm6,Zm7,Zm9,Zna,Znb,Znc,Znd,Zne,Znf,Zng,Znh,Znn,Zno,Znp,Znr,Zns,Znt,Znu,Znw,Znx,Zny,Zn5,Zof,Zog,Zoh,Zrd,Zos,Zot,Zov,Zo3,Zo4,Zo6,Zo7,Zo8,Zo9,Zpa,Zpb,Zph,Zpv,Zpw,Zpy,Zp1,Zp2,Zp7,Zp9,Zqb,Zqc,Zqd,Zqe,List.length_drop,eq_self,true_and,and_true,Nat.zero_add,Nat.mul_one,Nat.sub_zero,g1',gz,g3]
      tactic =>
      refine endA ?_
      sym =>
      simp [Zaa,Zab,Zac,Zad,Zae,Zaf,Zag,Zak,Zal,Zam,Zao,Zap,Zar,Zaz,Za0,Za1,Za2,Za3,Za4,Za5,Za6,Za7,Za8,Za9,Zba,Zbb,Zbc,Zbd,Zbf,Zbj,Zbt,Zb1,Zb7,Zb9,Zca,Zch,Zci,Zcn,Zcv,Zc3,Zc4,Zc7,Zc8,Zc9,Zdc,Zdd,Zde,Zdf,Zdg,Zdh,Zdi,Zdj,Zdl,Zdm,Zdo,Zdp,Zdt,Zdu,Zdv,Zdw,Zdx,Zdy,Zdz,Zd0,Zd1,Zd2,Zd3,Zeb,Zeh,Zei,Zek,Zen,Zeq,Zer,Zes,Zet,Zev,Zew,Zex,Zez,Ze0,Ze1,Ze2,Ze3,Ze5,Zfc,Zfd,Zfe,Zfh,Zfi,Zfj,Zfl,Zfn,Zfz,Zf1,Zf3,Zgd,Zgg,Zgr,Zgu,Zg4,Zg6,Zhb,Zhc,Zhd,Zhe,Zhf,Zhg,Zhh,Zhm,Zhn,Zho,Zhs,Zht,Zhu,Zh6,Zh7,Zin,Ziu,Ziv,Ziw,Zi6,Zi7,Zje,Zjg,Zjh,Zji,Zjn,Zjq,Zj2,Zka,Zkl,Zky,Zk0,Zk2,Zk4,Zla,Zlb,Zle,Zll,Zlz,Zl0,Zl1,Zl2,Zmk,Zmt,Zmv,Zmw,Zmx,Zmy,Zmz,Zm0,Zm1,Zm3,Zm5,Zm6,Zm7,Zm9,Zna,Znb,Znc,Znd,Zne,Znf,Zng,Znh,Znn,Zno,Znp,Znr,Zns,Znt,Znu,Znw,Znx,Zny,Zn5,Zof,Zog,Zoh,Zrd,Zos,Zot,Zov,Zo3,Zo4,Zo6,Zo7,Zo8,Zo9,Zpa,Zpb,Zph,Zpv,Zpw,Zpy,Zp1,Zp2,Zp7,Zp9,Zqb,Zqc,Zqd,Zqe,List.length_drop,eq_self,true_and,and_true,Nat.zero_add,Nat.mul_one,Nat.sub_zero]
      tactic =>
      exact ⟨rfl, rfl⟩
    have g3' : ¬ (u.length : Int) < IN N := by simp only [IN]; omega
    rw [if_neg g3']
    obtain ⟨X, hX⟩ : ∃ X, X = u.take N := ⟨_, rfl⟩
    have hXl : X.length = N := by rw [hX, List.length_take]; omega
    have hXc : List.take N (cB u) = cB X := by rw [hX, cB_take]
    have hZc : List.take (u.length - N) (List.drop N (cB u)) = cB (u.drop N) := by
      rw [cB_drop]; exact List.take_of_length_le (by rw [List.length_drop, cB_length]; exact Nat.le_refl _)
    have hbc := bclone_con X (by omega)
    simp only [fB, hXl] at hbc
    have hXI := cB_okI X
    sym =>
    simp [Zaa,Zab,Zac,Zad,Zae,Zaf,Zag,Zak,Zal,Zam,Zao,Zap,Zar,Zaz,Za0,Za1,Za2,Za3,Za4,Za5,Za6,Za7,Za8,Za9,Zba,Zbb,Zbc,Zbd,Zbf,Zbj,Zbt,Zb1,Zb7,Zb9,Zca,Zch,Zci,Zcn,Zcv,Zc3,Zc4,Zc7,Zc8,Zc9,Zdc,Zdd,Zde,Zdf,Zdg,Zdh,Zdi,Zdj,Zdl,Zdm,Zdo,Zdp,Zdt,Zdu,Zdv,Zdw,Zdx,Zdy,Zdz,Zd0,Zd1,Zd2,Zd3,Zeb,Zeh,Zei,Zek,Zen,Zeq,Zer,Zes,Zet,Zev,Zew,Zex,Zez,Ze0,Ze1,Ze2,Ze3,Ze5,Zfc,Zfd,Zfe,Zfh,Zfi,Zfj,Zfl,Zfn,Zfz,Zf1,Zf3,Zgd,Zgg,Zgr,Zgu,Zg4,Zg6,Zhb,Zhc,Zhd,Zhe,Zhf,Zhg,Zhh,Zhm,Zhn,Zho,Zhs,Zht,Zhu,Zh6,Zh7,Zin,Ziu,Ziv,Ziw,Zi6,Zi7,Zje,Zjg,Zjh,Zji,Zjn,Zjq,Zj2,Zka,Zkl,Zky,Zk0,Zk2,Zk4,Zla,Zlb,Zle,Zll,Zlz,Zl0,Zl1,Zl2,Zmk,Zmt,Zmv,Zmw,Zmx,Zmy,Zmz,Zm0,Zm1,Zm3,Zm5,Zm6,Zm7,Zm9,Zna,Znb,Znc,Znd,Zne,Znf,Zng,Znh,Znn,Zno,Znp,Znr,Zns,Znt,Znu,Znw,Znx,Zny,Zn5,Zof,Zog,Zoh,Zrd,Zos,Zot,Zov,Zo3,Zo4,Zo6,Zo7,Zo8,Zo9,Zpa,Zpb,Zph,Zpv,Zpw,Zpy,Zp1,Zp2,Zp7,Zp9,Zqb,Zqc,Zqd,Zqe,List.length_drop,eq_self,true_and,and_true,Nat.zero_add,Nat.mul_one,Nat.sub_zero,g1',gz,g3,hXc,callable_47]
    tactic =>
    and_intros <;> try (first | omega | rfl | assumption | simp only [IN]; omega)
    refine cl (some ⟨cB X, 1, 0⟩) hbc ⟨rfl, hXI⟩ ?_
    sym =>
    simp [Zaa,Zab,Zac,Zad,Zae,Zaf,Zag,Zak,Zal,Zam,Zao,Zap,Zar,Zaz,Za0,Za1,Za2,Za3,Za4,Za5,Za6,Za7,Za8,Za9,Zba,Zbb,Zbc,Zbd,Zbf,Zbj,Zbt,Zb1,Zb7,Zb9,Zca,Zch,Zci,Zcn,Zcv,Zc3,Zc4,Zc7,Zc8,Zc9,Zdc,Zdd,Zde,Zdf,Zdg,Zdh,Zdi,Zdj,Zdl,Zdm,Zdo,Zdp,Zdt,Zdu,Zdv,Zdw,Zdx,Zdy,Zdz,Zd0,Zd1,Zd2,Zd3,Zeb,Zeh,Zei,Zek,Zen,Zeq,Zer,Zes,Zet,Zev,Zew,Zex,Zez,Ze0,Ze1,Ze2,Ze3,Ze5,Zfc,Zfd,Zfe,Zfh,Zfi,Zfj,Zfl,Zfn,Zfz,Zf1,Zf3,Zgd,Zgg,Zgr,Zgu,Zg4,Zg6,Zhb,Zhc,Zhd,Zhe,Zhf,Zhg,Zhh,Zhm,Zhn,Zho,Zhs,Zht,Zhu,Zh6,Zh7,Zin,Ziu,Ziv,Ziw,Zi6,Zi7,Zje,Zjg,Zjh,Zji,Zjn,Zjq,Zj2,Zka,Zkl,Zky,Zk0,Zk2,Zk4,Zla,Zlb,Zle,Zll,Zlz,Zl0,Zl1,Zl2,Zmk,Zmt,Zmv,Zmw,Zmx,Zmy,Zmz,Zm0,Zm1,Zm3,Zm5,Zm6,Zm7,Zm9,Zna,Znb,Znc,Znd,Zne,Znf,Zng,Znh,Znn,Zno,Znp,Znr,Zns,Znt,Znu,Znw,Znx,Zny,Zn5,Zof,Zog,Zoh,Zrd,Zos,Zot,Zov,Zo3,Zo4,Zo6,Zo7,Zo8,Zo9,Zpa,Zpb,Zph,Zpv,Zpw,Zpy,Zp1,Zp2,Zp7,Zp9,Zqb,Zqc,Zqd,Zqe,List.length_drop,eq_self,true_and,and_true,Nat.zero_add,Nat.mul_one,Nat.sub_zero,hZc]
    tactic =>
    refine ⟨⟨by omega, Nat.le_refl _⟩, endA ?_⟩
    have hnt : (IN N).toNat = N := rfl
    rw [← hX]
    sym =>
    simp [Zaa,Zab,Zac,Zad,Zae,Zaf,Zag,Zak,Zal,Zam,Zao,Zap,Zar,Zaz,Za0,Za1,Za2,Za3,Za4,Za5,Za6,Za7,Za8,Za9,Zba,Zbb,Zbc,Zbd,Zbf,Zbj,Zbt,Zb1,Zb7,Zb9,Zca,Zch,Zci,Zcn,Zcv,Zc3,Zc4,Zc7,Zc8,Zc9,Zdc,Zdd,Zde,Zdf,Zdg,Zdh,Zdi,Zdj,Zdl,Zdm,Zdo,Zdp,Zdt,Zdu,Zdv,Zdw,Zdx,Zdy,Zdz,Zd0,Zd1,Zd2,Zd3,Zeb,Zeh,Zei,Zek,Zen,Zeq,Zer,Zes,Zet,Zev,Zew,Zex,Zez,Ze0,Ze1,Ze2,Ze3,Ze5,Zfc,Zfd,Zfe,Zfh,Zfi,Zfj,Zfl,Zfn,Zfz,Zf1,Zf3,Zgd,Zgg,Zgr,Zgu,Zg4,Zg6,Zhb,Zhc,Zhd,Zhe,Zhf,Zhg,Zhh,Zhm,Zhn,Zho,Zhs,Zht,Zhu,Zh6,Zh7,Zin,Ziu,Ziv,Ziw,Zi6,Zi7,Zje,Zjg,Zjh,Zji,Zjn,Zjq,Zj2,Zka,Zkl,Zky,Zk0,Zk2,Zk4,Zla,Zlb,Zle,Zll,Zlz,Zl0,Zl1,Zl2,Zmk,Zmt,Zmv,Zmw,Zmx,Zmy,Zmz,Zm0,Zm1,Zm3,Zm5,Zm6,Zm7,Zm9,Zna,Znb,Znc,Znd,Zne,Znf,Zng,Znh,Znn,Zno,Znp,Znr,Zns,Znt,Znu,Znw,Znx,Zny,Zn5,Zof,Zog,Zoh,Zrd,Zos,Zot,Zov,Zo3,Zo4,Zo6,Zo7,Zo8,Zo9,Zpa,Zpb,Zph,Zpv,Zpw,Zpy,Zp1,Zp2,Zp7,Zp9,Zqb,Zqc,Zqd,Zqe,List.length_drop,eq_self,true_and,and_true,Nat.zero_add,Nat.mul_one,Nat.sub_zero,hXl]
    tactic =>
    exact ⟨by rw [← hXl]; exact (cB_all X).symm, by rw [cB_length, hXl]; exact Nat.le_refl _, hXI⟩
end Go.Proofs.Ytdjjibmjinllnaa.DelG
