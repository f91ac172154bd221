import Derived.Test.YtbmdahhhgpbchaaOeR
import Derived.Test.YtbmdahhhgpbchaaOeA
import Derived.Test.YtbmdahhhgpbchaaCodF
namespace Go.Proofs.Ytbmdahhhgpbchaa.OeS
open Go Go.Sim Go.Sim.E Go.RowKit Go.Proofs Go.Proofs.Ytbmdahhhgpbchaa.Cod Go.Proofs.Ytbmdahhhgpbchaa.Tab Go.Proofs.Ytbmdahhhgpbchaa.Bse Go.Proofs.Ytbmdahhhgpbchaa.SpnP Go.Proofs.Ytbmdahhhgpbchaa.SwA Go.Proofs.Ytbmdahhhgpbchaa.SwB Go.Proofs.Ytbmdahhhgpbchaa.SwC Go.Proofs.Ytbmdahhhgpbchaa.SwS Go.Proofs.Ytbmdahhhgpbchaa.SwD Go.Proofs.Ytbmdahhhgpbchaa.SwF Go.Proofs.Ytbmdahhhgpbchaa.SwG Go.Proofs.Ytbmdahhhgpbchaa.SwL Go.Proofs.Ytbmdahhhgpbchaa.ObA Go.Proofs.Ytbmdahhhgpbchaa.ObB Go.Proofs.Ytbmdahhhgpbchaa.ObC Go.Proofs.Ytbmdahhhgpbchaa.OeP Go.Proofs.Ytbmdahhhgpbchaa.OeQ Go.Proofs.Ytbmdahhhgpbchaa.OeR Go.Proofs.Ytbmdahhhgpbchaa.OeA
set_option linter.unusedVariables false
set_option linter.unusedSimpArgs false
set_option maxRecDepth 100000
set_option maxHeartbeats 4000000
def i5 (src : List Int) (t : Int) (k : Nat) (q : St) : Prop := ∃ (i c : Nat) (s o : List Rg) (T : Tm), i + k = 1000 ∧ c ≤ i ∧ EInv t k s o T c ∧
  q = ⟨[(0, fB src), (3, .pt 0 0), (5, I (IN c)), (21, I (IN i))], [(0, ⟨oC src t s o T, 1, 0⟩)], 1⟩
theorem ends_con (src : List Int) : Con Try.prog 5 [] [fB src] [] (Bo true) := by
  refine con_j b5 rfl ?_
  by_cases h1 : (3000 : Int) < IN src.length
  · sym =>
    simp [Zab,Zad,Zae,Zaf,Zal,Zam,Zaz,Za0,Za1,Za2,Za3,Za4,Za5,Za9,Zba,Zbb,Zbf,Zcn,Zdc,Zdd,Zde,Zev,Zew,Zez,Ze0,Ze2,Ze5,Zfd,Zfe,Zfh,Zfn,Zf3,Zh6,Zh7,Zla,Zna,Znb,Zne,Znf,Zos,Zot,Zo7,Zo8,eq_self,true_and,h1,callable_30]
    tactic =>
    refine cl none (alive_con) trivial ?_
    sym =>
    simp [Zak,Zam,Zao,Zaz,Za0,Za1,Za2,Za3,Za4,Za5,Za9,Zba,Zbb,Zdi,Zev,Zez,Ze0,Ze2,Zfd,Zfe,Zfh,Zjw,Zlz,Zmt,Zmv,Zmw,Zmx,Zmz,Zm2,Zo7,eq_self,true_and]
    tactic =>
    refine endA ?_
    sym =>
    simp [Zpc,eq_self]
  have h3 : src.length ≤ 3000 := by simp only [IN] at h1; omega
  have hp : plF (IN src.length) 0 = true := by rw [plF_iff]; exact ⟨Int.le_refl _, by simp only [IN]; omega, .inl rfl⟩
  have hnew := bnew_con src 0 (by omega) hp
  obtain ⟨t, et⟩ : ∃ t, t = IN src.length := ⟨_, rfl⟩
  have ht3 : 0 ≤ t ∧ t ≤ 3000 := by rw [et]; simp only [IN]; omega
  have ht2 : 0 ≤ t ∧ t ≤ 20000 := by omega
  have ht : 0 ≤ t ∧ t ≤ 1099511627776 := by omega
  rw [← et, show addS [] 0 0 = [] from by decide] at hnew
  have h0 := EInv.start ht3
  sym =>
  simp [Zaa,Zab,Zad,Zae,Zaf,Zal,Zam,Zaz,Za0,Za1,Za2,Za3,Za4,Za5,Za9,Zba,Zbb,Zbf,Zcn,Zdm,Zrj,Zrl,Zrm,Zrn,Zro,Zrq,Zrr,Zva,Zru,Zrx,Zry,Zrz,Zr2,Zr5,Zsf,Zsh,Zsj,Zev,Zew,Zez,Ze0,Ze2,Ze5,Zfd,Zfe,Zfh,Zfn,Zf3,Zh6,Zh7,Zlj,Zll,Zm9,Zna,Znb,Zne,Znf,Zng,Zos,Zot,Zo7,Zo9,eq_self,true_and,and_true,h1,callable_31]
  tactic =>
  refine clG [] none hnew rfl ⟨trivial, trivial, rfl⟩ ?_
  generalize tmF t [] oneT = T0 at *
  sym =>
  simp [Zaa,Zab,Zad,Zae,Zaf,Zag,Zah,Zal,Zam,Zay,Zaz,Za0,Za1,Za2,Za3,Za4,Za5,Za9,Zba,Zbb,Zbf,Zb7,Zcv,Zc3,Zrp,Zsm,Zsn,Zso,Zsr,Zs0,Zs7,Zta,Ztf,Ztg,Zev,Zew,Zez,Ze0,Ze1,Ze2,Ze3,Ze5,Zfc,Zfd,Zfe,Zfh,Zfn,Zf0,Zhb,Zhc,Zin,Ziu,Ziv,Ziw,Zi6,Zjh,Zji,Zjn,Zjs,Zj7,Zl2,Zm9,Zna,Znb,Znf,Zng,Znn,Zno,Znp,Zo3,Zo7,Zo8,eq_self,true_and,and_true]
  tactic =>
  refine lpA (i5 src t) 1000 [(0, 9)] _ ⟨0, 0, [], [], T0, rfl, Nat.le_refl _, h0, rfl⟩ (wkA ?_) ?_
  · unfold oC
    sym =>
    simp [Za2,Zez,Zfc,Zna,Znr,Zn5,Zpa,Zpc,Zpg,Zpi,Zpu,Zqb,Zqc,Zqf,Zqg,Zqh,Zqi,Zqk,Zql,Zqm,Zqn,eq_self,and_true]
  clear h0 hnew
  rintro k q ⟨i, c, s, o, T, hi, hci, hE, rfl⟩
  unfold oC
  have hs := hE.1
  have ho := hE.2.1
  have hT := hE.2.2.1
  have bs := hs.base ht.1
  have ls := hs.len ht2
  by_cases h : i < 1000
  · obtain ⟨k, rfl⟩ : ∃ k', k = k' + 1 := ⟨k - 1, by omega⟩
    have hI : IN i < 1000 := by simp only [IN]; omega
    have hw := w64s i (by omega)
    sym =>
    simp [Zaa,Zab,Zad,Zae,Zaf,Zag,Zal,Zam,Zay,Za0,Za1,Za2,Za3,Za4,Za5,Za9,Zba,Zbf,Zbt,Zdc,Zdd,Zde,Zev,Zew,Zez,Ze0,Ze2,Ze5,Ze8,Zfc,Zfd,Zfe,Zfn,Zf1,Zgr,Zgs,Zgt,Zla,Zlb,Zlc,Zld,Zle,Zlf,Zlh,Zlk,Zlm,Zm5,Zm7,Zm9,Zna,Znb,Zne,Znf,Zng,Zo7,Zo8,List.length_drop,eq_self,true_and,and_true,hI,callable_32]
    tactic =>
    refine cl none (poll_con src s o T t et (by omega) hs ho _ rfl) trivial ?_
    have pok := poll_ok (s := s) (b := endF (lim 0) s) ht 9 o ho
    have pln := poll_len (s := s) ht bs.1 ho 9
    by_cases hz : (pollF t s (endF (lim 0) s) 9 o).1 = []
    · have hE2 := hE.none ht hz
      generalize pollF t s (endF (lim 0) s) 9 o = R at *
      have hzl : R.1.length = 0 := by rw [hz]; rfl
      sym =>
      simp [Zaa,Zab,Zad,Zae,Zaf,Zal,Zam,Zaz,Za0,Za1,Za2,Za3,Za4,Za5,Za9,Zba,Zbb,Zbf,Zbt,Zb7,Zcn,Zcv,Zc3,Zdc,Zdd,Zde,Zdi,Zev,Zew,Zez,Ze0,Ze1,Ze2,Ze3,Ze5,Ze8,Zfc,Zfd,Zfe,Zfh,Zfn,Zf3,Zgr,Zgs,Zgt,Zhb,Zhc,Zh6,Zh7,Zin,Ziu,Ziv,Ziw,Zi6,Zjh,Zji,Zjn,Zjs,Zj7,Zka,Zkx,Zky,Zk0,Zk1,Zla,Zlb,Zlc,Zld,Zle,Zlf,Zlh,Zlk,Zlm,Zlz,Zl2,Zm5,Zm7,Zm9,Zna,Znb,Zne,Znf,Zng,Znn,Zno,Znp,Zn5,Zo7,Zo9,eq_self,true_and,and_true,hzl,callable_35]
      tactic =>
      refine cl none (btick_con src t s R.2 T hT) trivial ?_
      sym =>
      simp [Zab,Zam,Zap,Zav,Zaz,Za0,Za1,Za2,Za3,Za4,Za5,Za9,Zba,Zbb,Zbf,Zb7,Zc3,Zdi,Zev,Zew,Zez,Ze0,Ze1,Ze2,Ze3,Ze5,Zfc,Zfd,Zfe,Zfh,Zfn,Zfq,Zhb,Zhc,Ziu,Ziv,Ziw,Zi6,Zjh,Zji,Zjn,Zjs,Zj7,Zka,Zkx,Zky,Zk0,Zk1,Zlz,Zl2,Zm9,Zna,Znb,Znn,Zno,Znp,Zo7,eq_self,true_and,and_true,hw]
      tactic =>
      unfold NextL; refine ⟨k, [(0, 0)], _, by omega, ⟨i + 1, c, _, _, _, by omega, by omega, hE2, rfl⟩, wkA ?_⟩
      unfold oC
      sym =>
      simp [Za2,Zez,Zfc,Znr,Zpa,Zpc,Zpg,Zpi,Zpu,Zqb,Zqc,Zqf,Zqg,Zqh,Zqi,Zqk,Zql,Zqm,Zqn,eq_self,and_true]
    · obtain ⟨n, hn⟩ : ∃ n, (pollF t s (endF (lim 0) s) 9 o).1.length = n + 1 := ⟨(pollF t s (endF (lim 0) s) 9 o).1.length - 1, by
        have : (pollF t s (endF (lim 0) s) 9 o).1.length ≠ 0 := fun h0 => hz (List.length_eq_zero_iff.1 h0)
        omega⟩
      have hlt : n < (pollF t s (endF (lim 0) s) 9 o).1.length := by omega
      have hym : (pollF t s (endF (lim 0) s) 9 o).1[n] ∈ (pollF t s (endF (lim 0) s) 9 o).1 := List.getElem_mem hlt
      have p0 := cP_q0 src (pollF t s (endF (lim 0) s) 9 o).1 n hlt
      have p1 := cP_q1 src (pollF t s (endF (lim 0) s) 9 o).1 n hlt
      have hev := fun hc => hE.even ht hz hc
      have hod := fun hc O hO => hE.odd ht2 hym hc O hO
      have pok1 := pok.1
      obtain ⟨v1, v2, v3, v4⟩ := pok.2 _ hym
      generalize hy : (pollF t s (endF (lim 0) s) 9 o).1[n] = y at *
      clear hym pok hz hy hE
      generalize hbb : endF (lim 0) s = b at *
      generalize pollF t s b 9 o = R at *
      have g0 : ¬ n + 1 = 0 := by omega
      have g00 : 0 < n + 1 := by omega
      have hm1 : IntKind.i64.wrap (IN (n + 1) - 1) = IN n := by simp only [IN]; rw [w64 _ (by omega)]; omega
      have hnl : n + 1 ≤ R.1.length := by omega
      have hpl : (pc src y).length = y.2.toNat - y.1.toNat := by
        simp only [pc, List.length_take, List.length_drop]
        simp only [IN] at et
        omega
      have hpn : IN (pc src y).length = y.2 - y.1 := by rw [hpl]; simp only [IN]; omega
      have u2 : IntKind.i64.wrap (y.1 + (y.2 - y.1)) = y.2 := by rw [w64 _ (by omega)]; omega
      have hwc := w64s c (by omega)
      have hcn : (0 : Int) ≤ IN c := by simp only [IN]; omega
      by_cases hc : c % 2 = 1
      · have hc2 : Int.tmod (IN c) (2 : Int) = 1 := by rw [Int.tmod_eq_emod_of_nonneg hcn]; simp only [IN]; omega
        obtain ⟨k1, k2, _⟩ := ac_ok b [y] ht hs pok1
        have hE2 := hod hc _ k2
        sym =>
        simp [Zab,Zac,Zad,Zae,Zaf,Zal,Zam,Zaz,Za0,Za1,Za2,Za3,Za4,Za5,Za9,Zba,Zbb,Zbf,Zbt,Zbu,Zb1,Zb7,Zcn,Zcv,Zc3,Zc7,Zc8,Zdf,Zdg,Zdh,Zdi,Zdp,Zdt,Zdu,Zdv,Zdw,Zdx,Zdy,Zdz,Zd0,Zd1,Zd3,Zec,Zek,Zen,Zeq,Zer,Zes,Zet,Zev,Zew,Zez,Ze0,Ze1,Ze2,Ze3,Ze5,Ze8,Zfc,Zfd,Zfe,Zfh,Zfn,Zfr,Zfu,Zfz,Zf3,Zgr,Zgs,Zgt,Zgu,Zg4,Zg6,Zhb,Zhc,Zho,Zh6,Zh7,Zin,Ziu,Ziv,Ziw,Zi6,Zjh,Zji,Zjn,Zjs,Zj7,Zka,Zkx,Zky,Zk0,Zk1,Zla,Zlb,Zlc,Zld,Zle,Zlf,Zlh,Zlk,Zlm,Zlz,Zl2,Zm5,Zm7,Zm9,Zna,Znb,Zne,Znf,Zng,Znn,Zno,Znp,Zns,Znt,Znw,Znx,Zoh,Zo7,Zo8,eq_self,true_and,and_true,hn,g0,g00,hm1,p0,p1,cP_length,hc2,callable_34]
        tactic =>
        refine ⟨⟨by omega, by omega⟩, by omega, ?_⟩
        refine cl none (base_con' src t s R.2 T (by omega)) trivial ?_
        rw [hbb]
        sym =>
        simp [Za2,Za3,Zbg,Zbu,Zbw,Zca,Zco,Zc0,Zc7,Zc8,Zc9,Zdf,Zdg,Zdh,Zdj,Zdk,Zdp,Zdt,Zdu,Zdv,Zdw,Zdx,Zdy,Zdz,Zd0,Zd1,Zd2,Zd3,Zeb,Zec,Zeh,Zek,Zen,Zeq,Zer,Zes,Zet,Zev,Zew,Zez,Ze0,Ze2,Ze3,Ze5,Ze8,Zfc,Zfd,Zfe,Zfn,Zfq,Zgr,Zgs,Zgt,Zgv,Zgw,Zgx,Zhd,Zhe,Zhf,Zhg,Zhh,Zh6,Zh7,Ziq,Zir,Zi6,Zi7,Zjl,Zjm,Zjp,Zjr,Zla,Zlb,Zlc,Zld,Zle,Zlf,Zlh,Zlj,Zlk,Zlm,Zlt,Zlx,Zlz,Zm6,Zm9,Zna,Znb,Znc,Zne,Znf,Zng,Znh,Znl,Znm,Znn,Zno,Znp,Zo7,eq_self,true_and,and_true,Nat.zero_add,hpn,u2,callable_33]
        tactic =>
        refine cl none (back_con src t s R.2 T b [y] ht2 hs pok1 (by simp)) trivial ?_
        sym =>
        simp [Zab,Zam,Zaz,Za0,Za1,Za2,Za3,Za4,Za5,Za9,Zba,Zbb,Zbc,Zbf,Zbt,Zb8,Zc4,Zc7,Zc8,Zc9,Zdc,Zdd,Zde,Zdj,Zdk,Zdm,Zdn,Zdo,Zdp,Zdt,Zdu,Zdv,Zdw,Zdx,Zdy,Zd0,Zd1,Zd3,Zec,Zek,Zen,Zep,Zer,Zes,Zev,Zew,Zez,Ze0,Ze1,Ze2,Ze3,Ze5,Ze8,Zfc,Zfd,Zfe,Zfh,Zfn,Zfq,Zgr,Zgs,Zgt,Zhb,Zhc,Ziu,Ziv,Ziw,Zi6,Zjh,Zji,Zjn,Zjs,Zj7,Zka,Zkx,Zky,Zk0,Zk1,Zla,Zlb,Zlc,Zld,Zle,Zlf,Zlh,Zlk,Zlm,Zlz,Zl2,Zl3,Zl4,Zm5,Zm7,Zm9,Zna,Znb,Zne,Znf,Zng,Znn,Zno,Znp,Zo7,eq_self,true_and,and_true,hwc,callable_35]
        tactic =>
        refine cl none (btick_con src t (acS t s b [y]) (acO t s R.2 b [y]) (acT t s b [y] T) (TOk.timed (by split; exact hT.again; exact hT))) trivial ?_
        sym =>
        simp [Zab,Zam,Zap,Zav,Zaz,Za0,Za1,Za2,Za3,Za4,Za5,Za9,Zba,Zbb,Zbf,Zb7,Zc3,Zdi,Zev,Zew,Zez,Ze0,Ze1,Ze2,Ze3,Ze5,Zfc,Zfd,Zfe,Zfh,Zfn,Zfq,Zhb,Zhc,Ziu,Ziv,Ziw,Zi6,Zjh,Zji,Zjn,Zjs,Zj7,Zka,Zkx,Zky,Zk0,Zk1,Zlz,Zl2,Zm9,Zna,Znb,Znn,Zno,Znp,Zo7,eq_self,true_and,and_true,hw]
        tactic =>
        unfold NextL; refine ⟨k, [(0, 0)], _, by omega, ⟨i + 1, c + 1, _, _, _, by omega, by omega, hE2, rfl⟩, wkA ?_⟩
        unfold oC
        sym =>
        simp [Za2,Zez,Zfc,Znr,Zpa,Zpc,Zpg,Zpi,Zpu,Zqb,Zqc,Zqf,Zqg,Zqh,Zqi,Zqk,Zql,Zqm,Zqn,eq_self,and_true]
      · have hc2 : ¬ Int.tmod (IN c) (2 : Int) = 1 := by rw [Int.tmod_eq_emod_of_nonneg hcn]; simp only [IN]; omega
        have hE2 := hev (by omega)
        sym =>
        simp [Zaa,Zab,Zad,Zae,Zaf,Zal,Zam,Zaz,Za0,Za1,Za2,Za3,Za4,Za5,Za9,Zba,Zbb,Zbf,Zbt,Zb1,Zb7,Zcn,Zcv,Zc3,Zdc,Zdd,Zde,Zdi,Zev,Zew,Zez,Ze0,Ze1,Ze2,Ze3,Ze5,Ze8,Zfc,Zfd,Zfe,Zfh,Zfn,Zfq,Zfr,Zfu,Zfz,Zf3,Zgr,Zgs,Zgt,Zgu,Zg4,Zg6,Zhb,Zhc,Zho,Zh6,Zh7,Zin,Ziu,Ziv,Ziw,Zi6,Zjh,Zji,Zjn,Zjs,Zj7,Zka,Zkx,Zky,Zk0,Zk1,Zla,Zlb,Zlc,Zld,Zle,Zlf,Zlh,Zlk,Zlm,Zlz,Zl2,Zm5,Zm7,Zm9,Zna,Znb,Zne,Znf,Zng,Znn,Zno,Znp,Zns,Znt,Znw,Znx,Zoh,Zo7,Zo8,Zo9,eq_self,true_and,and_true,hn,g0,g00,hm1,p0,p1,cP_length,hc2,hwc,callable_35]
        tactic =>
        refine ⟨⟨by omega, by omega⟩, by omega, ?_⟩
        refine cl none (btick_con src t s R.2 T hT) trivial ?_
        sym =>
        simp [Zab,Zam,Zap,Zav,Zaz,Za0,Za1,Za2,Za3,Za4,Za5,Za9,Zba,Zbb,Zbf,Zb7,Zc3,Zdi,Zev,Zew,Zez,Ze0,Ze1,Ze2,Ze3,Ze5,Zfc,Zfd,Zfe,Zfh,Zfn,Zfq,Zhb,Zhc,Ziu,Ziv,Ziw,Zi6,Zjh,Zji,Zjn,Zjs,Zj7,Zka,Zkx,Zky,Zk0,Zk1,Zlz,Zl2,Zm9,Zna,Znb,Znn,Zno,Znp,Zo7,eq_self,true_and,and_true,hw]
        tactic =>
        unfold NextL; refine ⟨k, [(0, 0)], _, by omega, ⟨i + 1, c + 1, _, _, _, by omega, by omega, hE2, rfl⟩, wkA ?_⟩
        unfold oC
        sym =>
        simp [Za2,Zez,Zfc,Znr,Zpa,Zpc,Zpg,Zpi,Zpu,Zqb,Zqc,Zqf,Zqg,Zqh,Zqi,Zqk,Zql,Zqm,Zqn,eq_self,and_true]
  · have hI : ¬ IN i < 1000 := by simp only [IN]; omega
    obtain rfl : k = 0 := by omega
    obtain ⟨z1, z2⟩ := hE.zero ht.1
    have hd := hs.done ht.1
    have hl := hs.left ht
    have hd2 := bdone_con src t s o T (by omega)
    rw [decide_eq_true (show lfF t s = 0 by rw [hl]; exact hd.2 z1)] at hd2
    have hb2 := base_con' src t s o T (by omega)
    rw [z1] at hb2
    have hw2 := wait_con src t s o T
    rw [show T.2.1 = 0 from by rw [z2]; rfl] at hw2
    have he : t = IN src.length := et
    sym =>
    simp [Zab,Zad,Zae,Zaf,Zai,Zam,Zan,Zaq,Zaw,Zay,Za4,Za5,Za9,Zba,Zbf,Zbt,Zdc,Zdd,Zde,Zev,Zew,Zez,Ze0,Ze2,Ze5,Ze8,Zfc,Zfd,Zfe,Zfn,Zf1,Zgr,Zgs,Zgt,Zla,Zlb,Zlc,Zld,Zle,Zlf,Zlh,Zlk,Zlm,Zm5,Zm7,Zm9,Zna,Znb,Zne,Znf,Zng,Zo7,Zo9,eq_self,true_and,and_true,hI,callable_36]
    tactic =>
    refine cl none (hd2) trivial ?_
    sym =>
    simp [Za5,Za6,Za7,Za9,Zba,Zbb,Zbt,Zdc,Zdd,Zde,Zdi,Zev,Zew,Zex,Zez,Ze0,Ze2,Ze5,Ze8,Zfc,Zfd,Zfe,Zfh,Zgr,Zgs,Zgt,Zjw,Zla,Zlb,Zlc,Zld,Zle,Zlf,Zlh,Zlk,Zlm,Zlz,Zm5,Zm7,Zm9,Zna,Znb,Zne,Znf,Zng,eq_self,true_and,and_true,callable_34]
    tactic =>
    refine cl none (hb2) trivial ?_
    sym =>
    simp [Za5,Za6,Za7,Za9,Zba,Zbb,Zbd,Zbf,Zbt,Zcn,Zdc,Zdd,Zde,Zdi,Zev,Zew,Zex,Zez,Ze0,Ze2,Ze5,Ze8,Zfc,Zfd,Zfe,Zfh,Zfi,Zfl,Zfn,Zfz,Zgr,Zgs,Zgt,Zh6,Zh7,Zjr,Zla,Zlb,Zlc,Zld,Zle,Zlf,Zlh,Zlk,Zlm,Zlz,Zm5,Zm7,Zm9,Zna,Znb,Zne,Znf,Zng,Zo8,eq_self,true_and,and_true,he,callable_37]
    tactic =>
    rw [he] at hw2
    refine cl none (hw2) trivial ?_
    sym =>
    simp [Za5,Za6,Za7,Za9,Zba,Zbb,Zbd,Zbf,Zdc,Zdd,Zde,Zdi,Zev,Zew,Zex,Zez,Ze0,Ze2,Zfd,Zfe,Zfh,Zfi,Zfl,Zfn,Zfz,Zjr,Zla,Zlz,Zne,Znf,Zo8,eq_self,true_and,callable_30]
    tactic =>
    refine cl none (alive_con) trivial ?_
    sym =>
    simp [Zak,Zam,Zaz,Za0,Za1,Za2,Za3,Za4,Za5,Za9,Zba,Zbb,Zbd,Zdi,Zev,Zew,Zez,Ze0,Ze2,Zfd,Zfe,Zfh,Zfi,Zfl,Zjw,Zlz,Zmt,Zmv,Zmw,Zmx,Zmz,Zm2,Zo7,eq_self,true_and]
    tactic =>
    refine endA ?_
    sym =>
    simp [Zpc,eq_self]
theorem ends_law (src : List Int) : Con Try.prog 5 [] [.fz src.length (src.flatMap fun n : Int => [AV.sc (.int .u8 n)])] [] (Bo true) := by
  rw [flat_cB]
  exact ends_con src
end Go.Proofs.Ytbmdahhhgpbchaa.OeS
