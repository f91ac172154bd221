import Derived.Test.YtbmdahhhgpbchaaOpD
namespace Go.Proofs.Ytbmdahhhgpbchaa.OpE
open Go Go.Sim Go.Sim.E Go.RowKit Go.Proofs Go.Proofs.Ytbmdahhhgpbchaa.Cod Go.Proofs.Ytbmdahhhgpbchaa.Tab Go.Proofs.Ytbmdahhhgpbchaa.Bse Go.Proofs.Ytbmdahhhgpbchaa.SpnP Go.Proofs.Ytbmdahhhgpbchaa.SwA Go.Proofs.Ytbmdahhhgpbchaa.SwB Go.Proofs.Ytbmdahhhgpbchaa.SwC Go.Proofs.Ytbmdahhhgpbchaa.SwS Go.Proofs.Ytbmdahhhgpbchaa.SwD Go.Proofs.Ytbmdahhhgpbchaa.SwF Go.Proofs.Ytbmdahhhgpbchaa.SwG Go.Proofs.Ytbmdahhhgpbchaa.SwL Go.Proofs.Ytbmdahhhgpbchaa.ObA Go.Proofs.Ytbmdahhhgpbchaa.ObB Go.Proofs.Ytbmdahhhgpbchaa.ObC Go.Proofs.Ytbmdahhhgpbchaa.OeP Go.Proofs.Ytbmdahhhgpbchaa.OeQ Go.Proofs.Ytbmdahhhgpbchaa.OeA Go.Proofs.Ytbmdahhhgpbchaa.OpA Go.Proofs.Ytbmdahhhgpbchaa.OpB Go.Proofs.Ytbmdahhhgpbchaa.OpC Go.Proofs.Ytbmdahhhgpbchaa.OpD
set_option linter.unusedVariables false
set_option linter.unusedSimpArgs false
set_option maxRecDepth 100000
set_option maxHeartbeats 4000000
theorem rmay_con (T : Tm) (h : TOk T) : Con Try.prog 114 [] [tV T] [] (Bo true) := by
  obtain ⟨o, w, l⟩ := T
  rcases h with ⟨a, b, c⟩ | ⟨a, b, c, d⟩ <;> simp only at a b c
  · subst a; subst b; subst c
    refine con_j b114 rfl ?_
    sym =>
    simp [Zab,Zad,Zae,Zaf,Zak,Zal,Zam,Zao,Zaz,Za0,Za1,Za2,Za3,Za4,Za5,Za6,Za7,Za9,Zba,Zbb,Zbd,Zbf,Zbj,Zbt,Zbv,Zcx,Zev,Zew,Zex,Zez,Ze0,Ze2,Ze3,Ze5,Ze8,Zfc,Zfd,Zfe,Zfh,Zfi,Zfl,Zfn,Zfz,Zgd,Zgg,Zgr,Zgs,Zgt,Zgv,Zgw,Zgx,Zio,Zip,Zi6,Zmt,Zmv,Zmw,Zmx,Zmz,Zm2,Zm6,Zm9,Zna,Znb,Zof,Zog,Zos,Zot,Zo4,Zo7,Zo8,eq_self,true_and]
    tactic =>
    refine endA ?_
    sym =>
    simp [Zpc,eq_self]
  · simp only at d
    subst a
    have e : 1 ≤ w := by omega
    refine con_j b114 rfl ?_
    sym =>
    simp [Zaa,Zab,Zad,Zae,Zaf,Zak,Zal,Zam,Zaz,Za0,Za1,Za2,Za3,Za4,Za5,Za6,Za7,Za9,Zba,Zbb,Zbd,Zbf,Zbj,Zbt,Zbv,Zcx,Zev,Zew,Zex,Zez,Ze0,Ze2,Ze3,Ze5,Ze8,Zfc,Zfd,Zfe,Zfh,Zfi,Zfl,Zfn,Zf2,Zf4,Zgd,Zgg,Zgr,Zgs,Zgt,Zgv,Zgw,Zgx,Zio,Zip,Zi6,Zmt,Zmv,Zmw,Zmx,Zmz,Zm2,Zm6,Zm9,Zna,Znb,Zof,Zog,Zos,Zot,Zo3,Zo7,Zo8,eq_self,true_and,b,c,d,e]
    tactic =>
    refine endA ?_
    sym =>
    simp [Zpc,eq_self]
theorem rtk_con (T : Tm) (h : TOk T) : Con Try.prog 81 [] [tV T] [] (.tu [tV (tkF T).1, Bo (tkF T).2]) := by
  have hm := rmay_con T h
  obtain ⟨o, w, l⟩ := T
  rcases h with ⟨a, b, c⟩ | ⟨a, b, c, d⟩ <;> simp only at a b c
  · subst a; subst b; subst c
    refine con_j b81 rfl ?_
    sym =>
    simp [Zab,Zad,Zae,Zaf,Zak,Zal,Zam,Zao,Zaz,Za0,Za1,Za2,Za3,Za4,Za5,Za6,Za7,Za8,Za9,Zba,Zbb,Zbd,Zbj,Zbt,Zbv,Zcv,Zcx,Zc3,Zev,Zew,Zex,Zez,Ze0,Ze1,Ze2,Ze3,Ze5,Ze8,Zfc,Zfd,Zfe,Zfh,Zfi,Zfj,Zgd,Zgg,Zgr,Zgs,Zgt,Zgv,Zgw,Zgx,Zin,Zio,Zip,Ziu,Ziv,Ziw,Zi6,Zjh,Zji,Zjn,Zjs,Zmt,Zmv,Zmw,Zmx,Zmy,Zmz,Zm0,Zm1,Zm3,Zm5,Zm6,Zm7,Zm9,Zna,Znb,Znn,Zno,Znp,Zof,Zog,Zos,Zot,Zo4,Zo6,Zo7,eq_self,true_and,and_true]
    tactic =>
    refine endA ?_
    unfold tkF
    sym =>
    simp [Zof,Zog,Zpa,Zpb,Zp7,Zp9,Zqb,Zqc,Zqd,Zqe,eq_self,and_true]
  · simp only at d
    subst a
    have w1 : IntKind.i64.wrap (l - 1) = l - 1 := w64 _ (by omega)
    have w2 : IntKind.i64.wrap (2 * w) = w + w := by rw [w64 _ (by omega)]; omega
    refine con_j b81 rfl ?_
    sym =>
    simp [Zab,Zad,Zam,Zaz,Za0,Za1,Za2,Za3,Za4,Za5,Za6,Za7,Za9,Zba,Zbb,Zbj,Zbt,Zbv,Zcv,Zcx,Zdc,Zdd,Zde,Zev,Zew,Zex,Zez,Ze0,Ze2,Ze3,Ze5,Ze8,Zfc,Zfd,Zfe,Zfh,Zgd,Zgg,Zgr,Zgs,Zgt,Zgv,Zgw,Zgx,Zin,Zio,Zip,Zi6,Zla,Zlb,Zlc,Zld,Zle,Zlf,Zlh,Zlk,Zm5,Zm6,Zm7,Zm9,Zna,Znb,Zne,Znf,Zng,Zof,Zog,Zos,Zot,Zo3,Zo7,eq_self,true_and,and_true,callable_114]
    tactic =>
    refine cl none (hm) trivial ?_
    by_cases h1 : 1 < l
    · have e : tkF (true, w, l) = ((true, w, l - 1), false) := by simp [tkF, h1]
      rw [e]
      sym =>
      simp [Zaa,Zab,Zad,Zae,Zaf,Zak,Zal,Zam,Zao,Zaz,Za0,Za1,Za2,Za3,Za4,Za5,Za6,Za7,Za9,Zba,Zbb,Zbd,Zbf,Zbj,Zbt,Zbv,Zb9,Zc3,Zdi,Zev,Zew,Zex,Zez,Ze0,Ze1,Ze2,Ze3,Ze5,Ze8,Zfc,Zfd,Zfe,Zfh,Zfi,Zfl,Zfn,Zfr,Zf3,Zgd,Zgg,Zgr,Zgs,Zgt,Zgv,Zgw,Zgx,Zhd,Zhe,Zhf,Zhg,Zhh,Ziu,Ziv,Ziw,Zi6,Zi7,Zi8,Zjh,Zji,Zjn,Zjs,Zjw,Zlz,Zmt,Zmv,Zmw,Zmx,Zmy,Zmz,Zm0,Zm1,Zm3,Zm5,Zm6,Zm7,Zm9,Zna,Znb,Znn,Zno,Znp,Zof,Zog,Zo3,Zo7,Zo8,eq_self,true_and,and_true,w1,h1]
      tactic =>
      refine endA ?_
      sym =>
      simp [Zpa,Zpb,Zp7,Zp9,Zqb,Zqc,Zqd,Zqe,eq_self,and_true]
    · have e : tkF (true, w, l) = ((true, min (w + w) 16, min (w + w) 16), true) := by simp [tkF, h1]
      rw [e]
      sym =>
      simp [Zaa,Zab,Zad,Zae,Zaf,Zak,Zal,Zam,Zaz,Za0,Za1,Za2,Za3,Za4,Za5,Za6,Za7,Za9,Zba,Zbb,Zbd,Zbf,Zbj,Zbt,Zbv,Zb9,Zct,Zc3,Zdi,Zev,Zew,Zex,Zez,Ze0,Ze1,Ze2,Ze3,Ze5,Ze8,Zfc,Zfd,Zfe,Zfh,Zfi,Zfl,Zfn,Zfs,Zf3,Zgd,Zgg,Zgr,Zgs,Zgt,Zgv,Zgw,Zgx,Zhd,Zhe,Zhf,Zhg,Zhh,Zif,Zig,Zik,Zil,Zim,Ziu,Ziv,Ziw,Zi6,Zi7,Zi8,Zjh,Zji,Zjn,Zjs,Zjw,Zlz,Zmt,Zmv,Zmw,Zmx,Zmy,Zmz,Zm0,Zm1,Zm3,Zm5,Zm6,Zm7,Zm9,Zna,Znb,Znf,Zng,Znn,Zno,Znp,Zof,Zog,Zo3,Zo7,Zo9,eq_self,true_and,and_true,w1,w2,h1]
      tactic =>
      refine endA ?_
      sym =>
      simp [Zpa,Zpb,Zp7,Zp9,Zqb,Zqc,Zqd,Zqe,eq_self,and_true]
abbrev rO (src : List Int) (t f : Int) (cm ou : List Int) (T : Tm) : AV := .ag [fB src, I t, I f, fJ cm, fJ ou, Bo T.1, I T.2.1, I T.2.2]
def rtF (t f : Int) (cm : List Int) (T : Tm) : Tm := if lfR t f cm = 0 then offT else T
theorem rtimed_con (src : List Int) (t f : Int) (cm ou : List Int) (T : Tm) (h : RI t f cm ou) : Con Try.prog 79 [] [rO src t f cm ou T] [] (rO src t f cm ou (rtF t f cm T)) := by
  refine con_j b79 rfl ?_
  sym =>
  simp [Zab,Zad,Zam,Zaz,Za0,Za1,Za2,Za3,Za4,Za5,Za9,Zba,Zbt,Zbv,Zcv,Zcx,Zdc,Zdd,Zde,Zev,Zew,Zez,Ze0,Ze2,Ze3,Ze5,Ze8,Zfc,Zfd,Zfe,Zgr,Zgs,Zgt,Zgv,Zgw,Zgx,Zin,Zio,Zip,Zi6,Zla,Zlb,Zlc,Zld,Zle,Zlf,Zlh,Zlk,Zlm,Zm5,Zm7,Zm9,Zna,Znb,Zne,Znf,Zng,Zos,Zot,Zo7,eq_self,true_and,and_true,callable_44]
  tactic =>
  refine cl none (rleft_con t f cm ou h) trivial ?_
  by_cases h0 : lfR t f cm = 0
  · have e : rtF t f cm T = offT := if_pos h0
    rw [e]
    unfold offT
    sym =>
    simp [Zab,Zad,Zae,Zaf,Zak,Zal,Zam,Zaz,Za0,Za1,Za2,Za3,Za4,Za5,Za9,Zba,Zbf,Zbt,Zbv,Zb9,Zc3,Zdi,Zev,Zew,Zez,Ze0,Ze1,Ze2,Ze3,Ze5,Ze8,Zfc,Zfd,Zfe,Zfn,Zfz,Zgr,Zgs,Zgt,Zgv,Zgw,Zgx,Zhd,Zhe,Zhf,Ziu,Ziv,Ziw,Zi6,Zjh,Zji,Zjn,Zjr,Zjs,Zj7,Zlz,Zmt,Zmv,Zmw,Zmy,Zm0,Zm1,Zm2,Zm5,Zm7,Zm9,Zna,Znb,Znn,Zno,Znp,Zof,Zog,Zo7,Zo8,eq_self,true_and,and_true,h0]
    tactic =>
    refine endA ?_
    sym =>
    simp [Zpa,Zpg,Zp8,Zqb,Zqc,eq_self,and_true]
  · have e : rtF t f cm T = T := if_neg h0
    rw [e]
    sym =>
    simp [Zaa,Zab,Zad,Zae,Zaf,Zak,Zal,Zam,Zaz,Za0,Za1,Za2,Za3,Za4,Za5,Za9,Zba,Zbf,Zbt,Zc3,Zdi,Zev,Zew,Zez,Ze0,Ze1,Ze2,Ze3,Ze5,Ze8,Zfc,Zfd,Zfe,Zfn,Zfz,Zgr,Zgs,Zgt,Ziu,Ziv,Ziw,Zi6,Zjh,Zji,Zjn,Zjr,Zjs,Zj7,Zlz,Zmt,Zmv,Zmw,Zmy,Zm0,Zm1,Zm2,Zm5,Zm7,Zm9,Zna,Znb,Znn,Zno,Znp,Zo7,Zo9,eq_self,true_and,and_true,h0]
    tactic =>
    refine endA ?_
    sym =>
    simp [Zpa,Zpg,Zp8,Zqb,Zqc,eq_self,and_true]
theorem rwnew_yes (t b : Int) (h1 : ¬ t < 0) (h2 : ¬ 1099511627776 < t) (hp : plF t b = true) : Con Try.prog 78 [] [I t, I b] [] (.tu [rW t b [] [], I 0]) := by
  refine con_j b78 rfl ?_
  sym =>
  simp [Zab,Zad,Zam,Zaz,Za0,Za1,Za2,Za3,Za4,Za5,Za6,Za7,Za9,Zba,Zbb,Zbd,Zbf,Zcv,Zdc,Zdd,Zde,Zev,Zew,Zex,Zez,Ze0,Ze2,Ze3,Zfd,Zfe,Zfh,Zfi,Zfl,Zfn,Zf1,Zf3,Zin,Zla,Zlb,Zle,Zlj,Zna,Znb,Zne,Znf,Zng,Zos,Zot,Zo7,Zo9,eq_self,true_and,and_true,h1,h2,callable_96]
  tactic =>
  refine cl none (rplace_con t b) trivial ?_
  sym =>
  simp [Zaa,Zab,Zad,Zae,Zaf,Zak,Zal,Zam,Zaz,Za0,Za1,Za2,Za3,Za4,Za5,Za6,Za7,Za9,Zba,Zbb,Zbd,Zbj,Zb9,Zc3,Zdi,Zev,Zew,Zex,Zez,Ze0,Ze1,Ze2,Ze3,Ze5,Zfc,Zfd,Zfe,Zfh,Zfi,Zfl,Zgd,Zgg,Zhd,Zhe,Zhf,Zhg,Zhh,Ziu,Ziv,Ziw,Zi6,Zi7,Zjh,Zji,Zjn,Zjw,Zj2,Zlz,Zmt,Zmv,Zmw,Zmx,Zmy,Zmz,Zm0,Zm1,Zm3,Zm5,Zm7,Zm9,Zna,Znb,Znn,Zno,Znp,Zo3,Zo7,eq_self,true_and,and_true,hp]
  tactic =>
  refine endA ?_
  sym =>
  simp [Zpa,Zpb,Zpv,Zp7,Zp9,Zqb,Zqc,Zqd,Zqe,eq_self,true_and,and_true]
  tactic =>
  all_goals exact ⟨rfl, rfl⟩
theorem rwnew_no (t b : Int) (h1 : ¬ t < 0) (hp : 1099511627776 < t ∨ plF t b = false) : Con Try.prog 78 [] [I t, I b] [] (.tu [rW 0 0 [] [], I 1]) := by
  refine con_j b78 rfl ?_
  by_cases h2 : 1099511627776 < t
  · sym =>
    simp [Zab,Zad,Zae,Zaf,Zak,Zal,Zam,Zao,Zaz,Za0,Za1,Za2,Za3,Za4,Za5,Za6,Za7,Za8,Za9,Zba,Zbb,Zbd,Zbf,Zb9,Zcv,Zc3,Zev,Zew,Zex,Zez,Ze0,Ze1,Ze2,Ze3,Ze5,Zfc,Zfd,Zfe,Zfh,Zfi,Zfj,Zfl,Zfn,Zf1,Zf3,Zhd,Zhe,Zhf,Zin,Ziu,Ziv,Ziw,Zi6,Zjh,Zji,Zjn,Zj2,Zmt,Zmv,Zmw,Zmx,Zmy,Zmz,Zm0,Zm1,Zm3,Zm5,Zm7,Zm9,Zna,Znb,Znn,Zno,Znp,Zos,Zot,Zo6,Zo7,Zo8,Zo9,eq_self,true_and,and_true,h1,h2]
    tactic =>
    refine endA ?_
    sym =>
    simp [Zpa,Zpb,Zpv,Zp7,Zp9,Zqb,Zqc,Zqd,Zqe,eq_self,true_and,and_true]
    tactic =>
    all_goals exact ⟨rfl, rfl⟩
  · have hp : plF t b = false := hp.resolve_left h2
    sym =>
    simp [Zab,Zad,Zam,Zaz,Za0,Za1,Za2,Za3,Za4,Za5,Za6,Za7,Za9,Zba,Zbb,Zbd,Zbf,Zcv,Zdc,Zdd,Zde,Zev,Zew,Zex,Zez,Ze0,Ze2,Ze3,Zfd,Zfe,Zfh,Zfi,Zfl,Zfn,Zf1,Zf3,Zin,Zla,Zlb,Zle,Zlj,Zna,Znb,Zne,Znf,Zng,Zos,Zot,Zo7,Zo9,eq_self,true_and,and_true,h1,h2,callable_96]
    tactic =>
    refine cl none (rplace_con t b) trivial ?_
    sym =>
    simp [Zab,Zad,Zae,Zaf,Zak,Zal,Zam,Zao,Zaz,Za0,Za1,Za2,Za3,Za4,Za5,Za6,Za7,Za9,Zba,Zbb,Zbd,Zbj,Zb9,Zc3,Zdi,Zev,Zew,Zex,Zez,Ze0,Ze1,Ze2,Ze3,Ze5,Zfc,Zfd,Zfe,Zfh,Zfi,Zfl,Zgd,Zgg,Zhd,Zhe,Zhf,Ziu,Ziv,Ziw,Zi6,Zjh,Zji,Zjn,Zjw,Zj2,Zlz,Zmt,Zmv,Zmw,Zmx,Zmy,Zmz,Zm0,Zm1,Zm3,Zm5,Zm7,Zm9,Zna,Znb,Znn,Zno,Znp,Zo4,Zo7,eq_self,true_and,and_true,hp]
    tactic =>
    refine endA ?_
    sym =>
    simp [Zpa,Zpb,Zpv,Zp7,Zp9,Zqb,Zqc,Zqd,Zqe,eq_self,true_and,and_true]
    tactic =>
    all_goals exact ⟨rfl, rfl⟩
theorem rleft0 (t f : Int) (ht : 0 ≤ t ∧ t ≤ 1099511627776) (hf : 0 ≤ f ∧ f ≤ t) : Con Try.prog 44 [] [rW t f [] []] [] (I (t - f)) := by
  have w0 : IntKind.i64.wrap (t - f) = t - f := w64 _ (by omega)
  have hz : ([] : List Int).length = 0 := rfl
  refine con_j b44 rfl ?_
  sym =>
  simp [Zab,Zad,Zag,Zah,Zam,Zay,Zaz,Za0,Za1,Za2,Za3,Za4,Za5,Za9,Zba,Zbb,Zbf,Zbt,Zbv,Zcx,Zev,Zew,Zez,Ze0,Ze2,Ze3,Ze5,Ze8,Zfc,Zfd,Zfe,Zfh,Zfn,Zfr,Zgr,Zgs,Zgt,Zgv,Zgw,Zgx,Zio,Zip,Zi6,Zm6,Zm9,Zna,Znb,Zos,Zot,Zo7,eq_self,true_and,w0]
  tactic =>
  refine lpA (fun k q => q = ⟨[(1, .pt 0 0), (3, I (t - f)), (4, I (IN 0))], [(0, ⟨[I t, I f, fJ [], fJ []], 1, 0⟩)], 1⟩) 1 [(0, 0)] _ rfl (wkA ?_) ?_
  · sym =>
    simp [Za2,Zez,Zfc,Zna,Znr,Zn5,Zpa,Zpc,Zpg,Zpu,Zqb,Zqc,Zqf,Zqg,Zqh,Zqi,Zqk,Zql,Zqm,Zqn,eq_self,and_true]
  rintro k q rfl
  sym =>
  simp [Zab,Zad,Zae,Zaf,Zai,Zak,Zam,Zan,Zaq,Zaw,Zaz,Za0,Za1,Za2,Za3,Za4,Za5,Za9,Zba,Zbb,Zbf,Zbt,Zbv,Zcn,Zev,Zez,Ze0,Ze2,Ze5,Ze8,Zfc,Zfd,Zfe,Zfh,Zfn,Zf1,Zgr,Zgs,Zgt,Zgv,Zgw,Zgx,Zh6,Zh7,Zmt,Zmv,Zmw,Zmx,Zmz,Zm2,Zm6,Zm9,Zna,Znb,Zn5,Zo7,Zo9,eq_self,true_and,hz]
  tactic =>
  refine endA ?_
  sym =>
  simp [Zpc,eq_self]
theorem rtimed0 (src : List Int) (t f : Int) (T : Tm) (ht : 0 ≤ t ∧ t ≤ 1099511627776) (hf : 0 ≤ f ∧ f ≤ t) : Con Try.prog 79 [] [rO src t f [] [] T] [] (rO src t f [] [] (rtF t f [] T)) := by
  refine con_j b79 rfl ?_
  sym =>
  simp [Zab,Zad,Zam,Zaz,Za0,Za1,Za2,Za3,Za4,Za5,Za9,Zba,Zbt,Zbv,Zcv,Zcx,Zdc,Zdd,Zde,Zev,Zew,Zez,Ze0,Ze2,Ze3,Ze5,Ze8,Zfc,Zfd,Zfe,Zgr,Zgs,Zgt,Zgv,Zgw,Zgx,Zin,Zio,Zip,Zi6,Zla,Zlb,Zlc,Zld,Zle,Zlf,Zlh,Zlk,Zlm,Zm5,Zm7,Zm9,Zna,Znb,Zne,Znf,Zng,Zos,Zot,Zo7,eq_self,true_and,and_true,callable_44]
  tactic =>
  refine cl none (rleft0 t f ht hf) trivial ?_
  by_cases h0 : t - f = 0
  · have e : rtF t f [] T = offT := if_pos h0
    rw [e]
    unfold offT
    sym =>
    simp [Zab,Zad,Zae,Zaf,Zak,Zal,Zam,Zaz,Za0,Za1,Za2,Za3,Za4,Za5,Za9,Zba,Zbf,Zbt,Zbv,Zb9,Zc3,Zdi,Zev,Zew,Zez,Ze0,Ze1,Ze2,Ze3,Ze5,Ze8,Zfc,Zfd,Zfe,Zfn,Zfz,Zgr,Zgs,Zgt,Zgv,Zgw,Zgx,Zhd,Zhe,Zhf,Ziu,Ziv,Ziw,Zi6,Zjh,Zji,Zjn,Zjr,Zjs,Zj7,Zlz,Zmt,Zmv,Zmw,Zmy,Zm0,Zm1,Zm2,Zm5,Zm7,Zm9,Zna,Znb,Znn,Zno,Znp,Zof,Zog,Zo7,Zo8,eq_self,true_and,and_true,h0]
    tactic =>
    refine endA ?_
    sym =>
    simp [Zpa,Zpg,Zp8,Zqb,Zqc,eq_self,and_true]
  · have e : rtF t f [] T = T := if_neg h0
    rw [e]
    sym =>
    simp [Zaa,Zab,Zad,Zae,Zaf,Zak,Zal,Zam,Zaz,Za0,Za1,Za2,Za3,Za4,Za5,Za9,Zba,Zbf,Zbt,Zc3,Zdi,Zev,Zew,Zez,Ze0,Ze1,Ze2,Ze3,Ze5,Ze8,Zfc,Zfd,Zfe,Zfn,Zfz,Zgr,Zgs,Zgt,Ziu,Ziv,Ziw,Zi6,Zjh,Zji,Zjn,Zjr,Zjs,Zj7,Zlz,Zmt,Zmv,Zmw,Zmy,Zm0,Zm1,Zm2,Zm5,Zm7,Zm9,Zna,Znb,Znn,Zno,Znp,Zo7,Zo9,eq_self,true_and,and_true,h0]
    tactic =>
    refine endA ?_
    sym =>
    simp [Zpa,Zpg,Zp8,Zqb,Zqc,eq_self,and_true]
theorem rnew_yes (src : List Int) (b : Int) (hl : src.length ≤ 1099511627776) (hp : plF (IN src.length) b = true) :
    Con Try.prog 39 [] [fB src, I b] [] (.tu [rO src (IN src.length) b [] [] (rtF (IN src.length) b [] oneT), I 0]) := by
  have h1 : ¬ IN src.length < 0 := by simp only [IN]; omega
  have h2 : ¬ (1099511627776 : Int) < IN src.length := by simp only [IN]; omega
  have p := plF_mod hp
  have hb : 0 ≤ IN src.length ∧ IN src.length ≤ 1099511627776 := by simp only [IN]; omega
  refine con_j b39 rfl ?_
  sym =>
  simp [Zab,Zad,Zam,Zaz,Za0,Za1,Za2,Za3,Za4,Za5,Za9,Zba,Zbb,Zcn,Zcv,Zdc,Zdd,Zde,Zev,Zew,Zez,Ze0,Ze2,Ze3,Ze5,Zfd,Zfe,Zfh,Zh6,Zh7,Zin,Zla,Zlb,Zle,Zlj,Zna,Znb,Zne,Znf,Zng,Zos,Zot,Zo7,eq_self,true_and,and_true,callable_78]
  tactic =>
  refine cl none (rwnew_yes (IN src.length) b h1 h2 hp) trivial ?_
  sym =>
  simp [Zaa,Zab,Zad,Zae,Zaf,Zal,Zam,Zaz,Za0,Za1,Za2,Za3,Za4,Za5,Za9,Zba,Zbb,Zbf,Zbt,Zb7,Zb9,Zcv,Zc3,Zdc,Zdd,Zde,Zdi,Zev,Zew,Zez,Ze0,Ze1,Ze2,Ze3,Ze5,Ze8,Zfc,Zfd,Zfe,Zfh,Zfn,Zf0,Zgr,Zgs,Zgt,Zhb,Zhc,Zhd,Zhe,Zhf,Zhg,Zhh,Zin,Ziu,Ziv,Ziw,Zi6,Zi7,Zi8,Zjb,Zjh,Zji,Zjn,Zjq,Zj7,Zka,Zkx,Zky,Zk0,Zk1,Zla,Zlb,Zlc,Zld,Zle,Zlf,Zlh,Zlk,Zlm,Zlz,Zl2,Zm5,Zm7,Zm9,Zna,Znb,Zne,Znf,Zng,Znn,Zno,Znp,Zo3,Zo7,Zo8,eq_self,true_and,and_true,callable_79]
  tactic =>
  refine cl none (rtimed0 src (IN src.length) b (true, 1, 1) hb (by omega)) trivial ?_
  unfold oneT
  sym =>
  simp [Zak,Zam,Zaz,Za0,Za1,Za2,Za3,Za4,Za5,Za9,Zba,Zbb,Zc3,Zdi,Zev,Zew,Zez,Ze0,Ze1,Ze2,Ze3,Ze5,Zfc,Zfd,Zfe,Zfh,Ziu,Ziv,Ziw,Zi6,Zjh,Zji,Zjn,Zjs,Zj7,Zka,Zkv,Zkx,Zlz,Zl2,Zmt,Zmv,Zmw,Zmx,Zmy,Zmz,Zm0,Zm1,Zm3,Zm5,Zm7,Zm9,Zna,Znb,Znn,Zno,Znp,Zo7,eq_self,true_and,and_true]
  tactic =>
  refine endA ?_
  sym =>
  simp [Zpa,Zpb,Zpg,Zp7,Zp9,Zqb,Zqc,Zqd,Zqe,eq_self,and_true]
theorem rnew_no (src : List Int) (b : Int) (hp : 1099511627776 < IN src.length ∨ plF (IN src.length) b = false) : Con Try.prog 39 [] [fB src, I b] [] (.tu [rO [] 0 0 [] [] offT, I 1]) := by
  have h1 : ¬ IN src.length < 0 := by simp only [IN]; omega
  refine con_j b39 rfl ?_
  sym =>
  simp [Zab,Zad,Zam,Zaz,Za0,Za1,Za2,Za3,Za4,Za5,Za9,Zba,Zbb,Zcn,Zcv,Zdc,Zdd,Zde,Zev,Zew,Zez,Ze0,Ze2,Ze3,Ze5,Zfd,Zfe,Zfh,Zh6,Zh7,Zin,Zla,Zlb,Zle,Zlj,Zna,Znb,Zne,Znf,Zng,Zos,Zot,Zo7,eq_self,true_and,and_true,callable_78]
  tactic =>
  refine cl none (rwnew_no (IN src.length) b h1 hp) trivial ?_
  unfold offT
  sym =>
  simp [Zab,Zad,Zae,Zaf,Zak,Zal,Zam,Zao,Zaz,Za0,Za1,Za2,Za3,Za4,Za5,Za9,Zba,Zbb,Zbf,Zb7,Zb9,Zcv,Zc3,Zdi,Zev,Zew,Zez,Ze0,Ze1,Ze2,Ze3,Ze5,Zfc,Zfd,Zfe,Zfh,Zfn,Zf0,Zhb,Zhc,Zhd,Zhe,Zhf,Zin,Ziu,Ziv,Ziw,Zi6,Zjh,Zji,Zjn,Zjq,Zjs,Zj2,Zj7,Zka,Zkx,Zky,Zk0,Zk1,Zlz,Zl2,Zmt,Zmv,Zmw,Zmx,Zmy,Zmz,Zm0,Zm1,Zm3,Zm5,Zm7,Zm9,Zna,Znb,Znn,Zno,Znp,Zof,Zog,Zo4,Zo7,Zo9,eq_self,true_and,and_true]
  tactic =>
  refine endA ?_
  sym =>
  simp [Zpa,Zpb,Zpv,Zp7,Zp9,Zqb,Zqc,Zqd,Zqe,eq_self,true_and,and_true]
  tactic =>
  exact ⟨rfl, rfl, rfl⟩
theorem bnewG (src : List Int) (b : Int) (hl : src.length ≤ 1099511627776) (hp : plF (IN src.length) b = true) :
    Con Try.prog 31 [] [fB src, I b] [] (.tu [oV src (IN src.length) (addS [] 0 b) [] (tmF (IN src.length) (addS [] 0 b) oneT), I 0]) := by
  have h1 : ¬ IN src.length < 0 := by simp only [IN]; omega
  have h2 : ¬ (1099511627776 : Int) < IN src.length := by simp only [IN]; omega
  have h3 := addS_length [] 0 b
  simp only [List.length_nil] at h3
  refine con_j b31 rfl ?_
  sym =>
  simp [Zab,Zad,Zam,Zaz,Za0,Za1,Za2,Za3,Za4,Za5,Za9,Zba,Zbb,Zcn,Zcv,Zdc,Zdd,Zde,Zev,Zew,Zez,Ze0,Ze2,Ze3,Ze5,Zfd,Zfe,Zfh,Zh6,Zh7,Zin,Zla,Zlb,Zle,Zlj,Zna,Znb,Zne,Znf,Zng,Zos,Zot,Zo7,eq_self,true_and,and_true,callable_66]
  tactic =>
  refine cl none (new_yes (IN src.length) b h1 h2 hp) trivial ?_
  sym =>
  simp [Zaa,Zab,Zad,Zae,Zaf,Zal,Zam,Zaz,Za0,Za1,Za2,Za3,Za4,Za5,Za9,Zba,Zbb,Zbf,Zb7,Zcv,Zc3,Zdc,Zdd,Zde,Zdi,Zev,Zew,Zez,Ze0,Ze1,Ze2,Ze3,Ze5,Zfc,Zfd,Zfe,Zfh,Zfn,Zf0,Zhb,Zhc,Zin,Ziu,Ziv,Ziw,Zi6,Zjh,Zji,Zjn,Zjq,Zj7,Zka,Zkx,Zky,Zk0,Zk1,Zla,Zlb,Zle,Zlj,Zlz,Zl2,Zm9,Zna,Znb,Zne,Znf,Zng,Znn,Zno,Znp,Zo3,Zo7,Zo8,eq_self,true_and,and_true,callable_67]
  tactic =>
  refine cl none (start_con) trivial ?_
  sym =>
  simp [Zac,Zad,Zam,Zaz,Za0,Za1,Za2,Za3,Za4,Za5,Za9,Zba,Zbb,Zbc,Zb7,Zcv,Zc3,Zc7,Zc8,Zdi,Zdm,Zrk,Zrl,Zrm,Zrn,Zro,Zrq,Zrr,Zva,Zru,Zrx,Zry,Zrz,Zr5,Zsf,Zsh,Zsj,Zdp,Zdt,Zdu,Zd0,Zd1,Zeb,Zeq,Zet,Zev,Zew,Zez,Ze0,Ze1,Ze2,Ze3,Ze5,Zfc,Zfd,Zfe,Zfh,Zhb,Zhc,Zin,Ziu,Ziv,Ziw,Zi6,Zjh,Zji,Zjn,Zjq,Zjs,Zjv,Zkw,Zkx,Zky,Zkz,Zk0,Zk1,Zk2,Zll,Zlz,Zm9,Zna,Znb,Zne,Znf,Zng,Znn,Zno,Znp,Zo7,eq_self,true_and,and_true,callable_68]
  tactic =>
  refine clG [] none (clone_con src (by omega)) rfl ⟨trivial, trivial, rfl⟩ ?_
  unfold oneT
  sym =>
  simp [Za2,Za3,Zbu,Zca,Zc7,Zc8,Zdf,Zdg,Zdh,Zsm,Zsn,Zso,Zsr,Zsw,Zdp,Zdt,Zdu,Zdv,Zdw,Zdx,Zdy,Zdz,Zd0,Zd1,Zd3,Zeb,Zec,Zek,Zen,Zeq,Zer,Zes,Zet,Zev,Zew,Zez,Ze0,Ze2,Ze5,Ze8,Zfc,Zfd,Zfe,Zgr,Zgs,Zgt,Zhd,Zhe,Zhf,Zhg,Zhh,Zi6,Zjb,Zla,Zlb,Zlc,Zld,Zle,Zlf,Zlh,Zlk,Zlm,Zl2,Zm5,Zm7,Zm9,Zna,Znb,Zne,Znf,Zng,Znn,Zno,Znp,Zof,Zog,Zo7,eq_self,true_and,and_true,callable_69]
  tactic =>
  refine cl none (timed_con src (IN src.length) (addS [] 0 b) [] (true, 1, 1) (by omega)) trivial ?_
  sym =>
  simp [Zak,Zam,Zaz,Za0,Za1,Za2,Za3,Zbc,Zc4,Zc7,Zc8,Zc9,Zdj,Zdk,Zdm,Zdo,Zdp,Zdt,Zdu,Zdv,Zdw,Zdx,Zdy,Zdz,Zd0,Zd1,Zd2,Zd3,Zec,Zek,Zen,Zer,Zes,Zev,Zez,Ze0,Ze1,Ze2,Ze3,Ze5,Zfc,Zfd,Zfe,Zfh,Ziu,Ziv,Ziw,Zi6,Zjh,Zji,Zjn,Zjs,Zj7,Zka,Zkv,Zkx,Zlz,Zl2,Zmt,Zmv,Zmw,Zmx,Zmy,Zmz,Zm0,Zm1,Zm3,Zm5,Zm7,Zm9,Zna,Znb,Zne,Znn,Zno,Znp,Zo7,eq_self,true_and,and_true]
  tactic =>
  refine endA ?_
  sym =>
  simp [Zpa,Zpb,Zpg,Zp7,Zp9,Zqb,Zqc,Zqd,Zqe,eq_self,and_true]
theorem bnewN (src : List Int) (b : Int) (hp : 1099511627776 < IN src.length ∨ plF (IN src.length) b = false) :
    Con Try.prog 31 [] [fB src, I b] [] (.tu [oV [] 0 [] [] offT, I 1]) := by
  refine con_j b31 rfl ?_
  sym =>
  simp [Zab,Zad,Zam,Zaz,Za0,Za1,Za2,Za3,Za4,Za5,Za9,Zba,Zbb,Zcn,Zcv,Zdc,Zdd,Zde,Zev,Zew,Zez,Ze0,Ze2,Ze3,Ze5,Zfd,Zfe,Zfh,Zh6,Zh7,Zin,Zla,Zlb,Zle,Zlj,Zna,Znb,Zne,Znf,Zng,Zos,Zot,Zo7,eq_self,true_and,and_true,callable_66]
  tactic =>
  refine cl none (new_no (IN src.length) b (.inr hp)) trivial ?_
  sym =>
  simp [Zab,Zad,Zae,Zaf,Zak,Zal,Zam,Zao,Zaz,Za0,Za1,Za2,Za3,Za4,Za5,Za9,Zba,Zbb,Zbf,Zb7,Zb9,Zcv,Zc3,Zdi,Zev,Zew,Zez,Ze0,Ze1,Ze2,Ze3,Ze5,Zfc,Zfd,Zfe,Zfh,Zfn,Zf0,Zhb,Zhc,Zhd,Zhe,Zhf,Zin,Ziu,Ziv,Ziw,Zi6,Zjh,Zji,Zjn,Zjq,Zjs,Zj2,Zj7,Zka,Zkx,Zky,Zk0,Zk1,Zlz,Zl2,Zmt,Zmv,Zmw,Zmx,Zmy,Zmz,Zm0,Zm1,Zm3,Zm5,Zm7,Zm9,Zna,Znb,Znn,Zno,Znp,Zo4,Zo7,Zo9,eq_self,true_and,and_true]
  tactic =>
  refine endA ?_
  unfold offT
  sym =>
  simp [Zof,Zog,Zpa,Zpb,Zpv,Zp7,Zp9,Zqb,Zqc,Zqd,Zqe,eq_self,true_and,and_true]
  tactic =>
  exact ⟨rfl, rfl, rfl⟩
def roF (ou : List Int) (T : Tm) : List Int := if (tkF T).2 = true then [] else ou
theorem rtick_con (src : List Int) (t f : Int) (cm ou : List Int) (T : Tm) (hT : TOk T) : Con Try.prog 41 [] [rO src t f cm ou T] [] (.tu [rO src t f cm (roF ou T) (tkF T).1, Bo (tkF T).2]) := by
  refine con_j b41 rfl ?_
  sym =>
  simp [Zab,Zad,Zam,Zaz,Za0,Za1,Za2,Za3,Za4,Za5,Za9,Zba,Zbb,Zbt,Zbv,Zcv,Zcx,Zdc,Zdd,Zde,Zev,Zew,Zez,Ze0,Ze2,Ze3,Ze5,Ze8,Zfc,Zfd,Zfe,Zfh,Zgr,Zgs,Zgt,Zgv,Zgw,Zgx,Zin,Zio,Zip,Zi6,Zla,Zlb,Zlc,Zld,Zle,Zlf,Zlh,Zlk,Zm5,Zm7,Zm9,Zna,Znb,Zne,Znf,Zng,Zos,Zot,Zo7,eq_self,true_and,and_true,callable_81]
  tactic =>
  refine cl none (rtk_con T hT) trivial ?_
  by_cases h : (tkF T).2 = true
  · have e : roF ou T = [] := if_pos h
    rw [e]
    sym =>
    simp [Zab,Zad,Zae,Zaf,Zak,Zal,Zam,Zay,Zaz,Za0,Za1,Za2,Za3,Za4,Za5,Za9,Zba,Zbb,Zbt,Zbv,Zb7,Zcv,Zc3,Zdi,Zev,Zew,Zez,Ze0,Ze1,Ze2,Ze3,Ze5,Ze8,Zfc,Zfd,Zfe,Zfh,Zgr,Zgs,Zgt,Zgv,Zgw,Zgx,Zhb,Zhc,Zin,Ziu,Ziv,Ziw,Zi6,Zja,Zjh,Zji,Zjn,Zjq,Zjs,Zjv,Zj2,Zj7,Zkw,Zkx,Zky,Zkz,Zk0,Zk1,Zk2,Zlz,Zmt,Zmv,Zmw,Zmx,Zmy,Zmz,Zm0,Zm1,Zm3,Zm5,Zm7,Zm9,Zna,Znb,Znn,Zno,Znp,Zo7,eq_self,true_and,and_true,h]
    tactic =>
    refine endA ?_
    sym =>
    simp [Zpa,Zpb,Zpg,Zpv,Zp7,Zp9,Zqb,Zqc,Zqd,Zqe,eq_self,true_and,and_true]
    tactic =>
    all_goals rfl
  · have e : roF ou T = ou := if_neg h
    have h : (tkF T).2 = false := by cases hh : (tkF T).2; rfl; exact absurd hh h
    rw [e]
    sym =>
    simp [Zaa,Zab,Zad,Zae,Zaf,Zak,Zal,Zam,Zay,Zaz,Za0,Za1,Za2,Za3,Za4,Za5,Za9,Zba,Zbb,Zbt,Zbv,Zb7,Zcv,Zc3,Zdi,Zev,Zez,Ze0,Ze1,Ze2,Ze3,Ze5,Ze8,Zfc,Zfd,Zfe,Zfh,Zgr,Zgs,Zgt,Zgv,Zgw,Zgx,Zhb,Zhc,Zin,Ziu,Ziv,Ziw,Zi6,Zjh,Zji,Zjn,Zjq,Zjs,Zjv,Zj7,Zkw,Zkx,Zky,Zkz,Zk0,Zk1,Zk2,Zlz,Zmt,Zmv,Zmw,Zmx,Zmy,Zmz,Zm0,Zm1,Zm3,Zm5,Zm7,Zm9,Zna,Znb,Znn,Zno,Znp,Zo7,eq_self,true_and,and_true,h]
    tactic =>
    refine endA ?_
    sym =>
    simp [Zpa,Zpb,Zpg,Zp7,Zp9,Zqb,Zqc,Zqd,Zqe,eq_self,and_true]
def raB (t f off : Int) (cm : List Int) : Bool := plF t off && !decide (off < rbF t f cm t.toNat f)
def raC (t f off : Int) (cm : List Int) (l : List Rg) : List Int := if raB t f off cm = true then akR t off f cm l else cm
def raO (t f off : Int) (cm ou : List Int) (l : List Rg) : List Int := if raB t f off cm = true then ou.filter (fun a => !cmF f (akR t off f cm l) a) else ou
def raM (t f off : Int) (cm : List Int) (l : List Rg) : Bool := raB t f off cm && decide (lfR t f (akR t off f cm l) < lfR t f cm)
def raT (t f off : Int) (cm : List Int) (l : List Rg) (T : Tm) : Tm := rtF t f (raC t f off cm l) (if raM t f off cm l = true then agF T else T)
theorem rack_con (t f off : Int) (cm ou : List Int) (l : List Rg) (h : RI t f cm ou) (hk : RK t f cm) (hf : f % 256 = 0 ∨ f = t) (hl : l.length ≤ 1000) :
    Con Try.prog 82 [] [rW t f cm ou, I off, fR l] [] (.tu [rW t f (raC t f off cm l) (raO t f off cm ou l), Bo (raM t f off cm l)]) := by
  by_cases hb : raB t f off cm = true
  · have h1 : plF t off = true ∧ ¬ off < rbF t f cm t.toNat f := by simpa [raB] using hb
    have e1 : raC t f off cm l = akR t off f cm l := if_pos hb
    have e2 : raO t f off cm ou l = ou.filter (fun a => !cmF f (akR t off f cm l) a) := if_pos hb
    have e3 : raM t f off cm l = decide (lfR t f (akR t off f cm l) < lfR t f cm) := by simp [raM, hb]
    rw [e1, e2, e3]
    exact rack_yes t f off cm ou l h hk hf hl h1.1 h1.2
  · have e1 : raC t f off cm l = cm := if_neg hb
    have e2 : raO t f off cm ou l = ou := if_neg hb
    have e3 : raM t f off cm l = false := by simp [raM, hb]
    rw [e1, e2, e3]
    refine rack_no t f off cm ou l h ?_
    cases hp : plF t off
    · exact .inl rfl
    · right
      apply Decidable.byContradiction
      intro hn
      exact hb (by simp [raB, hp, hn])
theorem ra_ok {t f off : Int} {cm ou : List Int} (l : List Rg) (h : RI t f cm ou) (hk : RK t f cm) (hf : f % 256 = 0 ∨ f = t) : RK t f (raC t f off cm l) ∧ RI t f (raC t f off cm l) (raO t f off cm ou l) := by
  unfold raC raO
  split
  · rename_i hb
    have h1 : plF t off = true ∧ ¬ off < rbF t f cm t.toNat f := by simpa [raB] using hb
    have hk2 := akR_ok (l := l) hf (plF_mod h1.1).2.1 hk
    have := ri_of h hk2
    exact ⟨hk2, this.ht, this.hf, this.hc, fun a ha => h.ho a (List.mem_filter.1 ha).1, this.lc, Nat.le_trans (List.length_filter_le _ _) h.lo⟩
  · exact ⟨hk, h⟩
theorem rback_con (src : List Int) (t f off : Int) (cm ou : List Int) (T : Tm) (l : List Rg) (h : RI t f cm ou) (hk : RK t f cm) (hf : f % 256 = 0 ∨ f = t) (hl : l.length ≤ 1000) :
    Con Try.prog 42 [] [rO src t f cm ou T, I off, fR l] [] (.tu [rO src t f (raC t f off cm l) (raO t f off cm ou l) (raT t f off cm l T), Bo (raM t f off cm l)]) := by
  have hok := ra_ok (off := off) l h hk hf
  have hti := fun T' => rtimed_con src t f (raC t f off cm l) (raO t f off cm ou l) T' hok.2
  unfold raT
  refine con_j b42 rfl ?_
  sym =>
  simp [Zab,Zad,Zam,Zaz,Za0,Za1,Za2,Za3,Za4,Za5,Za9,Zba,Zbb,Zbt,Zbv,Zcv,Zcx,Zdc,Zdd,Zde,Zev,Zew,Zez,Ze0,Ze2,Ze3,Ze5,Ze8,Zfc,Zfd,Zfe,Zfh,Zgr,Zgs,Zgt,Zgv,Zgw,Zgx,Zin,Zio,Zip,Zi6,Zla,Zlb,Zlc,Zld,Zle,Zlf,Zlh,Zlj,Zlk,Zll,Zlm,Zm5,Zm7,Zm9,Zna,Znb,Zne,Znf,Zng,Zos,Zot,Zo7,eq_self,true_and,and_true,callable_82]
  tactic =>
  refine cl none (rack_con t f off cm ou l h hk hf hl) trivial ?_
  obtain ⟨on, wt, lf⟩ := T
  by_cases hm : raM t f off cm l = true
  · rw [if_pos hm]
    cases on
    · have e : agF (false, wt, lf) = (false, wt, lf) := rfl
      rw [e]
      sym =>
      simp [Zaa,Zab,Zad,Zae,Zaf,Zal,Zam,Zaz,Za0,Za1,Za2,Za3,Za4,Za5,Za6,Za7,Za9,Zba,Zbb,Zbd,Zbt,Zbv,Zb7,Zcv,Zc3,Zdc,Zdd,Zde,Zdi,Zev,Zew,Zex,Zez,Ze0,Ze1,Ze2,Ze3,Ze5,Ze8,Zfc,Zfd,Zfe,Zfh,Zfi,Zfl,Zgr,Zgs,Zgt,Zgv,Zgw,Zgx,Zhb,Zhc,Zin,Ziu,Ziv,Ziw,Zi6,Zjh,Zji,Zjn,Zjq,Zj7,Zka,Zkx,Zky,Zk0,Zk1,Zla,Zlb,Zlc,Zld,Zle,Zlf,Zlh,Zlk,Zlm,Zlz,Zl2,Zm5,Zm6,Zm7,Zm9,Zna,Znb,Zne,Znf,Zng,Znn,Zno,Znp,Zof,Zog,Zo7,eq_self,true_and,and_true,hm,callable_79]
      tactic =>
      refine cl none (hti (false, wt, lf)) trivial ?_
      sym =>
      simp [Zak,Zam,Zaz,Za0,Za1,Za2,Za3,Za4,Za5,Za9,Zba,Zbb,Zc3,Zdi,Zev,Zez,Ze0,Ze1,Ze2,Ze3,Ze5,Zfc,Zfd,Zfe,Zfh,Ziu,Ziv,Ziw,Zi6,Zjh,Zji,Zjn,Zjs,Zj7,Zka,Zkv,Zkx,Zlz,Zl2,Zmt,Zmv,Zmw,Zmx,Zmy,Zmz,Zm0,Zm1,Zm3,Zm5,Zm7,Zm9,Zna,Znb,Znn,Zno,Znp,Zo7,eq_self,true_and,and_true]
      tactic =>
      refine endA ?_
      sym =>
      simp [Zpa,Zpb,Zpg,Zp7,Zp9,Zqb,Zqc,Zqd,Zqe,eq_self,and_true]
    · have e : agF (true, wt, lf) = oneT := rfl
      rw [e]
      sym =>
      simp [Zab,Zad,Zae,Zaf,Zal,Zam,Zaz,Za0,Za1,Za2,Za3,Za4,Za5,Za6,Za7,Za9,Zba,Zbb,Zbd,Zbt,Zbv,Zb7,Zb9,Zcv,Zc3,Zdc,Zdd,Zde,Zdi,Zev,Zew,Zex,Zez,Ze0,Ze1,Ze2,Ze3,Ze5,Ze8,Zfc,Zfd,Zfe,Zfh,Zfi,Zfl,Zgr,Zgs,Zgt,Zgv,Zgw,Zgx,Zhb,Zhc,Zhd,Zhe,Zhf,Zhg,Zhh,Zin,Ziu,Ziv,Ziw,Zi6,Zi7,Zi8,Zjh,Zji,Zjn,Zjq,Zjs,Zj7,Zka,Zkx,Zky,Zk0,Zk1,Zla,Zlb,Zlc,Zld,Zle,Zlf,Zlh,Zlk,Zlm,Zlz,Zl2,Zm5,Zm6,Zm7,Zm9,Zna,Znb,Zne,Znf,Zng,Znn,Zno,Znp,Zof,Zog,Zo7,eq_self,true_and,and_true,hm,callable_79]
      tactic =>
      refine cl none (hti (true, 1, 1)) trivial ?_
      unfold oneT
      sym =>
      simp [Zak,Zam,Zaz,Za0,Za1,Za2,Za3,Za4,Za5,Za9,Zba,Zbb,Zc3,Zdi,Zev,Zez,Ze0,Ze1,Ze2,Ze3,Ze5,Zfc,Zfd,Zfe,Zfh,Ziu,Ziv,Ziw,Zi6,Zjh,Zji,Zjn,Zjs,Zj7,Zka,Zkv,Zkx,Zlz,Zl2,Zmt,Zmv,Zmw,Zmx,Zmy,Zmz,Zm0,Zm1,Zm3,Zm5,Zm7,Zm9,Zna,Znb,Znn,Zno,Znp,Zo7,eq_self,true_and,and_true]
      tactic =>
      refine endA ?_
      sym =>
      simp [Zpa,Zpb,Zpg,Zp7,Zp9,Zqb,Zqc,Zqd,Zqe,eq_self,and_true]
  · rw [if_neg hm]
    have hm : raM t f off cm l = false := by simpa using hm
    sym =>
    simp [Zaa,Zab,Zad,Zae,Zaf,Zal,Zam,Zaz,Za0,Za1,Za2,Za3,Za4,Za5,Za6,Za7,Za8,Za9,Zba,Zbb,Zbd,Zbt,Zbv,Zb7,Zcv,Zc3,Zdc,Zdd,Zde,Zdi,Zev,Zew,Zex,Zez,Ze0,Ze1,Ze2,Ze3,Ze5,Ze8,Zfc,Zfd,Zfe,Zfh,Zfi,Zfk,Zgr,Zgs,Zgt,Zgv,Zgw,Zgx,Zhb,Zhc,Zin,Ziu,Ziv,Ziw,Zi6,Zjh,Zji,Zjn,Zjq,Zj7,Zka,Zkx,Zky,Zk0,Zk1,Zla,Zlb,Zlc,Zld,Zle,Zlf,Zlh,Zlk,Zlm,Zlz,Zl2,Zm5,Zm7,Zm9,Zna,Znb,Zne,Znf,Zng,Znn,Zno,Znp,Zof,Zog,Zo7,eq_self,true_and,and_true,hm,callable_79]
    tactic =>
    refine cl none (hti (on, wt, lf)) trivial ?_
    sym =>
    simp [Zak,Zam,Zaz,Za0,Za1,Za2,Za3,Za4,Za5,Za9,Zba,Zbb,Zc3,Zdi,Zev,Zez,Ze0,Ze1,Ze2,Ze3,Ze5,Zfc,Zfd,Zfe,Zfh,Ziu,Ziv,Ziw,Zi6,Zjh,Zji,Zjn,Zjs,Zj7,Zka,Zkv,Zkx,Zlz,Zl2,Zmt,Zmv,Zmw,Zmx,Zmy,Zmz,Zm0,Zm1,Zm3,Zm5,Zm7,Zm9,Zna,Znb,Znn,Zno,Znp,Zo7,eq_self,true_and,and_true]
    tactic =>
    refine endA ?_
    sym =>
    simp [Zpa,Zpb,Zpg,Zp7,Zp9,Zqb,Zqc,Zqd,Zqe,eq_self,and_true]
end Go.Proofs.Ytbmdahhhgpbchaa.OpE
