import Derived.Test.YtbmdahhhgpbchaaCodC
import Derived.Test.YtbmdahhhgpbchaaSwL
namespace Go.Proofs.Ytbmdahhhgpbchaa.ObA
open Go Go.Sim Go.Sim.E Go.RowKit Go.Proofs Go.Proofs.Ytbmdahhhgpbchaa.Cod Go.Proofs.Ytbmdahhhgpbchaa.Tab Go.Proofs.Ytbmdahhhgpbchaa.Bse Go.Proofs.Ytbmdahhhgpbchaa.SpnP Go.Proofs.Ytbmdahhhgpbchaa.SwA Go.Proofs.Ytbmdahhhgpbchaa.SwB Go.Proofs.Ytbmdahhhgpbchaa.SwC Go.Proofs.Ytbmdahhhgpbchaa.SwS Go.Proofs.Ytbmdahhhgpbchaa.SwD Go.Proofs.Ytbmdahhhgpbchaa.SwF Go.Proofs.Ytbmdahhhgpbchaa.SwG Go.Proofs.Ytbmdahhhgpbchaa.SwL
set_option linter.unusedVariables false
set_option linter.unusedSimpArgs false
set_option maxRecDepth 100000
set_option maxHeartbeats 4000000
abbrev Tm := Bool × Int × Int
abbrev tV (T : Tm) : AV := .ag [Bo T.1, I T.2.1, I T.2.2]
/-- A timer as its calls leave it. -/
def TOk (T : Tm) : Prop := (T.1 = false ∧ T.2.1 = 0 ∧ T.2.2 = 0) ∨ (T.1 = true ∧ 1 ≤ T.2.2 ∧ T.2.2 ≤ T.2.1 ∧ T.2.1 ≤ 16)
def offT : Tm := (false, 0, 0)
def oneT : Tm := (true, 1, 1)
def tkF (T : Tm) : Tm × Bool :=
  if T.1 = false then (T, false) else if 1 < T.2.2 then ((true, T.2.1, T.2.2 - 1), false) else ((true, min (T.2.1 + T.2.1) 16, min (T.2.1 + T.2.1) 16), true)
def agF (T : Tm) : Tm := if T.1 = true then oneT else T
theorem TOk.off : TOk offT := .inl ⟨rfl, rfl, rfl⟩
theorem TOk.one : TOk oneT := .inr ⟨rfl, by decide, by decide, by decide⟩
theorem TOk.tick {T : Tm} (h : TOk T) : TOk (tkF T).1 := by
  unfold tkF
  rcases h with ⟨a, b, c⟩ | ⟨a, b, c, d⟩
  · rw [if_pos a]; exact .inl ⟨a, b, c⟩
  · rw [if_neg (by rw [a]; simp)]
    split
    · exact .inr ⟨rfl, by show 1 ≤ T.2.2 - 1; omega, by show T.2.2 - 1 ≤ T.2.1; omega, d⟩
    · exact .inr ⟨rfl, by show 1 ≤ min (T.2.1 + T.2.1) 16; omega, Int.le_refl _, by show min (T.2.1 + T.2.1) 16 ≤ 16; omega⟩
theorem TOk.again {T : Tm} (h : TOk T) : TOk (agF T) := by
  unfold agF
  split
  · exact TOk.one
  · exact h
theorem may_con (T : Tm) (h : TOk T) : Con Try.prog 106 [] [tV T] [] (Bo true) := by
  obtain ⟨o, w, l⟩ := T
  rcases h with ⟨a, b, c⟩ | ⟨a, b, c, d⟩ <;> simp only at a b c
  · subst a; subst b; subst c
    refine con_j b106 rfl ?_
    sym =>
    simp [Zab,Zad,Zae,Zaf,Zak,Zal,Zam,Zao,Zaz,Za0,Za1,Za2,Za3,Za4,Za5,Za9,Zba,Zbb,Zbh,Zbj,Zbt,Zbv,Zb9,Zcx,Zev,Zew,Zez,Ze0,Ze2,Ze3,Ze5,Ze8,Zfc,Zfd,Zfe,Zfh,Zga,Zgb,Zgd,Zgg,Zgr,Zgs,Zgt,Zgv,Zgw,Zgx,Zhd,Zhe,Zhf,Zio,Zip,Zi6,Zmt,Zmv,Zmw,Zmx,Zmz,Zm2,Zm5,Zm6,Zm7,Zm9,Zna,Znb,Zof,Zog,Zok,Zol,Zom,Zon,Zoo,Zor,Zos,Zot,Zoy,Zo4,Zo7,eq_self,true_and,and_true]
    tactic =>
    refine endA ?_
    sym =>
    simp [Zpc,eq_self]
  · simp only at d
    subst a
    refine con_j b106 rfl ?_
    sym =>
    simp [Zaa,Zab,Zad,Zae,Zaf,Zak,Zal,Zam,Zaz,Za0,Za1,Za2,Za3,Za4,Za5,Za6,Za7,Za9,Zba,Zbb,Zbd,Zbf,Zbj,Zbt,Zbv,Zcx,Zev,Zew,Zex,Zez,Ze0,Ze2,Ze3,Ze5,Ze8,Zfc,Zfd,Zfe,Zfh,Zfi,Zfl,Zfn,Zf2,Zf4,Zgd,Zgg,Zgr,Zgs,Zgt,Zgv,Zgw,Zgx,Zio,Zip,Zi6,Zmt,Zmv,Zmw,Zmx,Zmz,Zm2,Zm6,Zm9,Zna,Znb,Zof,Zog,Zos,Zot,Zo3,Zo7,Zo8,eq_self,true_and,b,c,d]
    tactic =>
    refine endA ?_
    sym =>
    simp [Zpc,eq_self]
theorem start_con : Con Try.prog 67 [] [I 1] [] (.tu [tV oneT, I 0]) := by
  refine con_j b67 rfl ?_
  sym =>
  simp [Zab,Zad,Zam,Zaz,Za0,Za1,Za2,Za3,Za4,Za5,Za9,Zba,Zbb,Zbt,Zb9,Zcv,Zc3,Zdc,Zdd,Zde,Zev,Zew,Zez,Ze0,Ze1,Ze2,Ze3,Ze5,Ze8,Zfc,Zfd,Zfe,Zfh,Zgr,Zgs,Zgt,Zhd,Zhe,Zhf,Zhg,Zhh,Zin,Ziu,Ziv,Ziw,Zi6,Zi7,Zi8,Zjh,Zji,Zjn,Zjs,Zla,Zlb,Zlc,Zld,Zle,Zlf,Zlh,Zlk,Zm5,Zm7,Zm9,Zna,Znb,Zne,Znf,Zng,Znn,Zno,Znp,Zos,Zot,Zo7,eq_self,true_and,and_true,callable_106]
  tactic =>
  refine cl none (may_con oneT TOk.one) trivial ?_
  sym =>
  simp [Zaa,Zab,Zad,Zae,Zaf,Zak,Zal,Zam,Zaz,Za0,Za1,Za2,Za3,Za4,Za5,Za9,Zba,Zbb,Zbj,Zbt,Zc3,Zdi,Zev,Zew,Zez,Ze0,Ze1,Ze2,Ze3,Ze5,Ze8,Zfc,Zfd,Zfe,Zfh,Zgd,Zgg,Zgr,Zgs,Zgt,Ziu,Ziv,Ziw,Zi6,Zjh,Zji,Zjn,Zjs,Zjw,Zlz,Zmt,Zmv,Zmw,Zmx,Zmy,Zmz,Zm0,Zm1,Zm3,Zm5,Zm7,Zm9,Zna,Znb,Znn,Zno,Znp,Zo3,Zo7,eq_self,true_and,and_true]
  tactic =>
  refine endA ?_
  unfold oneT
  sym =>
  simp [Zof,Zog,Zpa,Zpb,Zp7,Zp9,Zqb,Zqc,Zqd,Zqe,eq_self,and_true]
theorem stop_con (T : Tm) : Con Try.prog 107 [] [tV T] [] (tV offT) := by
  refine con_j b107 rfl ?_
  sym =>
  simp [Zab,Zad,Zak,Zam,Zaz,Za0,Za1,Za2,Za3,Za4,Za5,Za9,Zba,Zb9,Zcv,Zcx,Zc3,Zev,Zez,Ze0,Ze1,Ze2,Ze3,Ze5,Zfc,Zfd,Zfe,Zhd,Zhe,Zhf,Zin,Zio,Zip,Ziu,Ziv,Ziw,Zi6,Zjh,Zji,Zjn,Zjs,Zmt,Zmv,Zmw,Zmy,Zm0,Zm1,Zm2,Zm5,Zm7,Zm9,Zna,Znb,Znn,Zno,Znp,Zos,Zot,Zo7,eq_self,true_and,and_true]
  tactic =>
  refine endA ?_
  unfold offT
  sym =>
  simp [Zof,Zog,Zpa,Zp8,Zqb,Zqc,eq_self,and_true]
theorem again_con (T : Tm) : Con Try.prog 72 [] [tV T] [] (tV (agF T)) := by
  obtain ⟨o, w, l⟩ := T
  by_cases h : o = true
  · subst h
    refine con_j b72 rfl ?_
    sym =>
    simp [Zab,Zad,Zae,Zaf,Zak,Zal,Zam,Zaz,Za0,Za1,Za2,Za3,Za4,Za5,Za9,Zba,Zbt,Zbv,Zcv,Zcx,Zc3,Zev,Zew,Zez,Ze0,Ze1,Ze2,Ze3,Ze5,Ze8,Zfc,Zfd,Zfe,Zgr,Zgs,Zgt,Zgv,Zgw,Zgx,Zin,Zio,Zip,Ziu,Ziv,Ziw,Zi6,Zi7,Zjh,Zji,Zjn,Zjs,Zmt,Zmv,Zmw,Zmy,Zm0,Zm1,Zm2,Zm5,Zm6,Zm7,Zm9,Zna,Znb,Znn,Zno,Znp,Zof,Zog,Zos,Zot,Zo7,eq_self,true_and,and_true]
    tactic =>
    refine endA ?_
    unfold agF oneT
    sym =>
    simp [Zof,Zog,Zpa,Zp8,Zqb,Zqc,eq_self,and_true]
  · have h : o = false := by cases o; rfl; exact absurd rfl h
    subst h
    refine con_j b72 rfl ?_
    sym =>
    simp [Zaa,Zab,Zad,Zae,Zaf,Zak,Zal,Zam,Zaz,Za0,Za1,Za2,Za3,Za4,Za5,Za9,Zba,Zbt,Zbv,Zcv,Zcx,Zc3,Zev,Zez,Ze0,Ze1,Ze2,Ze3,Ze5,Ze8,Zfc,Zfd,Zfe,Zgr,Zgs,Zgt,Zgv,Zgw,Zgx,Zin,Zio,Zip,Ziu,Ziv,Ziw,Zi6,Zjh,Zji,Zjn,Zjs,Zmt,Zmv,Zmw,Zmy,Zm0,Zm1,Zm2,Zm5,Zm6,Zm7,Zm9,Zna,Znb,Znn,Zno,Znp,Zof,Zog,Zos,Zot,Zo7,eq_self,true_and,and_true]
    tactic =>
    refine endA ?_
    unfold agF oneT
    sym =>
    simp [Zof,Zog,Zo7,Zpa,Zp8,Zqb,Zqc,eq_self,and_true]
theorem ttick_con (T : Tm) (h : TOk T) : Con Try.prog 74 [] [tV T] [] (.tu [tV (tkF T).1, Bo (tkF T).2]) := by
  have hm := may_con T h
  obtain ⟨o, w, l⟩ := T
  rcases h with ⟨a, b, c⟩ | ⟨a, b, c, d⟩ <;> simp only at a b c
  · subst a; subst b; subst c
    refine con_j b74 rfl ?_
    sym =>
    simp [Zab,Zad,Zae,Zaf,Zak,Zal,Zam,Zao,Zaz,Za0,Za1,Za2,Za3,Za4,Za5,Za6,Za7,Za8,Za9,Zba,Zbb,Zbd,Zbj,Zbt,Zbv,Zcv,Zcx,Zc3,Zev,Zew,Zex,Zez,Ze0,Ze1,Ze2,Ze3,Ze5,Ze8,Zfc,Zfd,Zfe,Zfh,Zfi,Zfj,Zgd,Zgg,Zgr,Zgs,Zgt,Zgv,Zgw,Zgx,Zin,Zio,Zip,Ziu,Ziv,Ziw,Zi6,Zjh,Zji,Zjn,Zjs,Zmt,Zmv,Zmw,Zmx,Zmy,Zmz,Zm0,Zm1,Zm3,Zm5,Zm6,Zm7,Zm9,Zna,Znb,Znn,Zno,Znp,Zof,Zog,Zos,Zot,Zo4,Zo6,Zo7,eq_self,true_and,and_true]
    tactic =>
    refine endA ?_
    unfold tkF
    sym =>
    simp [Zof,Zog,Zpa,Zpb,Zp7,Zp9,Zqb,Zqc,Zqd,Zqe,eq_self,and_true]
  · simp only at d
    subst a
    have w1 : IntKind.i64.wrap (l - 1) = l - 1 := w64 _ (by omega)
    have w2 : IntKind.i64.wrap (w + w) = w + w := w64 _ (by omega)
    refine con_j b74 rfl ?_
    sym =>
    simp [Zab,Zad,Zam,Zaz,Za0,Za1,Za2,Za3,Za4,Za5,Za6,Za7,Za9,Zba,Zbb,Zbj,Zbt,Zbv,Zcv,Zcx,Zdc,Zdd,Zde,Zev,Zew,Zex,Zez,Ze0,Ze2,Ze3,Ze5,Ze8,Zfc,Zfd,Zfe,Zfh,Zgd,Zgg,Zgr,Zgs,Zgt,Zgv,Zgw,Zgx,Zin,Zio,Zip,Zi6,Zla,Zlb,Zlc,Zld,Zle,Zlf,Zlh,Zlk,Zm5,Zm6,Zm7,Zm9,Zna,Znb,Zne,Znf,Zng,Zof,Zog,Zos,Zot,Zo3,Zo7,eq_self,true_and,and_true,callable_106]
    tactic =>
    refine cl none (hm) trivial ?_
    by_cases h1 : 1 < l
    · have h2 : 0 < l - 1 := by omega
      have e : tkF (true, w, l) = ((true, w, l - 1), false) := by simp [tkF, h1]
      rw [e]
      sym =>
      simp [Zaa,Zab,Zad,Zae,Zaf,Zak,Zal,Zam,Zao,Zaz,Za0,Za1,Za2,Za3,Za4,Za5,Za6,Za7,Za9,Zba,Zbb,Zbd,Zbf,Zbj,Zbt,Zbv,Zc3,Zdi,Zev,Zew,Zex,Zez,Ze0,Ze1,Ze2,Ze3,Ze5,Ze8,Zfc,Zfd,Zfe,Zfh,Zfi,Zfl,Zfn,Zfr,Zf3,Zgd,Zgg,Zgr,Zgs,Zgt,Zgv,Zgw,Zgx,Ziu,Ziv,Ziw,Zi6,Zi7,Zjh,Zji,Zjn,Zjs,Zjw,Zlz,Zmt,Zmv,Zmw,Zmx,Zmy,Zmz,Zm0,Zm1,Zm3,Zm5,Zm6,Zm7,Zm9,Zna,Znb,Znn,Zno,Znp,Zof,Zog,Zo3,Zo7,Zo8,eq_self,true_and,and_true,w1,h2]
      tactic =>
      refine endA ?_
      sym =>
      simp [Zpa,Zpb,Zp7,Zp9,Zqb,Zqc,Zqd,Zqe,eq_self,and_true]
    · have h2 : ¬ 0 < l - 1 := by omega
      have e : tkF (true, w, l) = ((true, min (w + w) 16, min (w + w) 16), true) := by simp [tkF, h1]
      rw [e]
      sym =>
      simp [Zaa,Zab,Zad,Zae,Zaf,Zak,Zal,Zam,Zaz,Za0,Za1,Za2,Za3,Za4,Za5,Za6,Za7,Za9,Zba,Zbb,Zbd,Zbf,Zbj,Zbt,Zbv,Zct,Zc3,Zdi,Zev,Zew,Zex,Zez,Ze0,Ze1,Ze2,Ze3,Ze5,Ze8,Zfc,Zfd,Zfe,Zfh,Zfi,Zfl,Zfn,Zfq,Zfr,Zf3,Zgd,Zgg,Zgr,Zgs,Zgt,Zgv,Zgw,Zgx,Zif,Zig,Zik,Zil,Zim,Ziu,Ziv,Ziw,Zi6,Zi7,Zjh,Zji,Zjn,Zjs,Zjw,Zlz,Zmt,Zmv,Zmw,Zmx,Zmy,Zmz,Zm0,Zm1,Zm3,Zm5,Zm6,Zm7,Zm9,Zna,Znb,Znf,Zng,Znn,Zno,Znp,Zof,Zog,Zo3,Zo7,Zo9,eq_self,true_and,and_true,w1,w2,h2]
      tactic =>
      refine endA ?_
      sym =>
      simp [Zpa,Zpb,Zp7,Zp9,Zqb,Zqc,Zqd,Zqe,eq_self,and_true]
end Go.Proofs.Ytbmdahhhgpbchaa.ObA
