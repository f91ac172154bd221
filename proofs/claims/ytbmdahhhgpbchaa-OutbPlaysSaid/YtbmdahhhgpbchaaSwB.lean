import Derived.Test.YtbmdahhhgpbchaaSwA
namespace Go.Proofs.Ytbmdahhhgpbchaa.SwB
open Go Go.Sim Go.Sim.E Go.RowKit Go.Proofs Go.Proofs.Ytbmdahhhgpbchaa.Cod Go.Proofs.Ytbmdahhhgpbchaa.Tab Go.Proofs.Ytbmdahhhgpbchaa.Bse Go.Proofs.Ytbmdahhhgpbchaa.SpnP Go.Proofs.Ytbmdahhhgpbchaa.SwA
set_option linter.unusedVariables false
set_option linter.unusedSimpArgs false
set_option maxRecDepth 100000
set_option maxHeartbeats 4000000
def i44 (l : List Rg) (xa : Int) (k : Nat) (s : St) : Prop := ∃ i : Nat, ∃ c : List Rg, i + k = l.length ∧ c.length ≤ i ∧ cut xa l = c ++ cut xa (l.drop i) ∧
    s = ⟨[(4, .pt 0 0), (5, I xa), (6, .lv 1 0 c.length), (14, fR l), (15, I (IN l.length)), (16, I (IN i))], [(0, ⟨[.nl], 1, 0⟩), (1, ⟨cR c, 2, 0⟩)], 2⟩
theorem drop_cons {α : Type} (l : List α) (i : Nat) (h : i < l.length) : l.drop i = l[i] :: l.drop (i + 1) := List.drop_eq_getElem_cons h
theorem drop_all {α : Type} (l : List α) (i : Nat) (h : ¬ i < l.length) : l.drop i = [] := List.drop_of_length_le (by omega)
def endF (n : Int) : List Rg → Int
  | [] => n
  | r :: l => if r.1 ≤ n ∧ n < r.2 then r.2 else endF n l
def i40 (l : List Rg) (xa : Int) (k : Nat) (s : St) : Prop := ∃ i : Nat, i + k = l.length ∧ endF xa l = endF xa (l.drop i) ∧
    s = ⟨[(5, I xa), (13, fR l), (14, I (IN l.length)), (15, I (IN i))], [], 0⟩
theorem end_con (l : List Rg) (hl : l.length < 1000000) (a : Int) : Con Try.prog 112 [] [.ag [fR l], I a] [] (I (endF (lim a) l)) := by
  refine con_j b112 rfl ?_
  sym =>
  simp [Zaa,Zab,Zad,Zae,Zaf,Zag,Zah,Zai,Zak,Zal,Zam,Zan,Zao,Zap,Zaq,Zar,Zav,Zaw,Zax,Zay,Zaz,Za0,Za1,Za2,Za3,Za4,Za5,Za6,Za7,Za8,Za9,Zba,Zbb,Zbd,Zbf,Zbt,Zbv,Zbx,Zb1,Zcn,Zcv,Zcx,Zc3,Zdc,Zdd,Zde,Zdi,Zev,Zew,Zex,Zez,Ze0,Ze1,Ze2,Ze3,Ze5,Ze8,Zfc,Zfd,Zfe,Zfh,Zfi,Zfk,Zfl,Zfn,Zfq,Zf1,Zf4,Zgr,Zgs,Zgt,Zgu,Zgv,Zgw,Zgx,Zgz,Zg0,Zg4,Zg6,Zho,Zh6,Zh7,Zin,Zio,Zip,Ziu,Ziv,Ziw,Zi6,Zjh,Zji,Zjn,Zjq,Zkv,Zkw,Zkx,Zla,Zlb,Zle,Zlj,Zlz,Zmt,Zmv,Zmw,Zmx,Zmz,Zm2,Zm5,Zm6,Zm7,Zm9,Zna,Znb,Zne,Znf,Zng,Znn,Zno,Znp,Zns,Znt,Znw,Zn5,Zos,Zot,Zo7,Zo8,Zo9,Zpc,Zpi,Zqf,Zqg,Zqh,Zqm,eq_self,true_and,and_true,callable_130]
  tactic =>
  refine cl none (near_con a a) trivial ?_
  sym =>
  simp [Zaa,Zab,Zad,Zae,Zaf,Zag,Zah,Zai,Zak,Zal,Zam,Zan,Zao,Zap,Zaq,Zar,Zav,Zaw,Zax,Zay,Zaz,Za0,Za1,Za2,Za3,Za4,Za5,Za6,Za7,Za8,Za9,Zba,Zbb,Zbd,Zbf,Zbt,Zbv,Zbx,Zb1,Zcn,Zcv,Zcx,Zc3,Zdc,Zdd,Zde,Zdi,Zev,Zew,Zex,Zez,Ze0,Ze1,Ze2,Ze3,Ze5,Ze8,Zfc,Zfd,Zfe,Zfh,Zfi,Zfk,Zfl,Zfn,Zfq,Zf1,Zf4,Zgr,Zgs,Zgt,Zgu,Zgv,Zgw,Zgx,Zgz,Zg0,Zg4,Zg6,Zho,Zh6,Zh7,Zin,Zio,Zip,Ziu,Ziv,Ziw,Zi6,Zjh,Zji,Zjn,Zjq,Zkv,Zkw,Zkx,Zla,Zlb,Zle,Zlj,Zlz,Zmt,Zmv,Zmw,Zmx,Zmz,Zm2,Zm5,Zm6,Zm7,Zm9,Zna,Znb,Zne,Znf,Zng,Znn,Zno,Znp,Zns,Znt,Znw,Zn5,Zos,Zot,Zo7,Zo8,Zo9,Zpc,Zpi,Zqf,Zqg,Zqh,Zqm,eq_self,true_and,and_true]
  tactic =>
  generalize lim a = xa at *
  refine lpA (i40 l xa) l.length [] _ ⟨0, by omega, by simp, rfl⟩ (wkA ?_) ?_
  · sym =>
    simp [Zaa,Zab,Zad,Zae,Zaf,Zag,Zah,Zai,Zak,Zal,Zam,Zan,Zao,Zap,Zaq,Zar,Zav,Zaw,Zax,Zay,Zaz,Za0,Za1,Za2,Za3,Za4,Za5,Za6,Za7,Za8,Za9,Zba,Zbb,Zbd,Zbf,Zbt,Zbv,Zbx,Zb1,Zcn,Zcv,Zcx,Zc3,Zdc,Zdd,Zde,Zdi,Zev,Zew,Zex,Zez,Ze0,Ze1,Ze2,Ze3,Ze5,Ze8,Zfc,Zfd,Zfe,Zfh,Zfi,Zfk,Zfl,Zfn,Zfq,Zf1,Zf4,Zgr,Zgs,Zgt,Zgu,Zgv,Zgw,Zgx,Zgz,Zg0,Zg4,Zg6,Zho,Zh6,Zh7,Zin,Zio,Zip,Ziu,Ziv,Ziw,Zi6,Zjh,Zji,Zjn,Zjq,Zkv,Zkw,Zkx,Zla,Zlb,Zle,Zlj,Zlz,Zmt,Zmv,Zmw,Zmx,Zmz,Zm2,Zm5,Zm6,Zm7,Zm9,Zna,Znb,Zne,Znf,Zng,Znn,Zno,Znp,Zns,Znt,Znw,Zn5,Zos,Zot,Zo7,Zo8,Zo9,Zpc,Zpi,Zqf,Zqg,Zqh,Zqm,eq_self,true_and,and_true]
  rintro k s ⟨i, hi, he, rfl⟩
  by_cases h : i < l.length
  · have hw := w64s i (by omega)
    have h0 := cR_q0 l i h
    have h1 := cR_q1 l i h
    rw [drop_cons l i h, endF] at he
    by_cases g1 : l[i].1 ≤ xa
    · by_cases g2 : xa < l[i].2
      · sym =>
        simp [Zaa,Zab,Zad,Zae,Zaf,Zag,Zah,Zai,Zak,Zal,Zam,Zan,Zao,Zap,Zaq,Zar,Zav,Zaw,Zax,Zay,Zaz,Za0,Za1,Za2,Za3,Za4,Za5,Za6,Za7,Za8,Za9,Zba,Zbb,Zbd,Zbf,Zbt,Zbv,Zbx,Zb1,Zcn,Zcv,Zcx,Zc3,Zdc,Zdd,Zde,Zdi,Zev,Zew,Zex,Zez,Ze0,Ze1,Ze2,Ze3,Ze5,Ze8,Zfc,Zfd,Zfe,Zfh,Zfi,Zfk,Zfl,Zfn,Zfq,Zf1,Zf4,Zgr,Zgs,Zgt,Zgu,Zgv,Zgw,Zgx,Zgz,Zg0,Zg4,Zg6,Zho,Zh6,Zh7,Zin,Zio,Zip,Ziu,Ziv,Ziw,Zi6,Zjh,Zji,Zjn,Zjq,Zkv,Zkw,Zkx,Zla,Zlb,Zle,Zlj,Zlz,Zmt,Zmv,Zmw,Zmx,Zmz,Zm2,Zm5,Zm6,Zm7,Zm9,Zna,Znb,Zne,Znf,Zng,Znn,Zno,Znp,Zns,Znt,Znw,Zn5,Zos,Zot,Zo7,Zo8,Zo9,Zpc,Zpi,Zqf,Zqg,Zqh,Zqm,eq_self,true_and,and_true,h,h0,h1,hw,g1,g2,cR_length]
        tactic =>
        and_intros <;> try (first | omega | rfl | assumption | exact cR_okF _ | exact cR_okI _ | exact rs_self (cR_okI _) | (symm; refine List.take_of_length_le ?_; simp <;> omega))
        rw [if_pos ⟨g1, g2⟩] at he
        refine endA ?_
        rw [he]
        sym =>
        simp [Zaa,Zab,Zad,Zae,Zaf,Zag,Zah,Zai,Zak,Zal,Zam,Zan,Zao,Zap,Zaq,Zar,Zav,Zaw,Zax,Zay,Zaz,Za0,Za1,Za2,Za3,Za4,Za5,Za6,Za7,Za8,Za9,Zba,Zbb,Zbd,Zbf,Zbt,Zbv,Zbx,Zb1,Zcn,Zcv,Zcx,Zc3,Zdc,Zdd,Zde,Zdi,Zev,Zew,Zex,Zez,Ze0,Ze1,Ze2,Ze3,Ze5,Ze8,Zfc,Zfd,Zfe,Zfh,Zfi,Zfk,Zfl,Zfn,Zfq,Zf1,Zf4,Zgr,Zgs,Zgt,Zgu,Zgv,Zgw,Zgx,Zgz,Zg0,Zg4,Zg6,Zho,Zh6,Zh7,Zin,Zio,Zip,Ziu,Ziv,Ziw,Zi6,Zjh,Zji,Zjn,Zjq,Zkv,Zkw,Zkx,Zla,Zlb,Zle,Zlj,Zlz,Zmt,Zmv,Zmw,Zmx,Zmz,Zm2,Zm5,Zm6,Zm7,Zm9,Zna,Znb,Zne,Znf,Zng,Znn,Zno,Znp,Zns,Znt,Znw,Zn5,Zos,Zot,Zo7,Zo8,Zo9,Zpc,Zpi,Zqf,Zqg,Zqh,Zqm,eq_self,true_and,and_true]
      · sym =>
        simp [Zaa,Zab,Zad,Zae,Zaf,Zag,Zah,Zai,Zak,Zal,Zam,Zan,Zao,Zap,Zaq,Zar,Zav,Zaw,Zax,Zay,Zaz,Za0,Za1,Za2,Za3,Za4,Za5,Za6,Za7,Za8,Za9,Zba,Zbb,Zbd,Zbf,Zbt,Zbv,Zbx,Zb1,Zcn,Zcv,Zcx,Zc3,Zdc,Zdd,Zde,Zdi,Zev,Zew,Zex,Zez,Ze0,Ze1,Ze2,Ze3,Ze5,Ze8,Zfc,Zfd,Zfe,Zfh,Zfi,Zfk,Zfl,Zfn,Zfq,Zf1,Zf4,Zgr,Zgs,Zgt,Zgu,Zgv,Zgw,Zgx,Zgz,Zg0,Zg4,Zg6,Zho,Zh6,Zh7,Zin,Zio,Zip,Ziu,Ziv,Ziw,Zi6,Zjh,Zji,Zjn,Zjq,Zkv,Zkw,Zkx,Zla,Zlb,Zle,Zlj,Zlz,Zmt,Zmv,Zmw,Zmx,Zmz,Zm2,Zm5,Zm6,Zm7,Zm9,Zna,Znb,Zne,Znf,Zng,Znn,Zno,Znp,Zns,Znt,Znw,Zn5,Zos,Zot,Zo7,Zo8,Zo9,Zpc,Zpi,Zqf,Zqg,Zqh,Zqm,eq_self,true_and,and_true,h,h0,h1,hw,g1,g2,cR_length]
        tactic =>
        and_intros <;> try (first | omega | rfl | assumption | exact cR_okF _ | exact cR_okI _ | exact rs_self (cR_okI _) | (symm; refine List.take_of_length_le ?_; simp <;> omega))
        unfold NextL; refine ⟨(k - 1), [], _, by omega, ⟨i + 1, by omega, by rw [he, if_neg (by omega)], rfl⟩, wkA ?_⟩
        sym =>
        simp [Zaa,Zab,Zad,Zae,Zaf,Zag,Zah,Zai,Zak,Zal,Zam,Zan,Zao,Zap,Zaq,Zar,Zav,Zaw,Zax,Zay,Zaz,Za0,Za1,Za2,Za3,Za4,Za5,Za6,Za7,Za8,Za9,Zba,Zbb,Zbd,Zbf,Zbt,Zbv,Zbx,Zb1,Zcn,Zcv,Zcx,Zc3,Zdc,Zdd,Zde,Zdi,Zev,Zew,Zex,Zez,Ze0,Ze1,Ze2,Ze3,Ze5,Ze8,Zfc,Zfd,Zfe,Zfh,Zfi,Zfk,Zfl,Zfn,Zfq,Zf1,Zf4,Zgr,Zgs,Zgt,Zgu,Zgv,Zgw,Zgx,Zgz,Zg0,Zg4,Zg6,Zho,Zh6,Zh7,Zin,Zio,Zip,Ziu,Ziv,Ziw,Zi6,Zjh,Zji,Zjn,Zjq,Zkv,Zkw,Zkx,Zla,Zlb,Zle,Zlj,Zlz,Zmt,Zmv,Zmw,Zmx,Zmz,Zm2,Zm5,Zm6,Zm7,Zm9,Zna,Znb,Zne,Znf,Zng,Znn,Zno,Znp,Zns,Znt,Znw,Zn5,Zos,Zot,Zo7,Zo8,Zo9,Zpc,Zpi,Zqf,Zqg,Zqh,Zqm,eq_self,true_and,and_true]
    · sym =>
      simp [Zaa,Zab,Zad,Zae,Zaf,Zag,Zah,Zai,Zak,Zal,Zam,Zan,Zao,Zap,Zaq,Zar,Zav,Zaw,Zax,Zay,Zaz,Za0,Za1,Za2,Za3,Za4,Za5,Za6,Za7,Za8,Za9,Zba,Zbb,Zbd,Zbf,Zbt,Zbv,Zbx,Zb1,Zcn,Zcv,Zcx,Zc3,Zdc,Zdd,Zde,Zdi,Zev,Zew,Zex,Zez,Ze0,Ze1,Ze2,Ze3,Ze5,Ze8,Zfc,Zfd,Zfe,Zfh,Zfi,Zfk,Zfl,Zfn,Zfq,Zf1,Zf4,Zgr,Zgs,Zgt,Zgu,Zgv,Zgw,Zgx,Zgz,Zg0,Zg4,Zg6,Zho,Zh6,Zh7,Zin,Zio,Zip,Ziu,Ziv,Ziw,Zi6,Zjh,Zji,Zjn,Zjq,Zkv,Zkw,Zkx,Zla,Zlb,Zle,Zlj,Zlz,Zmt,Zmv,Zmw,Zmx,Zmz,Zm2,Zm5,Zm6,Zm7,Zm9,Zna,Znb,Zne,Znf,Zng,Znn,Zno,Znp,Zns,Znt,Znw,Zn5,Zos,Zot,Zo7,Zo8,Zo9,Zpc,Zpi,Zqf,Zqg,Zqh,Zqm,eq_self,true_and,and_true,h,h0,h1,hw,g1,cR_length]
      tactic =>
      and_intros <;> try (first | omega | rfl | assumption | exact cR_okF _ | exact cR_okI _ | exact rs_self (cR_okI _) | (symm; refine List.take_of_length_le ?_; simp <;> omega))
      unfold NextL; refine ⟨(k - 1), [], _, by omega, ⟨i + 1, by omega, by rw [he, if_neg (by omega)], rfl⟩, wkA ?_⟩
      sym =>
      simp [Zaa,Zab,Zad,Zae,Zaf,Zag,Zah,Zai,Zak,Zal,Zam,Zan,Zao,Zap,Zaq,Zar,Zav,Zaw,Zax,Zay,Zaz,Za0,Za1,Za2,Za3,Za4,Za5,Za6,Za7,Za8,Za9,Zba,Zbb,Zbd,Zbf,Zbt,Zbv,Zbx,Zb1,Zcn,Zcv,Zcx,Zc3,Zdc,Zdd,Zde,Zdi,Zev,Zew,Zex,Zez,Ze0,Ze1,Ze2,Ze3,Ze5,Ze8,Zfc,Zfd,Zfe,Zfh,Zfi,Zfk,Zfl,Zfn,Zfq,Zf1,Zf4,Zgr,Zgs,Zgt,Zgu,Zgv,Zgw,Zgx,Zgz,Zg0,Zg4,Zg6,Zho,Zh6,Zh7,Zin,Zio,Zip,Ziu,Ziv,Ziw,Zi6,Zjh,Zji,Zjn,Zjq,Zkv,Zkw,Zkx,Zla,Zlb,Zle,Zlj,Zlz,Zmt,Zmv,Zmw,Zmx,Zmz,Zm2,Zm5,Zm6,Zm7,Zm9,Zna,Znb,Zne,Znf,Zng,Znn,Zno,Znp,Zns,Znt,Znw,Zn5,Zos,Zot,Zo7,Zo8,Zo9,Zpc,Zpi,Zqf,Zqg,Zqh,Zqm,eq_self,true_and,and_true]
  · rw [drop_all l i h, endF] at he
    sym =>
    simp [Zaa,Zab,Zad,Zae,Zaf,Zag,Zah,Zai,Zak,Zal,Zam,Zan,Zao,Zap,Zaq,Zar,Zav,Zaw,Zax,Zay,Zaz,Za0,Za1,Za2,Za3,Za4,Za5,Za6,Za7,Za8,Za9,Zba,Zbb,Zbd,Zbf,Zbt,Zbv,Zbx,Zb1,Zcn,Zcv,Zcx,Zc3,Zdc,Zdd,Zde,Zdi,Zev,Zew,Zex,Zez,Ze0,Ze1,Ze2,Ze3,Ze5,Ze8,Zfc,Zfd,Zfe,Zfh,Zfi,Zfk,Zfl,Zfn,Zfq,Zf1,Zf4,Zgr,Zgs,Zgt,Zgu,Zgv,Zgw,Zgx,Zgz,Zg0,Zg4,Zg6,Zho,Zh6,Zh7,Zin,Zio,Zip,Ziu,Ziv,Ziw,Zi6,Zjh,Zji,Zjn,Zjq,Zkv,Zkw,Zkx,Zla,Zlb,Zle,Zlj,Zlz,Zmt,Zmv,Zmw,Zmx,Zmz,Zm2,Zm5,Zm6,Zm7,Zm9,Zna,Znb,Zne,Znf,Zng,Znn,Zno,Znp,Zns,Znt,Znw,Zn5,Zos,Zot,Zo7,Zo8,Zo9,Zpc,Zpi,Zqf,Zqg,Zqh,Zqm,eq_self,true_and,and_true,h]
    tactic =>
    refine endA ?_
    rw [he]
    sym =>
    simp [Zaa,Zab,Zad,Zae,Zaf,Zag,Zah,Zai,Zak,Zal,Zam,Zan,Zao,Zap,Zaq,Zar,Zav,Zaw,Zax,Zay,Zaz,Za0,Za1,Za2,Za3,Za4,Za5,Za6,Za7,Za8,Za9,Zba,Zbb,Zbd,Zbf,Zbt,Zbv,Zbx,Zb1,Zcn,Zcv,Zcx,Zc3,Zdc,Zdd,Zde,Zdi,Zev,Zew,Zex,Zez,Ze0,Ze1,Ze2,Ze3,Ze5,Ze8,Zfc,Zfd,Zfe,Zfh,Zfi,Zfk,Zfl,Zfn,Zfq,Zf1,Zf4,Zgr,Zgs,Zgt,Zgu,Zgv,Zgw,Zgx,Zgz,Zg0,Zg4,Zg6,Zho,Zh6,Zh7,Zin,Zio,Zip,Ziu,Ziv,Ziw,Zi6,Zjh,Zji,Zjn,Zjq,Zkv,Zkw,Zkx,Zla,Zlb,Zle,Zlj,Zlz,Zmt,Zmv,Zmw,Zmx,Zmz,Zm2,Zm5,Zm6,Zm7,Zm9,Zna,Znb,Zne,Znf,Zng,Znn,Zno,Znp,Zns,Znt,Znw,Zn5,Zos,Zot,Zo7,Zo8,Zo9,Zpc,Zpi,Zqf,Zqg,Zqh,Zqm,eq_self,true_and,and_true]
theorem has_in (a n c : Int) : Con Try.prog 135 [] [.ag [I a, I c], .fp [I n] 0] [] (Bo (decide (a ≤ n ∧ n < c))) := by
  refine con_j b135 rfl ?_
  by_cases h1 : a ≤ n
  · sym =>
    simp [Zab,Zad,Zak,Zam,Zaz,Za0,Za1,Za2,Za3,Za4,Za5,Za6,Za7,Za8,Za9,Zba,Zbb,Zbd,Zbf,Zbt,Zbv,Zcx,Zev,Zew,Zex,Zez,Ze0,Ze2,Ze3,Ze5,Ze8,Zfc,Zfd,Zfe,Zfh,Zfi,Zfk,Zfl,Zfn,Zf1,Zf4,Zgr,Zgs,Zgt,Zgu,Zgv,Zgw,Zgx,Zio,Zip,Zi6,Zmt,Zmv,Zmw,Zmx,Zmz,Zm2,Zm6,Zm9,Zna,Znb,Zos,Zot,Zo7,Zo8,Zo9,Zpc,eq_self,true_and,false_and,h1]
    tactic =>
    refine endA ?_
    sym =>
    simp [Zab,Zad,Zak,Zam,Zaz,Za0,Za1,Za2,Za3,Za4,Za5,Za6,Za7,Za8,Za9,Zba,Zbb,Zbd,Zbf,Zbt,Zbv,Zcx,Zev,Zew,Zex,Zez,Ze0,Ze2,Ze3,Ze5,Ze8,Zfc,Zfd,Zfe,Zfh,Zfi,Zfk,Zfl,Zfn,Zf1,Zf4,Zgr,Zgs,Zgt,Zgu,Zgv,Zgw,Zgx,Zio,Zip,Zi6,Zmt,Zmv,Zmw,Zmx,Zmz,Zm2,Zm6,Zm9,Zna,Znb,Zos,Zot,Zo7,Zo8,Zo9,Zpc,eq_self,true_and,false_and,h1]
  · sym =>
    simp [Zab,Zad,Zak,Zam,Zaz,Za0,Za1,Za2,Za3,Za4,Za5,Za6,Za7,Za8,Za9,Zba,Zbb,Zbd,Zbf,Zbt,Zbv,Zcx,Zev,Zew,Zex,Zez,Ze0,Ze2,Ze3,Ze5,Ze8,Zfc,Zfd,Zfe,Zfh,Zfi,Zfk,Zfl,Zfn,Zf1,Zf4,Zgr,Zgs,Zgt,Zgu,Zgv,Zgw,Zgx,Zio,Zip,Zi6,Zmt,Zmv,Zmw,Zmx,Zmz,Zm2,Zm6,Zm9,Zna,Znb,Zos,Zot,Zo7,Zo8,Zo9,Zpc,eq_self,true_and,false_and,h1]
    tactic =>
    refine endA ?_
    sym =>
    simp [Zab,Zad,Zak,Zam,Zaz,Za0,Za1,Za2,Za3,Za4,Za5,Za6,Za7,Za8,Za9,Zba,Zbb,Zbd,Zbf,Zbt,Zbv,Zcx,Zev,Zew,Zex,Zez,Ze0,Ze2,Ze3,Ze5,Ze8,Zfc,Zfd,Zfe,Zfh,Zfi,Zfk,Zfl,Zfn,Zf1,Zf4,Zgr,Zgs,Zgt,Zgu,Zgv,Zgw,Zgx,Zio,Zip,Zi6,Zmt,Zmv,Zmw,Zmx,Zmz,Zm2,Zm6,Zm9,Zna,Znb,Zos,Zot,Zo7,Zo8,Zo9,Zpc,eq_self,true_and,false_and,h1]
def idxF (n : Int) : List Rg → Nat → Int
  | [], _ => -1
  | r :: l, i => if r.1 ≤ n ∧ n < r.2 then IN i else idxF n l (i + 1)
def i82 (l : List Rg) (n : Int) (k : Nat) (s : St) : Prop := ∃ i : Nat, i + k = l.length ∧ idxF n l 0 = idxF n (l.drop i) i ∧
    s = ⟨[(0, fR l), (1, .fn 135 [.fp [I n] 0]), (7, I (IN l.length)), (8, I (IN i))], [], 0⟩
theorem index_con (l : List Rg) (hl : l.length < 1000000) (n : Int) : Con Try.prog 143 [] [fR l, .fn 135 [.fp [I n] 0]] [] (I (idxF n l 0)) := by
  refine con_j b143 rfl ?_
  sym =>
  simp [Zaa,Zab,Zad,Zae,Zaf,Zag,Zah,Zai,Zak,Zal,Zam,Zan,Zao,Zap,Zaq,Zar,Zav,Zaw,Zax,Zay,Zaz,Za0,Za1,Za2,Za3,Za4,Za5,Za9,Zba,Zbb,Zbf,Zbt,Zb1,Zcn,Zdc,Zdd,Zde,Zdi,Zev,Zew,Zez,Ze0,Ze2,Ze5,Zfd,Zfe,Zfh,Zfn,Zfq,Zf1,Zgr,Zgu,Zg4,Zg6,Zho,Zh6,Zh7,Zjw,Zla,Zlb,Zlc,Zld,Zle,Zlf,Zlh,Zlk,Zln,Zlz,Zmt,Zmv,Zmw,Zmx,Zmz,Zm2,Zm5,Zm7,Zna,Znb,Znc,Znd,Zne,Znf,Zng,Zns,Znt,Znw,Zn5,Zos,Zot,Zo7,Zo8,Zo9,Zpc,Zpi,Zpj,Zqa,Zqb,Zqc,Zqf,Zqg,Zqh,Zqm,eq_self,true_and,and_true]
  tactic =>
  refine lpA (i82 l n) l.length [] _ ⟨0, by omega, by simp, rfl⟩ (wkA ?_) ?_
  · sym =>
    simp [Zaa,Zab,Zad,Zae,Zaf,Zag,Zah,Zai,Zak,Zal,Zam,Zan,Zao,Zap,Zaq,Zar,Zav,Zaw,Zax,Zay,Zaz,Za0,Za1,Za2,Za3,Za4,Za5,Za9,Zba,Zbb,Zbf,Zbt,Zb1,Zcn,Zdc,Zdd,Zde,Zdi,Zev,Zew,Zez,Ze0,Ze2,Ze5,Zfd,Zfe,Zfh,Zfn,Zfq,Zf1,Zgr,Zgu,Zg4,Zg6,Zho,Zh6,Zh7,Zjw,Zla,Zlb,Zlc,Zld,Zle,Zlf,Zlh,Zlk,Zln,Zlz,Zmt,Zmv,Zmw,Zmx,Zmz,Zm2,Zm5,Zm7,Zna,Znb,Znc,Znd,Zne,Znf,Zng,Zns,Znt,Znw,Zn5,Zos,Zot,Zo7,Zo8,Zo9,Zpc,Zpi,Zpj,Zqa,Zqb,Zqc,Zqf,Zqg,Zqh,Zqm,eq_self,true_and,and_true]
  rintro k s ⟨i, hi, he, rfl⟩
  by_cases h : i < l.length
  · have hw := w64s i (by omega)
    have h0 := cR_q0 l i h
    have h1 := cR_q1 l i h
    rw [drop_cons l i h, idxF] at he
    sym =>
    simp [Zaa,Zab,Zad,Zae,Zaf,Zag,Zah,Zai,Zak,Zal,Zam,Zan,Zao,Zap,Zaq,Zar,Zav,Zaw,Zax,Zay,Zaz,Za0,Za1,Za2,Za3,Za4,Za5,Za9,Zba,Zbb,Zbf,Zbt,Zb1,Zcn,Zdc,Zdd,Zde,Zdi,Zev,Zew,Zez,Ze0,Ze2,Ze5,Zfd,Zfe,Zfh,Zfn,Zfq,Zf1,Zgr,Zgu,Zg4,Zg6,Zho,Zh6,Zh7,Zjw,Zla,Zlb,Zlc,Zld,Zle,Zlf,Zlh,Zlk,Zln,Zlz,Zmt,Zmv,Zmw,Zmx,Zmz,Zm2,Zm5,Zm7,Zna,Znb,Znc,Znd,Zne,Znf,Zng,Zns,Znt,Znw,Zn5,Zos,Zot,Zo7,Zo8,Zo9,Zpc,Zpi,Zpj,Zqa,Zqb,Zqc,Zqf,Zqg,Zqh,Zqm,eq_self,true_and,and_true,h,h0,h1,hw,cR_length,callable_135]
    tactic =>
    and_intros <;> try (first | omega | rfl | assumption | exact cR_okF _ | exact cR_okI _ | exact rs_self (cR_okI _) | (symm; refine List.take_of_length_le ?_; simp <;> omega))
    refine cl none (has_in _ _ _) trivial ?_
    by_cases g1 : l[i].1 ≤ n ∧ n < l[i].2
    · rw [if_pos g1] at he
      sym =>
      simp [Zaa,Zab,Zad,Zae,Zaf,Zag,Zah,Zai,Zak,Zal,Zam,Zan,Zao,Zap,Zaq,Zar,Zav,Zaw,Zax,Zay,Zaz,Za0,Za1,Za2,Za3,Za4,Za5,Za9,Zba,Zbb,Zbf,Zbt,Zb1,Zcn,Zdc,Zdd,Zde,Zdi,Zev,Zew,Zez,Ze0,Ze2,Ze5,Zfd,Zfe,Zfh,Zfn,Zfq,Zf1,Zgr,Zgu,Zg4,Zg6,Zho,Zh6,Zh7,Zjw,Zla,Zlb,Zlc,Zld,Zle,Zlf,Zlh,Zlk,Zln,Zlz,Zmt,Zmv,Zmw,Zmx,Zmz,Zm2,Zm5,Zm7,Zna,Znb,Znc,Znd,Zne,Znf,Zng,Zns,Znt,Znw,Zn5,Zos,Zot,Zo7,Zo8,Zo9,Zpc,Zpi,Zpj,Zqa,Zqb,Zqc,Zqf,Zqg,Zqh,Zqm,eq_self,true_and,and_true,g1]
      tactic =>
      refine endA ?_
      rw [he]
      sym =>
      simp [Zaa,Zab,Zad,Zae,Zaf,Zag,Zah,Zai,Zak,Zal,Zam,Zan,Zao,Zap,Zaq,Zar,Zav,Zaw,Zax,Zay,Zaz,Za0,Za1,Za2,Za3,Za4,Za5,Za9,Zba,Zbb,Zbf,Zbt,Zb1,Zcn,Zdc,Zdd,Zde,Zdi,Zev,Zew,Zez,Ze0,Ze2,Ze5,Zfd,Zfe,Zfh,Zfn,Zfq,Zf1,Zgr,Zgu,Zg4,Zg6,Zho,Zh6,Zh7,Zjw,Zla,Zlb,Zlc,Zld,Zle,Zlf,Zlh,Zlk,Zln,Zlz,Zmt,Zmv,Zmw,Zmx,Zmz,Zm2,Zm5,Zm7,Zna,Znb,Znc,Znd,Zne,Znf,Zng,Zns,Znt,Znw,Zn5,Zos,Zot,Zo7,Zo8,Zo9,Zpc,Zpi,Zpj,Zqa,Zqb,Zqc,Zqf,Zqg,Zqh,Zqm,eq_self,true_and,and_true]
    · rw [if_neg g1] at he
      sym =>
      simp [Zaa,Zab,Zad,Zae,Zaf,Zag,Zah,Zai,Zak,Zal,Zam,Zan,Zao,Zap,Zaq,Zar,Zav,Zaw,Zax,Zay,Zaz,Za0,Za1,Za2,Za3,Za4,Za5,Za9,Zba,Zbb,Zbf,Zbt,Zb1,Zcn,Zdc,Zdd,Zde,Zdi,Zev,Zew,Zez,Ze0,Ze2,Ze5,Zfd,Zfe,Zfh,Zfn,Zfq,Zf1,Zgr,Zgu,Zg4,Zg6,Zho,Zh6,Zh7,Zjw,Zla,Zlb,Zlc,Zld,Zle,Zlf,Zlh,Zlk,Zln,Zlz,Zmt,Zmv,Zmw,Zmx,Zmz,Zm2,Zm5,Zm7,Zna,Znb,Znc,Znd,Zne,Znf,Zng,Zns,Znt,Znw,Zn5,Zos,Zot,Zo7,Zo8,Zo9,Zpc,Zpi,Zpj,Zqa,Zqb,Zqc,Zqf,Zqg,Zqh,Zqm,eq_self,true_and,and_true,g1,hw]
      tactic =>
      unfold NextL; refine ⟨(k - 1), [], _, by omega, ⟨i + 1, by omega, he, rfl⟩, wkA ?_⟩
      sym =>
      simp [Zaa,Zab,Zad,Zae,Zaf,Zag,Zah,Zai,Zak,Zal,Zam,Zan,Zao,Zap,Zaq,Zar,Zav,Zaw,Zax,Zay,Zaz,Za0,Za1,Za2,Za3,Za4,Za5,Za9,Zba,Zbb,Zbf,Zbt,Zb1,Zcn,Zdc,Zdd,Zde,Zdi,Zev,Zew,Zez,Ze0,Ze2,Ze5,Zfd,Zfe,Zfh,Zfn,Zfq,Zf1,Zgr,Zgu,Zg4,Zg6,Zho,Zh6,Zh7,Zjw,Zla,Zlb,Zlc,Zld,Zle,Zlf,Zlh,Zlk,Zln,Zlz,Zmt,Zmv,Zmw,Zmx,Zmz,Zm2,Zm5,Zm7,Zna,Znb,Znc,Znd,Zne,Znf,Zng,Zns,Znt,Znw,Zn5,Zos,Zot,Zo7,Zo8,Zo9,Zpc,Zpi,Zpj,Zqa,Zqb,Zqc,Zqf,Zqg,Zqh,Zqm,eq_self,true_and,and_true]
  · rw [drop_all l i h, idxF] at he
    sym =>
    simp [Zaa,Zab,Zad,Zae,Zaf,Zag,Zah,Zai,Zak,Zal,Zam,Zan,Zao,Zap,Zaq,Zar,Zav,Zaw,Zax,Zay,Zaz,Za0,Za1,Za2,Za3,Za4,Za5,Za9,Zba,Zbb,Zbf,Zbt,Zb1,Zcn,Zdc,Zdd,Zde,Zdi,Zev,Zew,Zez,Ze0,Ze2,Ze5,Zfd,Zfe,Zfh,Zfn,Zfq,Zf1,Zgr,Zgu,Zg4,Zg6,Zho,Zh6,Zh7,Zjw,Zla,Zlb,Zlc,Zld,Zle,Zlf,Zlh,Zlk,Zln,Zlz,Zmt,Zmv,Zmw,Zmx,Zmz,Zm2,Zm5,Zm7,Zna,Znb,Znc,Znd,Zne,Znf,Zng,Zns,Znt,Znw,Zn5,Zos,Zot,Zo7,Zo8,Zo9,Zpc,Zpi,Zpj,Zqa,Zqb,Zqc,Zqf,Zqg,Zqh,Zqm,eq_self,true_and,and_true,h]
    tactic =>
    refine endA ?_
    rw [he]
    sym =>
    simp [Zaa,Zab,Zad,Zae,Zaf,Zag,Zah,Zai,Zak,Zal,Zam,Zan,Zao,Zap,Zaq,Zar,Zav,Zaw,Zax,Zay,Zaz,Za0,Za1,Za2,Za3,Za4,Za5,Za9,Zba,Zbb,Zbf,Zbt,Zb1,Zcn,Zdc,Zdd,Zde,Zdi,Zev,Zew,Zez,Ze0,Ze2,Ze5,Zfd,Zfe,Zfh,Zfn,Zfq,Zf1,Zgr,Zgu,Zg4,Zg6,Zho,Zh6,Zh7,Zjw,Zla,Zlb,Zlc,Zld,Zle,Zlf,Zlh,Zlk,Zln,Zlz,Zmt,Zmv,Zmw,Zmx,Zmz,Zm2,Zm5,Zm7,Zna,Znb,Znc,Znd,Zne,Znf,Zng,Zns,Znt,Znw,Zn5,Zos,Zot,Zo7,Zo8,Zo9,Zpc,Zpi,Zpj,Zqa,Zqb,Zqc,Zqf,Zqg,Zqh,Zqm,eq_self,true_and,and_true]
def hasF (l : List Rg) (n : Int) : Bool := l.any fun r => decide (r.1 ≤ n ∧ n < r.2)
theorem idx_has (n : Int) : ∀ (l : List Rg) (i : Nat), decide (0 ≤ idxF n l i) = hasF l n
  | [], i => rfl
  | r :: l, i => by
    unfold idxF
    by_cases h : r.1 ≤ n ∧ n < r.2
    · rw [if_pos h]
      simp [hasF, h, IN]
    · rw [if_neg h, idx_has n l (i + 1)]
      simp only [hasF, List.any_cons, decide_eq_false h, Bool.false_or]
theorem contains_con (l : List Rg) (hl : l.length < 1000000) (n : Int) : Con Try.prog 134 [] [fR l, .fn 135 [.fp [I n] 0]] [] (Bo (hasF l n)) := by
  refine con_j b134 rfl ?_
  sym =>
  simp [Zab,Zad,Zak,Zam,Zaz,Za0,Za1,Za2,Za3,Za4,Za5,Za9,Zba,Zbb,Zbf,Zdc,Zdd,Zde,Zdi,Zev,Zew,Zez,Ze0,Ze2,Zfd,Zfe,Zfh,Zfn,Zf4,Zjr,Zla,Zlb,Zlc,Zld,Zle,Zlg,Zli,Zll,Zlo,Zlz,Zmt,Zmv,Zmw,Zmx,Zmz,Zm2,Zna,Znb,Zne,Znf,Zng,Zos,Zot,Zo7,Zpc,eq_self,true_and,and_true,callable_143]
  tactic =>
  refine cl none (index_con l hl n) trivial ?_
  rw [← idx_has n l 0]
  sym =>
  simp [Zab,Zad,Zak,Zam,Zaz,Za0,Za1,Za2,Za3,Za4,Za5,Za9,Zba,Zbb,Zbf,Zdc,Zdd,Zde,Zdi,Zev,Zew,Zez,Ze0,Ze2,Zfd,Zfe,Zfh,Zfn,Zf4,Zjr,Zla,Zlb,Zlc,Zld,Zle,Zlg,Zli,Zll,Zlo,Zlz,Zmt,Zmv,Zmw,Zmx,Zmz,Zm2,Zna,Znb,Zne,Znf,Zng,Zos,Zot,Zo7,Zpc,eq_self,true_and,and_true]
  tactic =>
  refine endA ?_
  sym =>
  simp [Zab,Zad,Zak,Zam,Zaz,Za0,Za1,Za2,Za3,Za4,Za5,Za9,Zba,Zbb,Zbf,Zdc,Zdd,Zde,Zdi,Zev,Zew,Zez,Ze0,Ze2,Zfd,Zfe,Zfh,Zfn,Zf4,Zjr,Zla,Zlb,Zlc,Zld,Zle,Zlg,Zli,Zll,Zlo,Zlz,Zmt,Zmv,Zmw,Zmx,Zmz,Zm2,Zna,Znb,Zne,Znf,Zng,Zos,Zot,Zo7,Zpc,eq_self,true_and,and_true]
theorem has_con (l : List Rg) (hl : l.length < 1000000) (n : Int) : Con Try.prog 109 [] [.ag [fR l], I n] [] (Bo (hasF l n)) := by
  refine con_j b109 rfl ?_
  sym =>
  simp [Zab,Zad,Zak,Zam,Zaz,Za0,Za1,Za2,Za3,Za4,Za5,Za9,Zba,Zbb,Zbt,Zbv,Zcb,Zcx,Zdc,Zdd,Zde,Zdi,Zev,Zew,Zez,Ze0,Ze2,Ze3,Ze5,Ze8,Zfc,Zfd,Zfe,Zfh,Zgr,Zgs,Zgt,Zgv,Zgw,Zgx,Zhi,Zio,Zip,Zi6,Zi7,Zjl,Zjm,Zjp,Zjw,Zla,Zlb,Zlc,Zld,Zle,Zlg,Zli,Zll,Zlw,Zly,Zlz,Zmt,Zmv,Zmw,Zmx,Zmz,Zm2,Zm6,Zm9,Zna,Znb,Znc,Zne,Znf,Zng,Zos,Zot,Zo7,Zpc,eq_self,true_and,and_true,callable_134]
  tactic =>
  refine cl none (contains_con l hl n) trivial ?_
  sym =>
  simp [Zab,Zad,Zak,Zam,Zaz,Za0,Za1,Za2,Za3,Za4,Za5,Za9,Zba,Zbb,Zbt,Zbv,Zcb,Zcx,Zdc,Zdd,Zde,Zdi,Zev,Zew,Zez,Ze0,Ze2,Ze3,Ze5,Ze8,Zfc,Zfd,Zfe,Zfh,Zgr,Zgs,Zgt,Zgv,Zgw,Zgx,Zhi,Zio,Zip,Zi6,Zi7,Zjl,Zjm,Zjp,Zjw,Zla,Zlb,Zlc,Zld,Zle,Zlg,Zli,Zll,Zlw,Zly,Zlz,Zmt,Zmv,Zmw,Zmx,Zmz,Zm2,Zm6,Zm9,Zna,Znb,Znc,Zne,Znf,Zng,Zos,Zot,Zo7,Zpc,eq_self,true_and,and_true]
  tactic =>
  refine endA ?_
  sym =>
  simp [Zab,Zad,Zak,Zam,Zaz,Za0,Za1,Za2,Za3,Za4,Za5,Za9,Zba,Zbb,Zbt,Zbv,Zcb,Zcx,Zdc,Zdd,Zde,Zdi,Zev,Zew,Zez,Ze0,Ze2,Ze3,Ze5,Ze8,Zfc,Zfd,Zfe,Zfh,Zgr,Zgs,Zgt,Zgv,Zgw,Zgx,Zhi,Zio,Zip,Zi6,Zi7,Zjl,Zjm,Zjp,Zjw,Zla,Zlb,Zlc,Zld,Zle,Zlg,Zli,Zll,Zlw,Zly,Zlz,Zmt,Zmv,Zmw,Zmx,Zmz,Zm2,Zm6,Zm9,Zna,Znb,Znc,Zne,Znf,Zng,Zos,Zot,Zo7,Zpc,eq_self,true_and,and_true]
end Go.Proofs.Ytbmdahhhgpbchaa.SwB
