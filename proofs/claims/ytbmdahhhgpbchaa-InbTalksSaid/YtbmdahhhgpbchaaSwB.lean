import Derived.Test.YtbmdahhhgpbchaaSwA
namespace Go.Proofs.Ytbmdahhhgpbchaa.SwB
open Go Go.Sim Go.Sim.E Go.RowKit Go.Proofs Go.Proofs.Ytbmdahhhgpbchaa.Cod Go.Proofs.Ytbmdahhhgpbchaa.Tab Go.Proofs.Ytbmdahhhgpbchaa.Bse Go.Proofs.Ytbmdahhhgpbchaa.SpnP Go.Proofs.Ytbmdahhhgpbchaa.SwA
set_option linter.unusedVariables false
set_option linter.unusedSimpArgs false
set_option maxRecDepth 100000
set_option maxHeartbeats 4000000
theorem drop_cons {α : Type} (l : List α) (i : Nat) (h : i < l.length) : l.drop i = l[i] :: l.drop (i + 1) := List.drop_eq_getElem_cons h
theorem drop_all {α : Type} (l : List α) (i : Nat) (h : ¬ i < l.length) : l.drop i = [] := List.drop_of_length_le (by omega)
def endF (n : Int) : List Rg → Int
  | [] => n
  | r :: l => if r.1 ≤ n ∧ n < r.2 then r.2 else endF n l
def i40 (l : List Rg) (xa : Int) (k : Nat) (s : St) : Prop := ∃ i : Nat, i + k = l.length ∧ endF xa l = endF xa (l.drop i) ∧
    s = ⟨[(5, I xa), (13, fR l), (14, I (IN l.length)), (15, I (IN i))], [], 0⟩
theorem end_con (l : List Rg) (hl : l.length < 1000000) (a : Int) : Con Try.prog 112 [] [.ag [fR l], I a] [] (I (endF (lim a) l)) := by
  refine con_j b112 rfl ?_
  sym =>
  simp [Zab,Zad,Zam,Zaz,Za0,Za1,Za2,Za3,Za4,Za5,Za9,Zba,Zbb,Zcx,Zdc,Zdd,Zde,Zev,Zew,Zez,Ze0,Ze2,Ze3,Zfd,Zfe,Zfh,Zio,Zip,Zi6,Zla,Zlb,Zle,Zlj,Zna,Znb,Zne,Znf,Zng,Zos,Zot,Zo7,eq_self,true_and,and_true,callable_130]
  tactic =>
  refine cl none (near_con a a) trivial ?_
  sym =>
  simp [Zab,Zad,Zag,Zah,Zam,Zaz,Za0,Za1,Za2,Za3,Za4,Za5,Za9,Zba,Zbb,Zbt,Zbv,Zbx,Zcn,Zdi,Zev,Zew,Zez,Ze0,Ze2,Ze5,Ze8,Zfc,Zfd,Zfe,Zfh,Zgr,Zgs,Zgt,Zgv,Zgw,Zgx,Zgz,Zg0,Zh6,Zh7,Zjq,Zkv,Zkw,Zkx,Zlz,Zm6,Zm9,Zna,Znb,Zo7,eq_self,true_and]
  tactic =>
  generalize lim a = xa at *
  refine lpA (i40 l xa) l.length [] _ ⟨0, by omega, by simp, rfl⟩ (wkA ?_) ?_
  · sym =>
    simp [Zez,Zn5,Zpc,Zpi,Zqf,Zqg,Zqh,Zqm,eq_self,and_true]
  rintro k s ⟨i, hi, he, rfl⟩
  by_cases h : i < l.length
  · have hw := w64s i (by omega)
    have h0 := cR_q0 l i h
    have h1 := cR_q1 l i h
    rw [drop_cons l i h, endF] at he
    by_cases g1 : l[i].1 ≤ xa
    · by_cases g2 : xa < l[i].2
      · sym =>
        simp [Zaa,Zab,Zad,Zae,Zaf,Zag,Zak,Zal,Zam,Zao,Zar,Zax,Zay,Zaz,Za0,Za1,Za2,Za3,Za4,Za5,Za6,Za7,Za9,Zba,Zbb,Zbd,Zbf,Zbt,Zbv,Zb1,Zcv,Zc3,Zev,Zew,Zex,Zez,Ze0,Ze1,Ze2,Ze3,Ze5,Ze8,Zfc,Zfd,Zfe,Zfh,Zfi,Zfl,Zfn,Zf1,Zf4,Zgr,Zgs,Zgt,Zgu,Zgv,Zgw,Zgx,Zg4,Zg6,Zho,Zin,Ziu,Ziv,Ziw,Zi6,Zjh,Zji,Zjn,Zmt,Zmv,Zmw,Zmx,Zmz,Zm2,Zm5,Zm6,Zm7,Zm9,Zna,Znb,Znn,Zno,Znp,Zns,Znt,Znw,Zo7,Zo8,eq_self,true_and,and_true,h,h0,h1,hw,g1,g2,cR_length]
        tactic =>
        and_intros <;> try (first | omega | rfl | assumption | exact cR_okF _ | exact cR_okI _ | exact rs_self (cR_okI _) | (symm; refine List.take_of_length_le ?_; simp <;> omega))
        rw [if_pos ⟨g1, g2⟩] at he
        refine endA ?_
        rw [he]
        sym =>
        simp [Zpc,eq_self]
      · sym =>
        simp [Zaa,Zab,Zad,Zae,Zaf,Zag,Zal,Zam,Zap,Zav,Zay,Zaz,Za0,Za1,Za2,Za3,Za4,Za5,Za6,Za7,Za9,Zba,Zbb,Zbd,Zbf,Zbt,Zbv,Zb1,Zcv,Zc3,Zev,Zew,Zex,Zez,Ze0,Ze1,Ze2,Ze3,Ze5,Ze8,Zfc,Zfd,Zfe,Zfh,Zfi,Zfl,Zfn,Zfq,Zf1,Zf4,Zgr,Zgs,Zgt,Zgu,Zgv,Zgw,Zgx,Zg4,Zg6,Zho,Zin,Ziu,Ziv,Ziw,Zi6,Zjh,Zji,Zjn,Zm5,Zm6,Zm7,Zm9,Zna,Znb,Znn,Zno,Znp,Zns,Znt,Znw,Zo7,Zo8,Zo9,eq_self,true_and,and_true,h,h0,h1,hw,g1,g2,cR_length]
        tactic =>
        and_intros <;> try (first | omega | rfl | assumption | exact cR_okF _ | exact cR_okI _ | exact rs_self (cR_okI _) | (symm; refine List.take_of_length_le ?_; simp <;> omega))
        unfold NextL; refine ⟨(k - 1), [], _, by omega, ⟨i + 1, by omega, by rw [he, if_neg (by omega)], rfl⟩, wkA ?_⟩
        sym =>
        simp [Zez,Zpc,Zpi,Zqf,Zqg,Zqh,Zqm,eq_self,and_true]
    · sym =>
      simp [Zaa,Zab,Zad,Zae,Zaf,Zag,Zal,Zam,Zap,Zav,Zay,Zaz,Za0,Za1,Za2,Za3,Za4,Za5,Za6,Za7,Za8,Za9,Zba,Zbb,Zbd,Zbf,Zbt,Zbv,Zb1,Zcv,Zc3,Zev,Zew,Zex,Zez,Ze0,Ze1,Ze2,Ze3,Ze5,Ze8,Zfc,Zfd,Zfe,Zfh,Zfi,Zfk,Zfn,Zfq,Zf1,Zf4,Zgr,Zgs,Zgt,Zgu,Zgv,Zgw,Zgx,Zg4,Zg6,Zho,Zin,Ziu,Ziv,Ziw,Zi6,Zjh,Zji,Zjn,Zm5,Zm6,Zm7,Zm9,Zna,Znb,Znn,Zno,Znp,Zns,Znt,Znw,Zo7,Zo8,Zo9,eq_self,true_and,and_true,h,h0,h1,hw,g1,cR_length]
      tactic =>
      and_intros <;> try (first | omega | rfl | assumption | exact cR_okF _ | exact cR_okI _ | exact rs_self (cR_okI _) | (symm; refine List.take_of_length_le ?_; simp <;> omega))
      unfold NextL; refine ⟨(k - 1), [], _, by omega, ⟨i + 1, by omega, by rw [he, if_neg (by omega)], rfl⟩, wkA ?_⟩
      sym =>
      simp [Zez,Zpc,Zpi,Zqf,Zqg,Zqh,Zqm,eq_self,and_true]
  · rw [drop_all l i h, endF] at he
    sym =>
    simp [Zab,Zad,Zae,Zaf,Zai,Zak,Zam,Zan,Zaq,Zaw,Zay,Zaz,Za0,Za1,Za2,Za3,Za4,Za5,Za9,Zba,Zbb,Zbf,Zev,Zez,Ze0,Ze2,Zfd,Zfe,Zfh,Zfn,Zf1,Zmt,Zmv,Zmw,Zmx,Zmz,Zm2,Zna,Znb,Znt,Zo7,Zo9,eq_self,true_and,h]
    tactic =>
    refine endA ?_
    rw [he]
    sym =>
    simp [Zpc,eq_self]
def aboveF (n m : Int) : List Rg → List Rg → List Rg
  | [], c => c
  | r :: l, c => aboveF n m l (if n < r.1 ∧ (c.length : Int) < m then c ++ [r] else c)
def i48 (l : List Rg) (n m : Int) (k : Nat) (s : St) : Prop := ∃ i : Nat, ∃ c : List Rg, i + k = l.length ∧ c.length ≤ i ∧ aboveF n m l [] = aboveF n m (l.drop i) c ∧
    s = ⟨[(1, I n), (2, I m), (7, .lv 1 0 c.length), (11, fR l), (12, I (IN l.length)), (13, I (IN i))], [(1, ⟨cR c, 2, 0⟩)], 2⟩
theorem above_con (l : List Rg) (hl : l.length < 1000000) (n m : Int) : Con Try.prog 101 [] [.ag [fR l], I n, I m] [] (fR (aboveF n m l [])) := by
  refine con_j b101 rfl ?_
  sym =>
  simp [Zab,Zad,Zag,Zah,Zam,Zay,Zaz,Za0,Za1,Za2,Za3,Za4,Za5,Za9,Zba,Zbb,Zbt,Zbv,Zcn,Zcx,Zev,Zew,Zez,Ze0,Ze2,Ze3,Ze5,Ze8,Zfc,Zfd,Zfe,Zfh,Zgr,Zgs,Zgt,Zgv,Zgw,Zgx,Zh6,Zh7,Zio,Zip,Zi6,Zm6,Zm9,Zna,Znb,Zos,Zot,Zo7,eq_self,true_and]
  tactic =>
  refine lpA (i48 l n m) l.length [] _ ⟨0, [], by omega, by simp, by simp, rfl⟩ (wkA ?_) ?_
  · sym =>
    simp [Zez,Zfb,Zfc,Zna,Znr,Zn5,Zpc,Zpi,Zpr,Zqf,Zqg,Zqh,Zqi,Zqj,Zqm,eq_self,true_and,and_true]
    tactic =>
    and_intros <;> try (first | omega | rfl | assumption | exact cR_okF _ | exact cR_okI _ | exact rs_self (cR_okI _) | (symm; refine List.take_of_length_le ?_; simp <;> omega))
  rintro k s ⟨i, c, hi, hc, he, rfl⟩
  by_cases h : i < l.length
  · have hw := w64s i (by omega)
    have h0 := cR_q0 l i h
    have h1 := cR_q1 l i h
    rw [drop_cons l i h, aboveF] at he
    by_cases g1 : n < l[i].1
    · by_cases g2 : IN c.length < m
      · sym =>
        simp [Zaa,Zab,Zad,Zae,Zaf,Zag,Zal,Zam,Zap,Zav,Zay,Zaz,Za0,Za1,Za2,Za3,Za4,Za5,Za6,Za7,Za9,Zba,Zbb,Zbd,Zbf,Zbt,Zbv,Zb1,Zcn,Zcv,Zcz,Zc3,Zc5,Zev,Zew,Zex,Zez,Ze0,Ze1,Ze2,Ze3,Ze4,Ze5,Ze8,Zfc,Zfd,Zfe,Zff,Zfg,Zfh,Zfi,Zfl,Zfn,Zfq,Zf1,Zf3,Zgr,Zgs,Zgt,Zgu,Zgv,Zgw,Zgx,Zg4,Zg6,Zhf,Zhg,Zhh,Zho,Zh6,Zh9,Zin,Ziq,Zir,Ziu,Ziv,Ziw,Zix,Ziz,Zi0,Zi2,Zi3,Zi6,Zjh,Zji,Zjj,Zjk,Zjn,Zjo,Zm5,Zm6,Zm7,Zm9,Zna,Znb,Znh,Znl,Znm,Znn,Zno,Znp,Zns,Znt,Znw,Zo7,Zo8,List.length_append,eq_self,true_and,and_true,Nat.zero_add,h,h0,h1,hw,g1,g2,cR_length]
        tactic =>
        and_intros <;> try (first | omega | rfl | assumption | exact cR_okF _ | exact cR_okI _ | exact rs_self (cR_okI _) | (symm; refine List.take_of_length_le ?_; simp <;> omega))
        rw [if_pos ⟨g1, g2⟩] at he
        unfold NextL; refine ⟨(k - 1), [(1, 20)], _, by omega, ⟨i + 1, c ++ [l[i]], by omega, by simp; omega, he, rfl⟩, wkA ?_⟩
        sym =>
        simp [Za2,Zez,Zfc,Zna,Znb,Znr,Zpc,Zpi,Zpo,Zqf,Zqg,Zqh,Zqi,Zqk,Zql,Zqm,Zqn,List.length_append,eq_self,true_and,and_true,cR_append,cR_cons,cR_nil]
        tactic =>
        and_intros <;> try (first | omega | rfl | assumption | exact cR_okF _ | exact cR_okI _ | exact rs_self (cR_okI _) | (symm; refine List.take_of_length_le ?_; simp <;> omega))
        exact rs_self (by simp)
      · sym =>
        simp [Zaa,Zab,Zad,Zae,Zaf,Zag,Zal,Zam,Zap,Zav,Zay,Zaz,Za0,Za1,Za2,Za3,Za4,Za5,Za6,Za7,Za9,Zba,Zbb,Zbd,Zbf,Zbt,Zbv,Zb1,Zcn,Zcv,Zc3,Zev,Zew,Zex,Zez,Ze0,Ze1,Ze2,Ze3,Ze5,Ze8,Zfc,Zfd,Zfe,Zfh,Zfi,Zfl,Zfn,Zfq,Zf1,Zf3,Zgr,Zgs,Zgt,Zgu,Zgv,Zgw,Zgx,Zg4,Zg6,Zho,Zh6,Zh9,Zin,Ziu,Ziv,Ziw,Zi6,Zjh,Zji,Zjn,Zm5,Zm6,Zm7,Zm9,Zna,Znb,Znn,Zno,Znp,Zns,Znt,Znw,Zo7,Zo8,Zo9,eq_self,true_and,and_true,h,h0,h1,hw,g1,g2,cR_length]
        tactic =>
        and_intros <;> try (first | omega | rfl | assumption | exact cR_okF _ | exact cR_okI _ | exact rs_self (cR_okI _) | (symm; refine List.take_of_length_le ?_; simp <;> omega))
        rw [if_neg (fun h => g2 h.2)] at he
        unfold NextL; refine ⟨(k - 1), [(1, 1)], _, by omega, ⟨i + 1, c, by omega, by omega, he, rfl⟩, wkA ?_⟩
        sym =>
        simp [Za2,Zez,Zfc,Znr,Zpc,Zpi,Zpo,Zqf,Zqg,Zqh,Zqi,Zqk,Zql,Zqm,Zqn,eq_self,true_and,and_true]
        tactic =>
        and_intros <;> try (first | omega | rfl | assumption | exact cR_okF _ | exact cR_okI _ | exact rs_self (cR_okI _) | (symm; refine List.take_of_length_le ?_; simp <;> omega))
    · sym =>
      simp [Zaa,Zab,Zad,Zae,Zaf,Zag,Zal,Zam,Zap,Zav,Zay,Zaz,Za0,Za1,Za2,Za3,Za4,Za5,Za6,Za7,Za8,Za9,Zba,Zbb,Zbd,Zbf,Zbt,Zbv,Zb1,Zcv,Zc3,Zev,Zew,Zex,Zez,Ze0,Ze1,Ze2,Ze3,Ze5,Ze8,Zfc,Zfd,Zfe,Zfh,Zfi,Zfk,Zfn,Zfq,Zf1,Zf3,Zgr,Zgs,Zgt,Zgu,Zgv,Zgw,Zgx,Zg4,Zg6,Zho,Zin,Ziu,Ziv,Ziw,Zi6,Zjh,Zji,Zjn,Zm5,Zm6,Zm7,Zm9,Zna,Znb,Znn,Zno,Znp,Zns,Znt,Znw,Zo7,Zo8,Zo9,eq_self,true_and,and_true,h,h0,h1,hw,g1,cR_length]
      tactic =>
      and_intros <;> try (first | omega | rfl | assumption | exact cR_okF _ | exact cR_okI _ | exact rs_self (cR_okI _) | (symm; refine List.take_of_length_le ?_; simp <;> omega))
      rw [if_neg (fun h => g1 h.1)] at he
      unfold NextL; refine ⟨(k - 1), [(1, 1)], _, by omega, ⟨i + 1, c, by omega, by omega, he, rfl⟩, wkA ?_⟩
      sym =>
      simp [Za2,Zez,Zfc,Znr,Zpc,Zpi,Zpo,Zqf,Zqg,Zqh,Zqi,Zqk,Zql,Zqm,Zqn,eq_self,true_and,and_true]
      tactic =>
      and_intros <;> try (first | omega | rfl | assumption | exact cR_okF _ | exact cR_okI _ | exact rs_self (cR_okI _) | (symm; refine List.take_of_length_le ?_; simp <;> omega))
  · rw [drop_all l i h, aboveF] at he
    sym =>
    simp [Zab,Zad,Zae,Zaf,Zai,Zak,Zam,Zan,Zaq,Zaw,Zay,Zaz,Za0,Za1,Za2,Za3,Za4,Za5,Za9,Zba,Zbb,Zbf,Zev,Zez,Ze0,Ze2,Zfd,Zfe,Zfh,Zfn,Zf1,Zmt,Zmv,Zmw,Zmx,Zmz,Zm2,Zna,Znb,Znt,Zo7,Zo9,eq_self,true_and,h]
    tactic =>
    refine endA ?_
    rw [he]
    sym =>
    simp [Zfc,Znh,Zp0,Zp1,Zp2,eq_self,true_and,and_true,Nat.zero_add,cR_length]
    tactic =>
    and_intros <;> try (first | omega | rfl | assumption | exact cR_okF _ | exact cR_okI _ | exact rs_self (cR_okI _) | (symm; refine List.take_of_length_le ?_; simp <;> omega))
theorem has_in (a n c : Int) : Con Try.prog 135 [] [.ag [I a, I c], .fp [I n] 0] [] (Bo (decide (a ≤ n ∧ n < c))) := by
  refine con_j b135 rfl ?_
  by_cases h1 : a ≤ n
  · sym =>
    simp [Zab,Zad,Zak,Zam,Zaz,Za0,Za1,Za2,Za3,Za4,Za5,Za6,Za7,Za9,Zba,Zbb,Zbd,Zbf,Zbt,Zbv,Zcx,Zev,Zew,Zex,Zez,Ze0,Ze2,Ze3,Ze5,Ze8,Zfc,Zfd,Zfe,Zfh,Zfi,Zfl,Zfn,Zf1,Zf4,Zgr,Zgs,Zgt,Zgu,Zgv,Zgw,Zgx,Zio,Zip,Zi6,Zmt,Zmv,Zmw,Zmx,Zmz,Zm2,Zm6,Zm9,Zna,Znb,Zos,Zot,Zo7,Zo8,eq_self,true_and,h1]
    tactic =>
    refine endA ?_
    sym =>
    simp [Zpc,eq_self,h1]
  · sym =>
    simp [Zab,Zad,Zak,Zam,Zaz,Za0,Za1,Za2,Za3,Za4,Za5,Za6,Za7,Za8,Za9,Zba,Zbb,Zbd,Zbf,Zbt,Zbv,Zcx,Zev,Zew,Zex,Zez,Ze0,Ze2,Ze3,Ze5,Ze8,Zfc,Zfd,Zfe,Zfh,Zfi,Zfk,Zfn,Zf4,Zgr,Zgs,Zgt,Zgu,Zgv,Zgw,Zgx,Zio,Zip,Zi6,Zmt,Zmv,Zmw,Zmx,Zmz,Zm2,Zm6,Zm9,Zna,Znb,Zos,Zot,Zo7,Zo9,eq_self,true_and,false_and,h1]
    tactic =>
    refine endA ?_
    sym =>
    simp [Zpc,eq_self,h1]
def idxF (n : Int) : List Rg → Nat → Int
  | [], _ => -1
  | r :: l, i => if r.1 ≤ n ∧ n < r.2 then IN i else idxF n l (i + 1)
def i82 (l : List Rg) (n : Int) (k : Nat) (s : St) : Prop := ∃ i : Nat, i + k = l.length ∧ idxF n l 0 = idxF n (l.drop i) i ∧
    s = ⟨[(0, fR l), (1, .fn 135 [.fp [I n] 0]), (7, I (IN l.length)), (8, I (IN i))], [], 0⟩
theorem index_con (l : List Rg) (hl : l.length < 1000000) (n : Int) : Con Try.prog 143 [] [fR l, .fn 135 [.fp [I n] 0]] [] (I (idxF n l 0)) := by
  refine con_j b143 rfl ?_
  sym =>
  simp [Zab,Zad,Zag,Zah,Zam,Zaz,Za0,Za1,Za2,Za3,Za4,Za5,Za9,Zba,Zbb,Zcn,Zev,Zew,Zez,Ze0,Ze2,Ze5,Zfd,Zfe,Zfh,Zh6,Zh7,Zna,Znb,Zos,Zot,Zo7,eq_self,true_and]
  tactic =>
  refine lpA (i82 l n) l.length [] _ ⟨0, by omega, by simp, rfl⟩ (wkA ?_) ?_
  · sym =>
    simp [Zez,Zn5,Zpc,Zpi,Zpj,Zqa,Zqb,Zqc,Zqf,Zqg,Zqh,Zqm,eq_self,and_true]
  rintro k s ⟨i, hi, he, rfl⟩
  by_cases h : i < l.length
  · have hw := w64s i (by omega)
    have h0 := cR_q0 l i h
    have h1 := cR_q1 l i h
    rw [drop_cons l i h, idxF] at he
    sym =>
    simp [Zaa,Zab,Zad,Zae,Zaf,Zag,Zal,Zam,Zay,Zaz,Za0,Za1,Za2,Za3,Za4,Za5,Za9,Zba,Zbb,Zbf,Zbt,Zb1,Zdc,Zdd,Zde,Zev,Zez,Ze0,Ze2,Ze5,Zfd,Zfe,Zfh,Zfn,Zf1,Zgr,Zgu,Zg4,Zg6,Zho,Zla,Zlb,Zlc,Zld,Zle,Zlf,Zlh,Zlk,Zln,Zm5,Zm7,Zna,Znb,Znc,Znd,Zne,Znf,Zng,Zns,Znt,Znw,Zo7,Zo8,eq_self,true_and,and_true,h,h0,h1,hw,cR_length,callable_135]
    tactic =>
    and_intros <;> try (first | omega | rfl | assumption | exact cR_okF _ | exact cR_okI _ | exact rs_self (cR_okI _) | (symm; refine List.take_of_length_le ?_; simp <;> omega))
    refine cl none (has_in _ _ _) trivial ?_
    by_cases g1 : l[i].1 ≤ n ∧ n < l[i].2
    · rw [if_pos g1] at he
      sym =>
      simp [Zab,Zad,Zae,Zaf,Zak,Zal,Zam,Zao,Zar,Zax,Zaz,Za0,Za1,Za2,Za3,Za4,Za5,Za9,Zba,Zbb,Zdi,Zev,Zez,Ze0,Ze2,Zfd,Zfe,Zfh,Zjw,Zlz,Zmt,Zmv,Zmw,Zmx,Zmz,Zm2,Zna,Znb,Zo7,Zo8,eq_self,true_and,g1]
      tactic =>
      refine endA ?_
      rw [he]
      sym =>
      simp [Zpc,eq_self]
    · rw [if_neg g1] at he
      sym =>
      simp [Zaa,Zab,Zae,Zaf,Zal,Zam,Zap,Zav,Zaz,Za0,Za1,Za2,Za3,Za4,Za5,Za9,Zba,Zbb,Zbf,Zdi,Zev,Zew,Zez,Ze0,Ze2,Zfd,Zfe,Zfh,Zfn,Zfq,Zjw,Zlz,Zna,Znb,Zo7,Zo9,eq_self,true_and,g1,hw]
      tactic =>
      unfold NextL; refine ⟨(k - 1), [], _, by omega, ⟨i + 1, by omega, he, rfl⟩, wkA ?_⟩
      sym =>
      simp [Zez,Zpc,Zpi,Zpj,Zqa,Zqb,Zqc,Zqf,Zqg,Zqh,Zqm,eq_self,and_true]
  · rw [drop_all l i h, idxF] at he
    sym =>
    simp [Zab,Zad,Zae,Zaf,Zai,Zak,Zam,Zan,Zaq,Zaw,Zay,Zaz,Za0,Za1,Za2,Za3,Za4,Za5,Za9,Zba,Zbb,Zbf,Zev,Zew,Zez,Ze0,Ze2,Zfd,Zfe,Zfh,Zfn,Zf1,Zmt,Zmv,Zmw,Zmx,Zmz,Zm2,Zna,Znb,Znt,Zo7,Zo9,eq_self,true_and,h]
    tactic =>
    refine endA ?_
    rw [he]
    sym =>
    simp [Zpc,eq_self]
def hasF (l : List Rg) (n : Int) : Bool := l.any fun r => decide (r.1 ≤ n ∧ n < r.2)
theorem idx_has (n : Int) : ∀ (l : List Rg) (i : Nat), decide (0 ≤ idxF n l i) = hasF l n
  | [], i => rfl
  | r :: l, i => by
    unfold idxF
    by_cases h : r.1 ≤ n ∧ n < r.2
    · rw [if_pos h]
      simp [hasF, h, IN]
    · rw [if_neg h, idx_has n l (i + 1)]
      simp only [hasF, List.any_cons, decide_eq_false h, Bool.false_or]
theorem contains_con (l : List Rg) (hl : l.length < 1000000) (n : Int) : Con Try.prog 134 [] [fR l, .fn 135 [.fp [I n] 0]] [] (Bo (hasF l n)) := by
  refine con_j b134 rfl ?_
  sym =>
  simp [Zab,Zad,Zam,Zaz,Za0,Za1,Za2,Za3,Za4,Za5,Za9,Zba,Zbb,Zdc,Zdd,Zde,Zev,Zew,Zez,Ze0,Ze2,Zfd,Zfe,Zfh,Zla,Zlb,Zlc,Zld,Zle,Zlg,Zli,Zll,Zlo,Zna,Znb,Zne,Znf,Zng,Zos,Zot,Zo7,eq_self,true_and,and_true,callable_143]
  tactic =>
  refine cl none (index_con l hl n) trivial ?_
  rw [← idx_has n l 0]
  sym =>
  simp [Zak,Zam,Zaz,Za0,Za1,Za2,Za3,Za4,Za5,Za9,Zba,Zbb,Zbf,Zdi,Zev,Zew,Zez,Ze0,Ze2,Zfd,Zfe,Zfh,Zfn,Zf4,Zjr,Zlz,Zmt,Zmv,Zmw,Zmx,Zmz,Zm2,Zo7,eq_self,true_and]
  tactic =>
  refine endA ?_
  sym =>
  simp [Zpc,eq_self]
theorem has_con (l : List Rg) (hl : l.length < 1000000) (n : Int) : Con Try.prog 109 [] [.ag [fR l], I n] [] (Bo (hasF l n)) := by
  refine con_j b109 rfl ?_
  sym =>
  simp [Zab,Zad,Zam,Zaz,Za0,Za1,Za2,Za3,Za4,Za5,Za9,Zba,Zbb,Zbt,Zbv,Zcb,Zcx,Zdc,Zdd,Zde,Zev,Zew,Zez,Ze0,Ze2,Ze3,Ze5,Ze8,Zfc,Zfd,Zfe,Zfh,Zgr,Zgs,Zgt,Zgv,Zgw,Zgx,Zhi,Zio,Zip,Zi6,Zi7,Zjl,Zjm,Zjp,Zla,Zlb,Zlc,Zld,Zle,Zlg,Zli,Zll,Zlw,Zly,Zm6,Zm9,Zna,Znb,Znc,Zne,Znf,Zng,Zos,Zot,Zo7,eq_self,true_and,and_true,callable_134]
  tactic =>
  refine cl none (contains_con l hl n) trivial ?_
  sym =>
  simp [Zak,Zam,Zaz,Za0,Za1,Za2,Za3,Za4,Za5,Za9,Zba,Zbb,Zdi,Zev,Zez,Ze0,Ze2,Zfd,Zfe,Zfh,Zjw,Zlz,Zmt,Zmv,Zmw,Zmx,Zmz,Zm2,Zo7,eq_self,true_and]
  tactic =>
  refine endA ?_
  sym =>
  simp [Zpc,eq_self]
end Go.Proofs.Ytbmdahhhgpbchaa.SwB
