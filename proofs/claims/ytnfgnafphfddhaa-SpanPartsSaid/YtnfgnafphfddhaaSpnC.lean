import Derived.Test.YtnfgnafphfddhaaCodB
import Derived.Test.YtnfgnafphfddhaaSpnB
namespace Go.Proofs.Ytnfgnafphfddhaa.SpnC
open Go Go.Sim Go.Sim.E Go.RowKit Go.Proofs Go.Proofs.Ytnfgnafphfddhaa.Cod Go.Proofs.Ytnfgnafphfddhaa.Tab Go.Proofs.Ytnfgnafphfddhaa.SpnP Go.Proofs.Ytnfgnafphfddhaa.SpnA Go.Proofs.Ytnfgnafphfddhaa.SpnB
set_option linter.unusedVariables false
set_option linter.unusedSimpArgs false
set_option maxRecDepth 100000
set_option maxHeartbeats 4000000
theorem rnear_con (a : Int) : Con Try.prog 77 [] [I a] [] (I (lim a)) := by
  refine con_j b77 rfl ?_
  sym =>
  simp [Zab,Zad,Zak,Zam,Zaz,Za0,Za1,Za2,Za3,Za4,Za5,Za9,Zba,Zbb,Zcr,Zct,Zev,Zew,Zez,Ze0,Ze2,Zfd,Zfe,Zfh,Zie,Zif,Zig,Zih,Zii,Zij,Zik,Zil,Zim,Zmt,Zmv,Zmw,Zmx,Zmz,Zm2,Zna,Znb,Znf,Zng,Zos,Zot,Zo7,Zpc,Zqr,eq_self,true_and]
  tactic =>
  refine endA ?_
  sym =>
  simp [Zab,Zad,Zak,Zam,Zaz,Za0,Za1,Za2,Za3,Za4,Za5,Za9,Zba,Zbb,Zcr,Zct,Zev,Zew,Zez,Ze0,Ze2,Zfd,Zfe,Zfh,Zie,Zif,Zig,Zih,Zii,Zij,Zik,Zil,Zim,Zmt,Zmv,Zmw,Zmx,Zmz,Zm2,Zna,Znb,Znf,Zng,Zos,Zot,Zo7,Zpc,Zqr,eq_self,true_and]
  tactic =>
  rfl
theorem hasF_nil (n : Int) : hasF [] n = false := rfl
theorem hasF_cons (r : Rg) (l : List Rg) (n : Int) : hasF (r :: l) n = if r.1 ≤ n ∧ n < r.2 then true else hasF l n := by
  by_cases h : r.1 ≤ n ∧ n < r.2
  · rw [if_pos h]; simp [hasF, h]
  · rw [if_neg h]; simp only [hasF, List.any_cons, decide_eq_false h, Bool.false_or]
def i39 (l : List Rg) (lo n : Int) (k : Nat) (s : St) : Prop := ∃ i : Nat, i + k = l.length ∧ hasF l n = hasF (l.drop i) n ∧
    s = ⟨[(1, I n), (2, .pt 0 0), (5, I (IN i))], [(0, ⟨[fR l, I lo], 1, 0⟩)], 1⟩
theorem rhas_con (l : List Rg) (lo : Int) (hl : l.length < 1000000) (n : Int) : Con Try.prog 39 [] [.ag [fR l, I lo], I n] [] (Bo (hasF l n)) := by
  refine con_j b39 rfl ?_
  sym =>
  simp [Zaa,Zab,Zad,Zae,Zaf,Zag,Zah,Zai,Zak,Zal,Zam,Zan,Zao,Zap,Zaq,Zar,Zav,Zaw,Zax,Zay,Zaz,Za0,Za1,Za2,Za3,Za4,Za5,Za6,Za7,Za8,Za9,Zba,Zbb,Zbd,Zbf,Zbt,Zbv,Zb1,Zcn,Zcx,Zev,Zew,Zex,Zez,Ze0,Ze2,Ze3,Ze5,Ze8,Zfc,Zfd,Zfe,Zfh,Zfi,Zfk,Zfl,Zfn,Zfq,Zf1,Zf4,Zgr,Zgs,Zgt,Zgu,Zgv,Zgw,Zgx,Zgy,Zg4,Zg6,Zho,Zh6,Zh7,Zio,Zip,Zi6,Zmt,Zmv,Zmw,Zmx,Zmz,Zm2,Zm6,Zm9,Zna,Znb,Znr,Zns,Znt,Znw,Zn5,Zos,Zot,Zo7,Zo8,Zo9,Zpa,Zpc,Zpg,Zpu,Zqb,Zqc,Zqf,Zqg,Zqh,Zqi,Zqk,Zql,Zqm,Zqn,eq_self,true_and,and_true,Nat.add_zero]
  tactic =>
  refine lpA (i39 l lo n) l.length [(0, 0)] _ ⟨0, by omega, by simp, rfl⟩ (wkA ?_) ?_
  · sym =>
    simp [Zaa,Zab,Zad,Zae,Zaf,Zag,Zah,Zai,Zak,Zal,Zam,Zan,Zao,Zap,Zaq,Zar,Zav,Zaw,Zax,Zay,Zaz,Za0,Za1,Za2,Za3,Za4,Za5,Za6,Za7,Za8,Za9,Zba,Zbb,Zbd,Zbf,Zbt,Zbv,Zb1,Zcn,Zcx,Zev,Zew,Zex,Zez,Ze0,Ze2,Ze3,Ze5,Ze8,Zfc,Zfd,Zfe,Zfh,Zfi,Zfk,Zfl,Zfn,Zfq,Zf1,Zf4,Zgr,Zgs,Zgt,Zgu,Zgv,Zgw,Zgx,Zgy,Zg4,Zg6,Zho,Zh6,Zh7,Zio,Zip,Zi6,Zmt,Zmv,Zmw,Zmx,Zmz,Zm2,Zm6,Zm9,Zna,Znb,Znr,Zns,Znt,Znw,Zn5,Zos,Zot,Zo7,Zo8,Zo9,Zpa,Zpc,Zpg,Zpu,Zqb,Zqc,Zqf,Zqg,Zqh,Zqi,Zqk,Zql,Zqm,Zqn,eq_self,true_and,and_true,Nat.add_zero]
  rintro k s ⟨i, hi, he, rfl⟩
  by_cases h : i < l.length
  · have hw := w64s i (by omega)
    have h0 := cR_q0 l i h
    have h1 := cR_q1 l i h
    rw [drop_cons l i h, hasF_cons] at he
    by_cases g1 : l[i].1 ≤ n
    · by_cases g2 : n < l[i].2
      · sym =>
        simp [Zaa,Zab,Zad,Zae,Zaf,Zag,Zah,Zai,Zak,Zal,Zam,Zan,Zao,Zap,Zaq,Zar,Zav,Zaw,Zax,Zay,Zaz,Za0,Za1,Za2,Za3,Za4,Za5,Za6,Za7,Za8,Za9,Zba,Zbb,Zbd,Zbf,Zbt,Zbv,Zb1,Zcn,Zcx,Zev,Zew,Zex,Zez,Ze0,Ze2,Ze3,Ze5,Ze8,Zfc,Zfd,Zfe,Zfh,Zfi,Zfk,Zfl,Zfn,Zfq,Zf1,Zf4,Zgr,Zgs,Zgt,Zgu,Zgv,Zgw,Zgx,Zgy,Zg4,Zg6,Zho,Zh6,Zh7,Zio,Zip,Zi6,Zmt,Zmv,Zmw,Zmx,Zmz,Zm2,Zm6,Zm9,Zna,Znb,Znr,Zns,Znt,Znw,Zn5,Zos,Zot,Zo7,Zo8,Zo9,Zpa,Zpc,Zpg,Zpu,Zqb,Zqc,Zqf,Zqg,Zqh,Zqi,Zqk,Zql,Zqm,Zqn,eq_self,true_and,and_true,Nat.add_zero,h,h0,h1,hw,g1,g2,cR_length]
        tactic =>
        and_intros <;> try (first | omega | rfl | assumption | exact cR_okF _ | exact cR_okI _ | exact rs_self (cR_okI _) | (symm; refine List.take_of_length_le ?_; simp <;> omega))
        rw [if_pos ⟨g1, g2⟩] at he
        refine endA ?_
        rw [he]
        sym =>
        simp [Zaa,Zab,Zad,Zae,Zaf,Zag,Zah,Zai,Zak,Zal,Zam,Zan,Zao,Zap,Zaq,Zar,Zav,Zaw,Zax,Zay,Zaz,Za0,Za1,Za2,Za3,Za4,Za5,Za6,Za7,Za8,Za9,Zba,Zbb,Zbd,Zbf,Zbt,Zbv,Zb1,Zcn,Zcx,Zev,Zew,Zex,Zez,Ze0,Ze2,Ze3,Ze5,Ze8,Zfc,Zfd,Zfe,Zfh,Zfi,Zfk,Zfl,Zfn,Zfq,Zf1,Zf4,Zgr,Zgs,Zgt,Zgu,Zgv,Zgw,Zgx,Zgy,Zg4,Zg6,Zho,Zh6,Zh7,Zio,Zip,Zi6,Zmt,Zmv,Zmw,Zmx,Zmz,Zm2,Zm6,Zm9,Zna,Znb,Znr,Zns,Znt,Znw,Zn5,Zos,Zot,Zo7,Zo8,Zo9,Zpa,Zpc,Zpg,Zpu,Zqb,Zqc,Zqf,Zqg,Zqh,Zqi,Zqk,Zql,Zqm,Zqn,eq_self,true_and,and_true,Nat.add_zero]
      · sym =>
        simp [Zaa,Zab,Zad,Zae,Zaf,Zag,Zah,Zai,Zak,Zal,Zam,Zan,Zao,Zap,Zaq,Zar,Zav,Zaw,Zax,Zay,Zaz,Za0,Za1,Za2,Za3,Za4,Za5,Za6,Za7,Za8,Za9,Zba,Zbb,Zbd,Zbf,Zbt,Zbv,Zb1,Zcn,Zcx,Zev,Zew,Zex,Zez,Ze0,Ze2,Ze3,Ze5,Ze8,Zfc,Zfd,Zfe,Zfh,Zfi,Zfk,Zfl,Zfn,Zfq,Zf1,Zf4,Zgr,Zgs,Zgt,Zgu,Zgv,Zgw,Zgx,Zgy,Zg4,Zg6,Zho,Zh6,Zh7,Zio,Zip,Zi6,Zmt,Zmv,Zmw,Zmx,Zmz,Zm2,Zm6,Zm9,Zna,Znb,Znr,Zns,Znt,Znw,Zn5,Zos,Zot,Zo7,Zo8,Zo9,Zpa,Zpc,Zpg,Zpu,Zqb,Zqc,Zqf,Zqg,Zqh,Zqi,Zqk,Zql,Zqm,Zqn,eq_self,true_and,and_true,Nat.add_zero,h,h0,h1,hw,g1,g2,cR_length]
        tactic =>
        and_intros <;> try (first | omega | rfl | assumption | exact cR_okF _ | exact cR_okI _ | exact rs_self (cR_okI _) | (symm; refine List.take_of_length_le ?_; simp <;> omega))
        unfold NextL; refine ⟨(k - 1), [(0, 0)], _, by omega, ⟨i + 1, by omega, by rw [he, if_neg (by omega)], rfl⟩, wkA ?_⟩
        sym =>
        simp [Zaa,Zab,Zad,Zae,Zaf,Zag,Zah,Zai,Zak,Zal,Zam,Zan,Zao,Zap,Zaq,Zar,Zav,Zaw,Zax,Zay,Zaz,Za0,Za1,Za2,Za3,Za4,Za5,Za6,Za7,Za8,Za9,Zba,Zbb,Zbd,Zbf,Zbt,Zbv,Zb1,Zcn,Zcx,Zev,Zew,Zex,Zez,Ze0,Ze2,Ze3,Ze5,Ze8,Zfc,Zfd,Zfe,Zfh,Zfi,Zfk,Zfl,Zfn,Zfq,Zf1,Zf4,Zgr,Zgs,Zgt,Zgu,Zgv,Zgw,Zgx,Zgy,Zg4,Zg6,Zho,Zh6,Zh7,Zio,Zip,Zi6,Zmt,Zmv,Zmw,Zmx,Zmz,Zm2,Zm6,Zm9,Zna,Znb,Znr,Zns,Znt,Znw,Zn5,Zos,Zot,Zo7,Zo8,Zo9,Zpa,Zpc,Zpg,Zpu,Zqb,Zqc,Zqf,Zqg,Zqh,Zqi,Zqk,Zql,Zqm,Zqn,eq_self,true_and,and_true,Nat.add_zero]
    · sym =>
      simp [Zaa,Zab,Zad,Zae,Zaf,Zag,Zah,Zai,Zak,Zal,Zam,Zan,Zao,Zap,Zaq,Zar,Zav,Zaw,Zax,Zay,Zaz,Za0,Za1,Za2,Za3,Za4,Za5,Za6,Za7,Za8,Za9,Zba,Zbb,Zbd,Zbf,Zbt,Zbv,Zb1,Zcn,Zcx,Zev,Zew,Zex,Zez,Ze0,Ze2,Ze3,Ze5,Ze8,Zfc,Zfd,Zfe,Zfh,Zfi,Zfk,Zfl,Zfn,Zfq,Zf1,Zf4,Zgr,Zgs,Zgt,Zgu,Zgv,Zgw,Zgx,Zgy,Zg4,Zg6,Zho,Zh6,Zh7,Zio,Zip,Zi6,Zmt,Zmv,Zmw,Zmx,Zmz,Zm2,Zm6,Zm9,Zna,Znb,Znr,Zns,Znt,Znw,Zn5,Zos,Zot,Zo7,Zo8,Zo9,Zpa,Zpc,Zpg,Zpu,Zqb,Zqc,Zqf,Zqg,Zqh,Zqi,Zqk,Zql,Zqm,Zqn,eq_self,true_and,and_true,Nat.add_zero,h,h0,h1,hw,g1,cR_length]
      tactic =>
      and_intros <;> try (first | omega | rfl | assumption | exact cR_okF _ | exact cR_okI _ | exact rs_self (cR_okI _) | (symm; refine List.take_of_length_le ?_; simp <;> omega))
      unfold NextL; refine ⟨(k - 1), [(0, 0)], _, by omega, ⟨i + 1, by omega, by rw [he, if_neg (by omega)], rfl⟩, wkA ?_⟩
      sym =>
      simp [Zaa,Zab,Zad,Zae,Zaf,Zag,Zah,Zai,Zak,Zal,Zam,Zan,Zao,Zap,Zaq,Zar,Zav,Zaw,Zax,Zay,Zaz,Za0,Za1,Za2,Za3,Za4,Za5,Za6,Za7,Za8,Za9,Zba,Zbb,Zbd,Zbf,Zbt,Zbv,Zb1,Zcn,Zcx,Zev,Zew,Zex,Zez,Ze0,Ze2,Ze3,Ze5,Ze8,Zfc,Zfd,Zfe,Zfh,Zfi,Zfk,Zfl,Zfn,Zfq,Zf1,Zf4,Zgr,Zgs,Zgt,Zgu,Zgv,Zgw,Zgx,Zgy,Zg4,Zg6,Zho,Zh6,Zh7,Zio,Zip,Zi6,Zmt,Zmv,Zmw,Zmx,Zmz,Zm2,Zm6,Zm9,Zna,Znb,Znr,Zns,Znt,Znw,Zn5,Zos,Zot,Zo7,Zo8,Zo9,Zpa,Zpc,Zpg,Zpu,Zqb,Zqc,Zqf,Zqg,Zqh,Zqi,Zqk,Zql,Zqm,Zqn,eq_self,true_and,and_true,Nat.add_zero]
  · rw [drop_all l i h] at he
    sym =>
    simp [Zaa,Zab,Zad,Zae,Zaf,Zag,Zah,Zai,Zak,Zal,Zam,Zan,Zao,Zap,Zaq,Zar,Zav,Zaw,Zax,Zay,Zaz,Za0,Za1,Za2,Za3,Za4,Za5,Za6,Za7,Za8,Za9,Zba,Zbb,Zbd,Zbf,Zbt,Zbv,Zb1,Zcn,Zcx,Zev,Zew,Zex,Zez,Ze0,Ze2,Ze3,Ze5,Ze8,Zfc,Zfd,Zfe,Zfh,Zfi,Zfk,Zfl,Zfn,Zfq,Zf1,Zf4,Zgr,Zgs,Zgt,Zgu,Zgv,Zgw,Zgx,Zgy,Zg4,Zg6,Zho,Zh6,Zh7,Zio,Zip,Zi6,Zmt,Zmv,Zmw,Zmx,Zmz,Zm2,Zm6,Zm9,Zna,Znb,Znr,Zns,Znt,Znw,Zn5,Zos,Zot,Zo7,Zo8,Zo9,Zpa,Zpc,Zpg,Zpu,Zqb,Zqc,Zqf,Zqg,Zqh,Zqi,Zqk,Zql,Zqm,Zqn,eq_self,true_and,and_true,Nat.add_zero,h]
    tactic =>
    refine endA ?_
    rw [he]
    sym =>
    simp [Zaa,Zab,Zad,Zae,Zaf,Zag,Zah,Zai,Zak,Zal,Zam,Zan,Zao,Zap,Zaq,Zar,Zav,Zaw,Zax,Zay,Zaz,Za0,Za1,Za2,Za3,Za4,Za5,Za6,Za7,Za8,Za9,Zba,Zbb,Zbd,Zbf,Zbt,Zbv,Zb1,Zcn,Zcx,Zev,Zew,Zex,Zez,Ze0,Ze2,Ze3,Ze5,Ze8,Zfc,Zfd,Zfe,Zfh,Zfi,Zfk,Zfl,Zfn,Zfq,Zf1,Zf4,Zgr,Zgs,Zgt,Zgu,Zgv,Zgw,Zgx,Zgy,Zg4,Zg6,Zho,Zh6,Zh7,Zio,Zip,Zi6,Zmt,Zmv,Zmw,Zmx,Zmz,Zm2,Zm6,Zm9,Zna,Znb,Znr,Zns,Znt,Znw,Zn5,Zos,Zot,Zo7,Zo8,Zo9,Zpa,Zpc,Zpg,Zpu,Zqb,Zqc,Zqf,Zqg,Zqh,Zqi,Zqk,Zql,Zqm,Zqn,eq_self,true_and,and_true,Nat.add_zero,hasF_nil]
def nextF (n : Int) : List Rg → Int → Int
  | [], m => m
  | r :: l, m => nextF n l (let m1 := if n < r.1 then min m r.1 else m; if n < r.2 then min m1 r.2 else m1)
def i78 (l : List Rg) (lo n : Int) (k : Nat) (s : St) : Prop := ∃ i : Nat, ∃ m : Int, i + k = l.length ∧ nextF n l 4611686018427387904 = nextF n (l.drop i) m ∧
    s = ⟨[(1, I n), (2, .pt 0 0), (5, I m), (6, I (IN i))], [(0, ⟨[fR l, I lo], 1, 0⟩)], 1⟩
theorem rnext_con (l : List Rg) (lo : Int) (hl : l.length < 1000000) (n : Int) : Con Try.prog 78 [] [.ag [fR l, I lo], I n] [] (I (nextF n l 4611686018427387904)) := by
  refine con_j b78 rfl ?_
  sym =>
  simp [Zaa,Zab,Zad,Zae,Zaf,Zag,Zah,Zai,Zak,Zal,Zam,Zan,Zap,Zaq,Zav,Zaw,Zay,Zaz,Za0,Za1,Za2,Za3,Za4,Za5,Za9,Zba,Zbb,Zbf,Zbt,Zbv,Zb1,Zcn,Zct,Zcx,Zev,Zew,Zez,Ze0,Ze2,Ze3,Ze5,Ze8,Zfc,Zfd,Zfe,Zfh,Zfn,Zfq,Zf1,Zf3,Zgr,Zgs,Zgt,Zgu,Zgv,Zgw,Zgx,Zgy,Zg4,Zg6,Zho,Zh6,Zh7,Zif,Zig,Zik,Zil,Zim,Zio,Zip,Zi6,Zmt,Zmv,Zmw,Zmx,Zmz,Zm2,Zm6,Zm9,Zna,Znb,Znf,Zng,Znr,Zns,Znt,Znw,Zn5,Zos,Zot,Zo7,Zo8,Zo9,Zpa,Zpc,Zpg,Zpu,Zqb,Zqc,Zqf,Zqg,Zqh,Zqi,Zqk,Zql,Zqm,Zqn,eq_self,true_and,and_true,Nat.add_zero]
  tactic =>
  refine lpA (i78 l lo n) l.length [(0, 0)] _ ⟨0, 4611686018427387904, by omega, by simp, rfl⟩ (wkA ?_) ?_
  · sym =>
    simp [Zaa,Zab,Zad,Zae,Zaf,Zag,Zah,Zai,Zak,Zal,Zam,Zan,Zap,Zaq,Zav,Zaw,Zay,Zaz,Za0,Za1,Za2,Za3,Za4,Za5,Za9,Zba,Zbb,Zbf,Zbt,Zbv,Zb1,Zcn,Zct,Zcx,Zev,Zew,Zez,Ze0,Ze2,Ze3,Ze5,Ze8,Zfc,Zfd,Zfe,Zfh,Zfn,Zfq,Zf1,Zf3,Zgr,Zgs,Zgt,Zgu,Zgv,Zgw,Zgx,Zgy,Zg4,Zg6,Zho,Zh6,Zh7,Zif,Zig,Zik,Zil,Zim,Zio,Zip,Zi6,Zmt,Zmv,Zmw,Zmx,Zmz,Zm2,Zm6,Zm9,Zna,Znb,Znf,Zng,Znr,Zns,Znt,Znw,Zn5,Zos,Zot,Zo7,Zo8,Zo9,Zpa,Zpc,Zpg,Zpu,Zqb,Zqc,Zqf,Zqg,Zqh,Zqi,Zqk,Zql,Zqm,Zqn,eq_self,true_and,and_true,Nat.add_zero]
  rintro k s ⟨i, m, hi, he, rfl⟩
  by_cases h : i < l.length
  · have hw := w64s i (by omega)
    have h0 := cR_q0 l i h
    have h1 := cR_q1 l i h
    rw [drop_cons l i h, nextF] at he
    by_cases g1 : n < l[i].1 <;> by_cases g2 : n < l[i].2
    all_goals
      simp only [g1, g2, if_true, if_false] at he
      sym =>
      simp [Zaa,Zab,Zad,Zae,Zaf,Zag,Zah,Zai,Zak,Zal,Zam,Zan,Zap,Zaq,Zav,Zaw,Zay,Zaz,Za0,Za1,Za2,Za3,Za4,Za5,Za9,Zba,Zbb,Zbf,Zbt,Zbv,Zb1,Zcn,Zct,Zcx,Zev,Zew,Zez,Ze0,Ze2,Ze3,Ze5,Ze8,Zfc,Zfd,Zfe,Zfh,Zfn,Zfq,Zf1,Zf3,Zgr,Zgs,Zgt,Zgu,Zgv,Zgw,Zgx,Zgy,Zg4,Zg6,Zho,Zh6,Zh7,Zif,Zig,Zik,Zil,Zim,Zio,Zip,Zi6,Zmt,Zmv,Zmw,Zmx,Zmz,Zm2,Zm6,Zm9,Zna,Znb,Znf,Zng,Znr,Zns,Znt,Znw,Zn5,Zos,Zot,Zo7,Zo8,Zo9,Zpa,Zpc,Zpg,Zpu,Zqb,Zqc,Zqf,Zqg,Zqh,Zqi,Zqk,Zql,Zqm,Zqn,eq_self,true_and,and_true,Nat.add_zero,h,h0,h1,hw,g1,g2,cR_length]
      tactic =>
      and_intros <;> try (first | omega | rfl | assumption | exact cR_okF _ | exact cR_okI _ | exact rs_self (cR_okI _) | (symm; refine List.take_of_length_le ?_; simp <;> omega))
      unfold NextL; refine ⟨(k - 1), [(0, 0)], _, by omega, ⟨i + 1, _, by omega, he, rfl⟩, wkA ?_⟩
      sym =>
      simp [Zaa,Zab,Zad,Zae,Zaf,Zag,Zah,Zai,Zak,Zal,Zam,Zan,Zap,Zaq,Zav,Zaw,Zay,Zaz,Za0,Za1,Za2,Za3,Za4,Za5,Za9,Zba,Zbb,Zbf,Zbt,Zbv,Zb1,Zcn,Zct,Zcx,Zev,Zew,Zez,Ze0,Ze2,Ze3,Ze5,Ze8,Zfc,Zfd,Zfe,Zfh,Zfn,Zfq,Zf1,Zf3,Zgr,Zgs,Zgt,Zgu,Zgv,Zgw,Zgx,Zgy,Zg4,Zg6,Zho,Zh6,Zh7,Zif,Zig,Zik,Zil,Zim,Zio,Zip,Zi6,Zmt,Zmv,Zmw,Zmx,Zmz,Zm2,Zm6,Zm9,Zna,Znb,Znf,Zng,Znr,Zns,Znt,Znw,Zn5,Zos,Zot,Zo7,Zo8,Zo9,Zpa,Zpc,Zpg,Zpu,Zqb,Zqc,Zqf,Zqg,Zqh,Zqi,Zqk,Zql,Zqm,Zqn,eq_self,true_and,and_true,Nat.add_zero]
  · rw [drop_all l i h, nextF] at he
    sym =>
    simp [Zaa,Zab,Zad,Zae,Zaf,Zag,Zah,Zai,Zak,Zal,Zam,Zan,Zap,Zaq,Zav,Zaw,Zay,Zaz,Za0,Za1,Za2,Za3,Za4,Za5,Za9,Zba,Zbb,Zbf,Zbt,Zbv,Zb1,Zcn,Zct,Zcx,Zev,Zew,Zez,Ze0,Ze2,Ze3,Ze5,Ze8,Zfc,Zfd,Zfe,Zfh,Zfn,Zfq,Zf1,Zf3,Zgr,Zgs,Zgt,Zgu,Zgv,Zgw,Zgx,Zgy,Zg4,Zg6,Zho,Zh6,Zh7,Zif,Zig,Zik,Zil,Zim,Zio,Zip,Zi6,Zmt,Zmv,Zmw,Zmx,Zmz,Zm2,Zm6,Zm9,Zna,Znb,Znf,Zng,Znr,Zns,Znt,Znw,Zn5,Zos,Zot,Zo7,Zo8,Zo9,Zpa,Zpc,Zpg,Zpu,Zqb,Zqc,Zqf,Zqg,Zqh,Zqi,Zqk,Zql,Zqm,Zqn,eq_self,true_and,and_true,Nat.add_zero,h]
    tactic =>
    refine endA ?_
    rw [he]
    sym =>
    simp [Zaa,Zab,Zad,Zae,Zaf,Zag,Zah,Zai,Zak,Zal,Zam,Zan,Zap,Zaq,Zav,Zaw,Zay,Zaz,Za0,Za1,Za2,Za3,Za4,Za5,Za9,Zba,Zbb,Zbf,Zbt,Zbv,Zb1,Zcn,Zct,Zcx,Zev,Zew,Zez,Ze0,Ze2,Ze3,Ze5,Ze8,Zfc,Zfd,Zfe,Zfh,Zfn,Zfq,Zf1,Zf3,Zgr,Zgs,Zgt,Zgu,Zgv,Zgw,Zgx,Zgy,Zg4,Zg6,Zho,Zh6,Zh7,Zif,Zig,Zik,Zil,Zim,Zio,Zip,Zi6,Zmt,Zmv,Zmw,Zmx,Zmz,Zm2,Zm6,Zm9,Zna,Znb,Znf,Zng,Znr,Zns,Znt,Znw,Zn5,Zos,Zot,Zo7,Zo8,Zo9,Zpa,Zpc,Zpg,Zpu,Zqb,Zqc,Zqf,Zqg,Zqh,Zqi,Zqk,Zql,Zqm,Zqn,eq_self,true_and,and_true,Nat.add_zero]
theorem radd_con (l : List Rg) (lo : Int) (hl : l.length < 1000000) (a b : Int) : Con Try.prog 70 [] [.ag [fR l, I lo], I a, I b] [] (.ag [fR (l ++ [(lim a, lim b)]), I lo]) := by
  refine con_j b70 rfl ?_
  sym =>
  simp [Zab,Zac,Zad,Zak,Zam,Zaz,Za0,Za1,Za2,Za3,Za4,Za5,Za9,Zba,Zbc,Zbu,Zbw,Zca,Zcv,Zcx,Zc0,Zc4,Zc6,Zc7,Zc8,Zc9,Zdf,Zdg,Zdh,Zdj,Zdk,Zdo,Zdp,Zdt,Zdu,Zdv,Zdw,Zdx,Zdy,Zdz,Zd0,Zd1,Zd2,Zd3,Zd5,Zeb,Zeh,Zei,Zek,Zen,Zeq,Zer,Zes,Zet,Zev,Zew,Zez,Ze0,Ze1,Ze2,Ze3,Ze4,Ze5,Ze8,Zfc,Zfd,Zfe,Zff,Zfg,Zfh,Zgr,Zgs,Zgt,Zgv,Zgw,Zgx,Zhd,Zhe,Zhf,Zhg,Zhh,Zin,Zio,Zip,Ziq,Zir,Ziu,Ziv,Ziw,Zix,Ziy,Ziz,Zi0,Zi1,Zi2,Zi3,Zi6,Zi7,Zje,Zjg,Zjh,Zji,Zjj,Zjk,Zjl,Zjm,Zjn,Zjo,Zjp,Zjr,Zkl,Zla,Zlb,Zle,Zlj,Zlz,Zmt,Zmv,Zmw,Zmy,Zm0,Zm1,Zm2,Zm5,Zm6,Zm7,Zm9,Zna,Znb,Znc,Znd,Zne,Znf,Zng,Znh,Znl,Znm,Znn,Zno,Znp,Znr,Zod,Zof,Zog,Zos,Zot,Zo7,Zpa,Zpy,Zp1,Zp2,Zp8,Zqb,Zqc,List.length_append,eq_self,true_and,and_true,Nat.zero_add,callable_77,cR_length]
  tactic =>
  and_intros <;> try (first | omega | rfl | assumption | exact cR_okF _ | exact cR_okI _ | exact rs_self (cR_okI _) | (symm; refine List.take_of_length_le ?_; simp <;> omega))
  refine cl none (rnear_con a) trivial ?_
  sym =>
  simp [Zab,Zac,Zad,Zak,Zam,Zaz,Za0,Za1,Za2,Za3,Za4,Za5,Za9,Zba,Zbc,Zbu,Zbw,Zca,Zcv,Zcx,Zc0,Zc4,Zc6,Zc7,Zc8,Zc9,Zdf,Zdg,Zdh,Zdj,Zdk,Zdo,Zdp,Zdt,Zdu,Zdv,Zdw,Zdx,Zdy,Zdz,Zd0,Zd1,Zd2,Zd3,Zd5,Zeb,Zeh,Zei,Zek,Zen,Zeq,Zer,Zes,Zet,Zev,Zew,Zez,Ze0,Ze1,Ze2,Ze3,Ze4,Ze5,Ze8,Zfc,Zfd,Zfe,Zff,Zfg,Zfh,Zgr,Zgs,Zgt,Zgv,Zgw,Zgx,Zhd,Zhe,Zhf,Zhg,Zhh,Zin,Zio,Zip,Ziq,Zir,Ziu,Ziv,Ziw,Zix,Ziy,Ziz,Zi0,Zi1,Zi2,Zi3,Zi6,Zi7,Zje,Zjg,Zjh,Zji,Zjj,Zjk,Zjl,Zjm,Zjn,Zjo,Zjp,Zjr,Zkl,Zla,Zlb,Zle,Zlj,Zlz,Zmt,Zmv,Zmw,Zmy,Zm0,Zm1,Zm2,Zm5,Zm6,Zm7,Zm9,Zna,Znb,Znc,Znd,Zne,Znf,Zng,Znh,Znl,Znm,Znn,Zno,Znp,Znr,Zod,Zof,Zog,Zos,Zot,Zo7,Zpa,Zpy,Zp1,Zp2,Zp8,Zqb,Zqc,List.length_append,eq_self,true_and,and_true,Nat.zero_add,callable_77]
  tactic =>
  refine cl none (rnear_con b) trivial ?_
  sym =>
  simp [Zab,Zac,Zad,Zak,Zam,Zaz,Za0,Za1,Za2,Za3,Za4,Za5,Za9,Zba,Zbc,Zbu,Zbw,Zca,Zcv,Zcx,Zc0,Zc4,Zc6,Zc7,Zc8,Zc9,Zdf,Zdg,Zdh,Zdj,Zdk,Zdo,Zdp,Zdt,Zdu,Zdv,Zdw,Zdx,Zdy,Zdz,Zd0,Zd1,Zd2,Zd3,Zd5,Zeb,Zeh,Zei,Zek,Zen,Zeq,Zer,Zes,Zet,Zev,Zew,Zez,Ze0,Ze1,Ze2,Ze3,Ze4,Ze5,Ze8,Zfc,Zfd,Zfe,Zff,Zfg,Zfh,Zgr,Zgs,Zgt,Zgv,Zgw,Zgx,Zhd,Zhe,Zhf,Zhg,Zhh,Zin,Zio,Zip,Ziq,Zir,Ziu,Ziv,Ziw,Zix,Ziy,Ziz,Zi0,Zi1,Zi2,Zi3,Zi6,Zi7,Zje,Zjg,Zjh,Zji,Zjj,Zjk,Zjl,Zjm,Zjn,Zjo,Zjp,Zjr,Zkl,Zla,Zlb,Zle,Zlj,Zlz,Zmt,Zmv,Zmw,Zmy,Zm0,Zm1,Zm2,Zm5,Zm6,Zm7,Zm9,Zna,Znb,Znc,Znd,Zne,Znf,Zng,Znh,Znl,Znm,Znn,Zno,Znp,Znr,Zod,Zof,Zog,Zos,Zot,Zo7,Zpa,Zpy,Zp1,Zp2,Zp8,Zqb,Zqc,List.length_append,eq_self,true_and,and_true,Nat.zero_add,cR_length]
  tactic =>
  and_intros <;> try (first | omega | rfl | assumption | exact cR_okF _ | exact cR_okI _ | exact rs_self (cR_okI _) | (symm; refine List.take_of_length_le ?_; simp <;> omega))
  refine endA ?_
  sym =>
  simp [Zab,Zac,Zad,Zak,Zam,Zaz,Za0,Za1,Za2,Za3,Za4,Za5,Za9,Zba,Zbc,Zbu,Zbw,Zca,Zcv,Zcx,Zc0,Zc4,Zc6,Zc7,Zc8,Zc9,Zdf,Zdg,Zdh,Zdj,Zdk,Zdo,Zdp,Zdt,Zdu,Zdv,Zdw,Zdx,Zdy,Zdz,Zd0,Zd1,Zd2,Zd3,Zd5,Zeb,Zeh,Zei,Zek,Zen,Zeq,Zer,Zes,Zet,Zev,Zew,Zez,Ze0,Ze1,Ze2,Ze3,Ze4,Ze5,Ze8,Zfc,Zfd,Zfe,Zff,Zfg,Zfh,Zgr,Zgs,Zgt,Zgv,Zgw,Zgx,Zhd,Zhe,Zhf,Zhg,Zhh,Zin,Zio,Zip,Ziq,Zir,Ziu,Ziv,Ziw,Zix,Ziy,Ziz,Zi0,Zi1,Zi2,Zi3,Zi6,Zi7,Zje,Zjg,Zjh,Zji,Zjj,Zjk,Zjl,Zjm,Zjn,Zjo,Zjp,Zjr,Zkl,Zla,Zlb,Zle,Zlj,Zlz,Zmt,Zmv,Zmw,Zmy,Zm0,Zm1,Zm2,Zm5,Zm6,Zm7,Zm9,Zna,Znb,Znc,Znd,Zne,Znf,Zng,Znh,Znl,Znm,Znn,Zno,Znp,Znr,Zod,Zof,Zog,Zos,Zot,Zo7,Zpa,Zpy,Zp1,Zp2,Zp8,Zqb,Zqc,List.length_append,eq_self,true_and,and_true,Nat.zero_add,cR_length,cR_append,cR_cons,cR_nil]
  tactic =>
  and_intros <;> try (first | omega | rfl | assumption | exact cR_okF _ | exact cR_okI _ | exact rs_self (cR_okI _) | (symm; refine List.take_of_length_le ?_; simp <;> omega))
def rcutF (x : Int) (l : List Rg) : List Rg := l.map fun r => (max r.1 x, r.2)
@[simp] theorem rcutF_length (x : Int) (l : List Rg) : (rcutF x l).length = l.length := by simp [rcutF]
theorem rcut_take (x : Int) (l : List Rg) (i : Nat) (h : i < l.length) : cR (rcutF x (l.take (i + 1))) = cR (rcutF x (l.take i)) ++ [I (max l[i].1 x), I l[i].2] := by
  rw [take_one l i h, rcutF, List.map_append, cR_append]; rfl
def i69 (l : List Rg) (lo a : Int) (k : Nat) (s : St) : Prop := ∃ i : Nat, i + k = l.length ∧
    s = ⟨[(1, I a), (2, .pt 0 0), (4, .pt 1 0), (5, .lv 2 0 i), (6, I (IN i))], [(0, ⟨[fR l, I lo], 1, 0⟩), (1, ⟨[.nl, I 0], 1, 0⟩), (2, ⟨cR (rcutF (lim a) (l.take i)), 2, 0⟩)], 3⟩
theorem rcut_con (l : List Rg) (lo : Int) (hl : l.length < 1000000) (a : Int) : Con Try.prog 69 [] [.ag [fR l, I lo], I a] [] (.ag [fR (rcutF (lim a) l), I 0]) := by
  refine con_j b69 rfl ?_
  sym =>
  simp [Zaa,Zab,Zac,Zad,Zae,Zaf,Zag,Zah,Zai,Zak,Zal,Zam,Zan,Zap,Zaq,Zav,Zaw,Zay,Zaz,Za0,Za1,Za2,Za3,Za4,Za5,Za9,Zba,Zbb,Zbc,Zbf,Zbt,Zbu,Zbv,Zbw,Zb2,Zb9,Zca,Zcn,Zcs,Zcv,Zcx,Zc0,Zc3,Zc6,Zc7,Zc8,Zc9,Zdf,Zdg,Zdh,Zdj,Zdk,Zdo,Zdp,Zdt,Zdu,Zdv,Zdw,Zdx,Zdy,Zdz,Zd0,Zd1,Zd2,Zd3,Zeb,Zee,Zeh,Zek,Zen,Zeq,Zer,Zes,Zet,Zev,Zew,Zez,Ze0,Ze1,Ze2,Ze3,Ze4,Ze5,Ze8,Zfb,Zfc,Zfd,Zfe,Zff,Zfg,Zfh,Zfn,Zfq,Zf1,Zgr,Zgs,Zgt,Zgu,Zgv,Zgw,Zgx,Zgy,Zg4,Zg6,Zhd,Zhe,Zhf,Zhg,Zhh,Zho,Zh6,Zh7,Zie,Zig,Zih,Zii,Zij,Zin,Zio,Zip,Ziq,Zir,Ziu,Ziv,Ziw,Zix,Ziz,Zi0,Zi2,Zi3,Zi6,Zi7,Zje,Zjg,Zjh,Zji,Zjj,Zjk,Zjn,Zjo,Zjr,Zkl,Zla,Zlb,Zle,Zlj,Zlz,Zmt,Zmv,Zmw,Zmy,Zm0,Zm1,Zm2,Zm5,Zm6,Zm7,Zm9,Zna,Znb,Znc,Znd,Zne,Znf,Zng,Znh,Znl,Znm,Znn,Zno,Znp,Znr,Zns,Znt,Znw,Zn5,Zos,Zot,Zo7,Zo8,Zo9,Zpa,Zpc,Zpd,Zpg,Zpo,Zpr,Zpu,Zpy,Zp1,Zp2,Zp8,Zqb,Zqc,Zqf,Zqg,Zqh,Zqi,Zqj,Zqk,Zql,Zqm,Zqn,List.length_map,eq_self,true_and,and_true,Nat.zero_add,Nat.add_zero]
  tactic =>
  refine lpA (i69 l lo a) l.length [(0, 0), (1, 1)] _ ⟨0, by omega, rfl⟩ (wkA ?_) ?_
  · sym =>
    simp [Zaa,Zab,Zac,Zad,Zae,Zaf,Zag,Zah,Zai,Zak,Zal,Zam,Zan,Zap,Zaq,Zav,Zaw,Zay,Zaz,Za0,Za1,Za2,Za3,Za4,Za5,Za9,Zba,Zbb,Zbc,Zbf,Zbt,Zbu,Zbv,Zbw,Zb2,Zb9,Zca,Zcn,Zcs,Zcv,Zcx,Zc0,Zc3,Zc6,Zc7,Zc8,Zc9,Zdf,Zdg,Zdh,Zdj,Zdk,Zdo,Zdp,Zdt,Zdu,Zdv,Zdw,Zdx,Zdy,Zdz,Zd0,Zd1,Zd2,Zd3,Zeb,Zee,Zeh,Zek,Zen,Zeq,Zer,Zes,Zet,Zev,Zew,Zez,Ze0,Ze1,Ze2,Ze3,Ze4,Ze5,Ze8,Zfb,Zfc,Zfd,Zfe,Zff,Zfg,Zfh,Zfn,Zfq,Zf1,Zgr,Zgs,Zgt,Zgu,Zgv,Zgw,Zgx,Zgy,Zg4,Zg6,Zhd,Zhe,Zhf,Zhg,Zhh,Zho,Zh6,Zh7,Zie,Zig,Zih,Zii,Zij,Zin,Zio,Zip,Ziq,Zir,Ziu,Ziv,Ziw,Zix,Ziz,Zi0,Zi2,Zi3,Zi6,Zi7,Zje,Zjg,Zjh,Zji,Zjj,Zjk,Zjn,Zjo,Zjr,Zkl,Zla,Zlb,Zle,Zlj,Zlz,Zmt,Zmv,Zmw,Zmy,Zm0,Zm1,Zm2,Zm5,Zm6,Zm7,Zm9,Zna,Znb,Znc,Znd,Zne,Znf,Zng,Znh,Znl,Znm,Znn,Zno,Znp,Znr,Zns,Znt,Znw,Zn5,Zos,Zot,Zo7,Zo8,Zo9,Zpa,Zpc,Zpd,Zpg,Zpo,Zpr,Zpu,Zpy,Zp1,Zp2,Zp8,Zqb,Zqc,Zqf,Zqg,Zqh,Zqi,Zqj,Zqk,Zql,Zqm,Zqn,List.length_map,eq_self,true_and,and_true,Nat.zero_add,Nat.add_zero]
    tactic =>
    and_intros <;> try (first | omega | rfl | assumption | exact cR_okF _ | exact cR_okI _ | exact rs_self (cR_okI _) | (symm; refine List.take_of_length_le ?_; simp <;> omega))
  rintro k s ⟨i, hi, rfl⟩
  have hlen : (rcutF (lim a) (l.take i)).length = i := by simp [rcutF]; omega
  by_cases h : i < l.length
  · have hw := w64s i (by omega)
    have h0 := cR_q0 l i h
    have h1 := cR_q1 l i h
    sym =>
    simp [Zaa,Zab,Zac,Zad,Zae,Zaf,Zag,Zah,Zai,Zak,Zal,Zam,Zan,Zap,Zaq,Zav,Zaw,Zay,Zaz,Za0,Za1,Za2,Za3,Za4,Za5,Za9,Zba,Zbb,Zbc,Zbf,Zbt,Zbu,Zbv,Zbw,Zb2,Zb9,Zca,Zcn,Zcs,Zcv,Zcx,Zc0,Zc3,Zc6,Zc7,Zc8,Zc9,Zdf,Zdg,Zdh,Zdj,Zdk,Zdo,Zdp,Zdt,Zdu,Zdv,Zdw,Zdx,Zdy,Zdz,Zd0,Zd1,Zd2,Zd3,Zeb,Zee,Zeh,Zek,Zen,Zeq,Zer,Zes,Zet,Zev,Zew,Zez,Ze0,Ze1,Ze2,Ze3,Ze4,Ze5,Ze8,Zfb,Zfc,Zfd,Zfe,Zff,Zfg,Zfh,Zfn,Zfq,Zf1,Zgr,Zgs,Zgt,Zgu,Zgv,Zgw,Zgx,Zgy,Zg4,Zg6,Zhd,Zhe,Zhf,Zhg,Zhh,Zho,Zh6,Zh7,Zie,Zig,Zih,Zii,Zij,Zin,Zio,Zip,Ziq,Zir,Ziu,Ziv,Ziw,Zix,Ziz,Zi0,Zi2,Zi3,Zi6,Zi7,Zje,Zjg,Zjh,Zji,Zjj,Zjk,Zjn,Zjo,Zjr,Zkl,Zla,Zlb,Zle,Zlj,Zlz,Zmt,Zmv,Zmw,Zmy,Zm0,Zm1,Zm2,Zm5,Zm6,Zm7,Zm9,Zna,Znb,Znc,Znd,Zne,Znf,Zng,Znh,Znl,Znm,Znn,Zno,Znp,Znr,Zns,Znt,Znw,Zn5,Zos,Zot,Zo7,Zo8,Zo9,Zpa,Zpc,Zpd,Zpg,Zpo,Zpr,Zpu,Zpy,Zp1,Zp2,Zp8,Zqb,Zqc,Zqf,Zqg,Zqh,Zqi,Zqj,Zqk,Zql,Zqm,Zqn,List.length_map,eq_self,true_and,and_true,Nat.zero_add,Nat.add_zero,h,h0,h1,hw,cR_length,callable_77]
    tactic =>
    and_intros <;> try (first | omega | rfl | assumption | exact cR_okF _ | exact cR_okI _ | exact rs_self (cR_okI _) | (symm; refine List.take_of_length_le ?_; simp <;> omega))
    refine cl none (rnear_con a) trivial ?_
    sym =>
    simp [Zaa,Zab,Zac,Zad,Zae,Zaf,Zag,Zah,Zai,Zak,Zal,Zam,Zan,Zap,Zaq,Zav,Zaw,Zay,Zaz,Za0,Za1,Za2,Za3,Za4,Za5,Za9,Zba,Zbb,Zbc,Zbf,Zbt,Zbu,Zbv,Zbw,Zb2,Zb9,Zca,Zcn,Zcs,Zcv,Zcx,Zc0,Zc3,Zc6,Zc7,Zc8,Zc9,Zdf,Zdg,Zdh,Zdj,Zdk,Zdo,Zdp,Zdt,Zdu,Zdv,Zdw,Zdx,Zdy,Zdz,Zd0,Zd1,Zd2,Zd3,Zeb,Zee,Zeh,Zek,Zen,Zeq,Zer,Zes,Zet,Zev,Zew,Zez,Ze0,Ze1,Ze2,Ze3,Ze4,Ze5,Ze8,Zfb,Zfc,Zfd,Zfe,Zff,Zfg,Zfh,Zfn,Zfq,Zf1,Zgr,Zgs,Zgt,Zgu,Zgv,Zgw,Zgx,Zgy,Zg4,Zg6,Zhd,Zhe,Zhf,Zhg,Zhh,Zho,Zh6,Zh7,Zie,Zig,Zih,Zii,Zij,Zin,Zio,Zip,Ziq,Zir,Ziu,Ziv,Ziw,Zix,Ziz,Zi0,Zi2,Zi3,Zi6,Zi7,Zje,Zjg,Zjh,Zji,Zjj,Zjk,Zjn,Zjo,Zjr,Zkl,Zla,Zlb,Zle,Zlj,Zlz,Zmt,Zmv,Zmw,Zmy,Zm0,Zm1,Zm2,Zm5,Zm6,Zm7,Zm9,Zna,Znb,Znc,Znd,Zne,Znf,Zng,Znh,Znl,Znm,Znn,Zno,Znp,Znr,Zns,Znt,Znw,Zn5,Zos,Zot,Zo7,Zo8,Zo9,Zpa,Zpc,Zpd,Zpg,Zpo,Zpr,Zpu,Zpy,Zp1,Zp2,Zp8,Zqb,Zqc,Zqf,Zqg,Zqh,Zqi,Zqj,Zqk,Zql,Zqm,Zqn,List.length_map,eq_self,true_and,and_true,Nat.zero_add,Nat.add_zero,h,h0,h1,hw,cR_length,hlen]
    tactic =>
    and_intros <;> try (first | omega | rfl | assumption | exact cR_okF _ | exact cR_okI _ | exact rs_self (cR_okI _) | (symm; refine List.take_of_length_le ?_; simp <;> omega))
    unfold NextL; refine ⟨(k - 1), [(0, 0), (1, 1), (2, 26)], _, by omega, ⟨i + 1, by omega, rfl⟩, wkA ?_⟩
    rw [rcut_take (lim a) l i h]
    sym =>
    simp [Zaa,Zab,Zac,Zad,Zae,Zaf,Zag,Zah,Zai,Zak,Zal,Zam,Zan,Zap,Zaq,Zav,Zaw,Zay,Zaz,Za0,Za1,Za2,Za3,Za4,Za5,Za9,Zba,Zbb,Zbc,Zbf,Zbt,Zbu,Zbv,Zbw,Zb2,Zb9,Zca,Zcn,Zcs,Zcv,Zcx,Zc0,Zc3,Zc6,Zc7,Zc8,Zc9,Zdf,Zdg,Zdh,Zdj,Zdk,Zdo,Zdp,Zdt,Zdu,Zdv,Zdw,Zdx,Zdy,Zdz,Zd0,Zd1,Zd2,Zd3,Zeb,Zee,Zeh,Zek,Zen,Zeq,Zer,Zes,Zet,Zev,Zew,Zez,Ze0,Ze1,Ze2,Ze3,Ze4,Ze5,Ze8,Zfb,Zfc,Zfd,Zfe,Zff,Zfg,Zfh,Zfn,Zfq,Zf1,Zgr,Zgs,Zgt,Zgu,Zgv,Zgw,Zgx,Zgy,Zg4,Zg6,Zhd,Zhe,Zhf,Zhg,Zhh,Zho,Zh6,Zh7,Zie,Zig,Zih,Zii,Zij,Zin,Zio,Zip,Ziq,Zir,Ziu,Ziv,Ziw,Zix,Ziz,Zi0,Zi2,Zi3,Zi6,Zi7,Zje,Zjg,Zjh,Zji,Zjj,Zjk,Zjn,Zjo,Zjr,Zkl,Zla,Zlb,Zle,Zlj,Zlz,Zmt,Zmv,Zmw,Zmy,Zm0,Zm1,Zm2,Zm5,Zm6,Zm7,Zm9,Zna,Znb,Znc,Znd,Zne,Znf,Zng,Znh,Znl,Znm,Znn,Zno,Znp,Znr,Zns,Znt,Znw,Zn5,Zos,Zot,Zo7,Zo8,Zo9,Zpa,Zpc,Zpd,Zpg,Zpo,Zpr,Zpu,Zpy,Zp1,Zp2,Zp8,Zqb,Zqc,Zqf,Zqg,Zqh,Zqi,Zqj,Zqk,Zql,Zqm,Zqn,List.length_map,eq_self,true_and,and_true,Nat.zero_add,Nat.add_zero]
    tactic =>
    and_intros <;> try (first | omega | rfl | assumption | exact cR_okF _ | exact cR_okI _ | exact rs_self (cR_okI _) | (symm; refine List.take_of_length_le ?_; simp <;> omega))
    exact rs_self (by simp)
  · have e : l.take i = l := List.take_of_length_le (by omega)
    have e2 : i = l.length := by omega
    rw [e] at *
    sym =>
    simp [Zaa,Zab,Zac,Zad,Zae,Zaf,Zag,Zah,Zai,Zak,Zal,Zam,Zan,Zap,Zaq,Zav,Zaw,Zay,Zaz,Za0,Za1,Za2,Za3,Za4,Za5,Za9,Zba,Zbb,Zbc,Zbf,Zbt,Zbu,Zbv,Zbw,Zb2,Zb9,Zca,Zcn,Zcs,Zcv,Zcx,Zc0,Zc3,Zc6,Zc7,Zc8,Zc9,Zdf,Zdg,Zdh,Zdj,Zdk,Zdo,Zdp,Zdt,Zdu,Zdv,Zdw,Zdx,Zdy,Zdz,Zd0,Zd1,Zd2,Zd3,Zeb,Zee,Zeh,Zek,Zen,Zeq,Zer,Zes,Zet,Zev,Zew,Zez,Ze0,Ze1,Ze2,Ze3,Ze4,Ze5,Ze8,Zfb,Zfc,Zfd,Zfe,Zff,Zfg,Zfh,Zfn,Zfq,Zf1,Zgr,Zgs,Zgt,Zgu,Zgv,Zgw,Zgx,Zgy,Zg4,Zg6,Zhd,Zhe,Zhf,Zhg,Zhh,Zho,Zh6,Zh7,Zie,Zig,Zih,Zii,Zij,Zin,Zio,Zip,Ziq,Zir,Ziu,Ziv,Ziw,Zix,Ziz,Zi0,Zi2,Zi3,Zi6,Zi7,Zje,Zjg,Zjh,Zji,Zjj,Zjk,Zjn,Zjo,Zjr,Zkl,Zla,Zlb,Zle,Zlj,Zlz,Zmt,Zmv,Zmw,Zmy,Zm0,Zm1,Zm2,Zm5,Zm6,Zm7,Zm9,Zna,Znb,Znc,Znd,Zne,Znf,Zng,Znh,Znl,Znm,Znn,Zno,Znp,Znr,Zns,Znt,Znw,Zn5,Zos,Zot,Zo7,Zo8,Zo9,Zpa,Zpc,Zpd,Zpg,Zpo,Zpr,Zpu,Zpy,Zp1,Zp2,Zp8,Zqb,Zqc,Zqf,Zqg,Zqh,Zqi,Zqj,Zqk,Zql,Zqm,Zqn,List.length_map,eq_self,true_and,and_true,Nat.zero_add,Nat.add_zero,h]
    tactic =>
    refine endA ?_
    sym =>
    simp [Zaa,Zab,Zac,Zad,Zae,Zaf,Zag,Zah,Zai,Zak,Zal,Zam,Zan,Zap,Zaq,Zav,Zaw,Zay,Zaz,Za0,Za1,Za2,Za3,Za4,Za5,Za9,Zba,Zbb,Zbc,Zbf,Zbt,Zbu,Zbv,Zbw,Zb2,Zb9,Zca,Zcn,Zcs,Zcv,Zcx,Zc0,Zc3,Zc6,Zc7,Zc8,Zc9,Zdf,Zdg,Zdh,Zdj,Zdk,Zdo,Zdp,Zdt,Zdu,Zdv,Zdw,Zdx,Zdy,Zdz,Zd0,Zd1,Zd2,Zd3,Zeb,Zee,Zeh,Zek,Zen,Zeq,Zer,Zes,Zet,Zev,Zew,Zez,Ze0,Ze1,Ze2,Ze3,Ze4,Ze5,Ze8,Zfb,Zfc,Zfd,Zfe,Zff,Zfg,Zfh,Zfn,Zfq,Zf1,Zgr,Zgs,Zgt,Zgu,Zgv,Zgw,Zgx,Zgy,Zg4,Zg6,Zhd,Zhe,Zhf,Zhg,Zhh,Zho,Zh6,Zh7,Zie,Zig,Zih,Zii,Zij,Zin,Zio,Zip,Ziq,Zir,Ziu,Ziv,Ziw,Zix,Ziz,Zi0,Zi2,Zi3,Zi6,Zi7,Zje,Zjg,Zjh,Zji,Zjj,Zjk,Zjn,Zjo,Zjr,Zkl,Zla,Zlb,Zle,Zlj,Zlz,Zmt,Zmv,Zmw,Zmy,Zm0,Zm1,Zm2,Zm5,Zm6,Zm7,Zm9,Zna,Znb,Znc,Znd,Zne,Znf,Zng,Znh,Znl,Znm,Znn,Zno,Znp,Znr,Zns,Znt,Znw,Zn5,Zos,Zot,Zo7,Zo8,Zo9,Zpa,Zpc,Zpd,Zpg,Zpo,Zpr,Zpu,Zpy,Zp1,Zp2,Zp8,Zqb,Zqc,Zqf,Zqg,Zqh,Zqi,Zqj,Zqk,Zql,Zqm,Zqn,List.length_map,eq_self,true_and,and_true,Nat.zero_add,Nat.add_zero,cR_length,rcutF_length]
    tactic =>
    and_intros <;> try (first | omega | rfl | assumption | exact cR_okF _ | exact cR_okI _ | exact rs_self (cR_okI _) | (symm; refine List.take_of_length_le ?_; simp <;> omega))
/-- The number of ends up to a place. -/
def cnt (l : List Rg) (a : Int) : Nat := l.countP (fun r => decide (r.1 ≤ a)) + l.countP (fun r => decide (r.2 ≤ a))
theorem cnt_le (l : List Rg) (a : Int) : cnt l a ≤ 2 * l.length := by
  have h1 := List.countP_le_length (p := fun r : Rg => decide (r.1 ≤ a)) (l := l)
  have h2 := List.countP_le_length (p := fun r : Rg => decide (r.2 ≤ a)) (l := l)
  unfold cnt
  omega
theorem cnt_cons (r : Rg) (l : List Rg) (a : Int) : cnt (r :: l) a = cnt l a + (if r.1 ≤ a then 1 else 0) + (if r.2 ≤ a then 1 else 0) := by
  simp only [cnt, List.countP_cons, decide_eq_true_eq]
  omega
theorem cnt_mono (l : List Rg) {a b : Int} (h : a ≤ b) : cnt l a ≤ cnt l b := by
  induction l with
  | nil => simp [cnt]
  | cons r l ih =>
    rw [cnt_cons, cnt_cons]
    have h1 : (if r.1 ≤ a then 1 else 0) ≤ (if r.1 ≤ b then 1 else 0) := by split <;> split <;> omega
    have h2 : (if r.2 ≤ a then 1 else 0) ≤ (if r.2 ≤ b then 1 else 0) := by split <;> split <;> omega
    omega
/-- What next finds: more than n; at most m; an end, or m. -/
theorem nextF_spec (n : Int) : ∀ (l : List Rg) (m : Int), n < m → n < nextF n l m ∧ nextF n l m ≤ m ∧ (nextF n l m = m ∨ cnt l n + 1 ≤ cnt l (nextF n l m)) ∧ ∀ r ∈ l, (n < r.1 → nextF n l m ≤ r.1) ∧ (n < r.2 → nextF n l m ≤ r.2)
  | [], m, h => ⟨h, Int.le_refl _, .inl rfl, fun r hr => by cases hr⟩
  | r :: l, m, h => by
    let m1 : Int := if n < r.1 then min m r.1 else m
    let m2 : Int := if n < r.2 then min m1 r.2 else m1
    have e : nextF n (r :: l) m = nextF n l m2 := rfl
    have h1 : n < m1 ∧ m1 ≤ m ∧ (m1 = m ∨ (m1 = r.1)) ∧ (n < r.1 → m1 ≤ r.1) := by
      show n < (if n < r.1 then min m r.1 else m) ∧ _
      by_cases hh : n < r.1
      · have e1 : m1 = min m r.1 := if_pos hh
        rw [if_pos hh, e1]; omega
      · have e1 : m1 = m := if_neg hh
        rw [if_neg hh, e1]; omega
    have h2 : n < m2 ∧ m2 ≤ m1 ∧ (m2 = m1 ∨ m2 = r.2) ∧ (n < r.2 → m2 ≤ r.2) := by
      by_cases hh : n < r.2
      · have e1 : m2 = min m1 r.2 := if_pos hh
        rw [e1]; omega
      · have e1 : m2 = m1 := if_neg hh
        rw [e1]; omega
    obtain ⟨g1, g2, g3, g4⟩ := nextF_spec n l m2 h2.1
    rw [e]
    refine ⟨g1, by omega, ?_, fun q hq => ?_⟩
    · rw [cnt_cons, cnt_cons]
      have mono := cnt_mono l (Int.le_of_lt g1)
      have q1 : (if r.1 ≤ n then 1 else 0) ≤ (if r.1 ≤ nextF n l m2 then 1 else 0) := by split <;> split <;> omega
      have q2 : (if r.2 ≤ n then 1 else 0) ≤ (if r.2 ≤ nextF n l m2 then 1 else 0) := by split <;> split <;> omega
      rcases g3 with g3 | g3
      · rcases h2.2.2.1 with h3 | h3
        · rcases h1.2.2.1 with h4 | h4
          · exact .inl (by omega)
          · right
            rw [if_neg (show ¬ r.1 ≤ n by omega), if_pos (show r.1 ≤ nextF n l m2 by omega)]
            omega
        · right
          rw [if_neg (show ¬ r.2 ≤ n by omega), if_pos (show r.2 ≤ nextF n l m2 by omega)]
          omega
      · right; omega
    · rcases List.mem_cons.1 hq with rfl | hq
      · exact ⟨fun hh => by have := h1.2.2.2 hh; omega, fun hh => by have := h2.2.2.2 hh; omega⟩
      · exact g4 q hq
/-- A piece laid behind the others. -/
def glue (out : List Rg) (a e : Int) : List Rg := match out.getLast? with
  | some r => if r.2 = a then out.dropLast ++ [(r.1, e)] else out ++ [(a, e)]
  | none => out ++ [(a, e)]
theorem glue_nil (a e : Int) : glue [] a e = [(a, e)] := rfl
theorem glue_snoc (o : List Rg) (r : Rg) (a e : Int) : glue (o ++ [r]) a e = if r.2 = a then o ++ [(r.1, e)] else o ++ [r] ++ [(a, e)] := by
  simp [glue]
theorem glue_length (o : List Rg) (a e : Int) : (glue o a e).length ≤ o.length + 1 := by
  rcases List.eq_nil_or_concat o with rfl | ⟨o', r, rfl⟩
  · simp [glue_nil]
  · rw [List.concat_eq_append, glue_snoc]; split <;> simp
def pcF (l : List Rg) (to : Int) (th : Bool) : Nat → Int → List Rg → List Rg
  | 0, _, out => out
  | k + 1, a, out => if a < to then
      pcF l to th k (min (nextF a l 4611686018427387904) to) (if hasF l a = th then glue out a (min (nextF a l 4611686018427387904) to) else out)
    else out
theorem pcF_stop (l : List Rg) (to : Int) (th : Bool) (k : Nat) (a : Int) (out : List Rg) (h : ¬ a < to) : pcF l to th k a out = out := by
  cases k with
  | zero => rfl
  | succ k => simp [pcF, h]
theorem pcF_step (l : List Rg) (to : Int) (th : Bool) (k : Nat) (a : Int) (out : List Rg) (h : a < to) (hk : 0 < k) : pcF l to th k a out =
    pcF l to th (k - 1) (min (nextF a l 4611686018427387904) to) (if hasF l a = th then glue out a (min (nextF a l 4611686018427387904) to) else out) := by
  cases k with
  | zero => omega
  | succ k => simp [pcF, h]
def pcs (l : List Rg) (a to : Int) (th : Bool) : List Rg := pcF l (lim to) th (lim to - lim a).toNat (lim a) []
theorem set_last (o : List Rg) (r : Rg) (e : Int) : (cR (o ++ [r])).set (o.length * 2 + 1) (I e) = cR (o ++ [(r.1, e)]) := by
  rw [cR_snoc, cR_snoc]
  simp [List.set_append_right]
def i50 (l : List Rg) (lo xa xb : Int) (th : Bool) (k : Nat) (s : St) : Prop := ∃ n : Int, ∃ out : List Rg, ∃ m : Nat, k = (xb - n).toNat ∧ k ≤ m ∧ n ≤ 4611686018427387904 ∧ out.length ≤ cnt l n + (if n < xb then 0 else 1) ∧
    pcF l xb th (xb - xa).toNat xa [] = pcF l xb th m n out ∧
    s = ⟨[(2, I xb), (3, Bo th), (4, .pt 0 0), (9, .lv 1 0 out.length), (10, I n)], [(0, ⟨[fR l, I lo], 1, 0⟩), (1, ⟨cR out, 2, 0⟩)], 2⟩
theorem pieces_con (l : List Rg) (lo : Int) (hl : l.length < 100000) (a b : Int) (th : Bool) : Con Try.prog 50 [] [.ag [fR l, I lo], I a, I b, Bo th] [] (fR (pcs l a b th)) := by
  refine con_j b50 rfl ?_
  sym =>
  simp [Zaa,Zab,Zad,Zae,Zaf,Zag,Zah,Zai,Zak,Zal,Zam,Zan,Zap,Zaq,Zav,Zaw,Zay,Zaz,Za0,Za1,Za2,Za3,Za4,Za5,Za6,Za7,Za8,Za9,Zba,Zbb,Zbd,Zbf,Zbt,Zbv,Zb1,Zb9,Zcn,Zct,Zcx,Zcz,Zc3,Zc5,Zdc,Zdd,Zde,Zdi,Zev,Zew,Zex,Zez,Ze0,Ze1,Ze2,Ze3,Ze4,Ze5,Ze8,Zfb,Zfc,Zfd,Zfe,Zff,Zfg,Zfh,Zfi,Zfk,Zfl,Zfn,Zfr,Zfz,Zf1,Zf3,Zf5,Zgr,Zgs,Zgt,Zgv,Zgw,Zgx,Zg4,Zg5,Zhd,Zhe,Zhf,Zhg,Zhh,Zho,Zh6,Zh9,Zif,Zig,Zik,Zil,Zim,Zio,Zip,Ziq,Zir,Ziu,Ziv,Ziw,Zix,Ziz,Zi0,Zi2,Zi3,Zi6,Zi7,Zjh,Zji,Zjj,Zjk,Zjn,Zjo,Zjr,Zjw,Zla,Zlb,Zlc,Zld,Zle,Zlf,Zlh,Zlj,Zlk,Zlm,Zlz,Zmt,Zmv,Zmw,Zmx,Zmz,Zm2,Zm5,Zm6,Zm7,Zm9,Zna,Znb,Znc,Znd,Zne,Znf,Zng,Znh,Znl,Znm,Znn,Zno,Znp,Znr,Zns,Znt,Znw,Znx,Zn5,Zof,Zog,Zoh,Zos,Zot,Zo7,Zo8,Zo9,Zpa,Zpc,Zpg,Zpo,Zpr,Zpu,Zp0,Zp1,Zp2,Zqb,Zqc,Zqf,Zqg,Zqh,Zqi,Zqj,Zqk,Zql,Zqm,Zqn,List.append_assoc,List.length_append,eq_self,true_and,and_true,not_false_eq_true,Nat.zero_add,callable_77]
  tactic =>
  refine cl none (rnear_con a) trivial ?_
  sym =>
  simp [Zaa,Zab,Zad,Zae,Zaf,Zag,Zah,Zai,Zak,Zal,Zam,Zan,Zap,Zaq,Zav,Zaw,Zay,Zaz,Za0,Za1,Za2,Za3,Za4,Za5,Za6,Za7,Za8,Za9,Zba,Zbb,Zbd,Zbf,Zbt,Zbv,Zb1,Zb9,Zcn,Zct,Zcx,Zcz,Zc3,Zc5,Zdc,Zdd,Zde,Zdi,Zev,Zew,Zex,Zez,Ze0,Ze1,Ze2,Ze3,Ze4,Ze5,Ze8,Zfb,Zfc,Zfd,Zfe,Zff,Zfg,Zfh,Zfi,Zfk,Zfl,Zfn,Zfr,Zfz,Zf1,Zf3,Zf5,Zgr,Zgs,Zgt,Zgv,Zgw,Zgx,Zg4,Zg5,Zhd,Zhe,Zhf,Zhg,Zhh,Zho,Zh6,Zh9,Zif,Zig,Zik,Zil,Zim,Zio,Zip,Ziq,Zir,Ziu,Ziv,Ziw,Zix,Ziz,Zi0,Zi2,Zi3,Zi6,Zi7,Zjh,Zji,Zjj,Zjk,Zjn,Zjo,Zjr,Zjw,Zla,Zlb,Zlc,Zld,Zle,Zlf,Zlh,Zlj,Zlk,Zlm,Zlz,Zmt,Zmv,Zmw,Zmx,Zmz,Zm2,Zm5,Zm6,Zm7,Zm9,Zna,Znb,Znc,Znd,Zne,Znf,Zng,Znh,Znl,Znm,Znn,Zno,Znp,Znr,Zns,Znt,Znw,Znx,Zn5,Zof,Zog,Zoh,Zos,Zot,Zo7,Zo8,Zo9,Zpa,Zpc,Zpg,Zpo,Zpr,Zpu,Zp0,Zp1,Zp2,Zqb,Zqc,Zqf,Zqg,Zqh,Zqi,Zqj,Zqk,Zql,Zqm,Zqn,List.append_assoc,List.length_append,eq_self,true_and,and_true,not_false_eq_true,Nat.zero_add,callable_77]
  tactic =>
  refine cl none (rnear_con b) trivial ?_
  sym =>
  simp [Zaa,Zab,Zad,Zae,Zaf,Zag,Zah,Zai,Zak,Zal,Zam,Zan,Zap,Zaq,Zav,Zaw,Zay,Zaz,Za0,Za1,Za2,Za3,Za4,Za5,Za6,Za7,Za8,Za9,Zba,Zbb,Zbd,Zbf,Zbt,Zbv,Zb1,Zb9,Zcn,Zct,Zcx,Zcz,Zc3,Zc5,Zdc,Zdd,Zde,Zdi,Zev,Zew,Zex,Zez,Ze0,Ze1,Ze2,Ze3,Ze4,Ze5,Ze8,Zfb,Zfc,Zfd,Zfe,Zff,Zfg,Zfh,Zfi,Zfk,Zfl,Zfn,Zfr,Zfz,Zf1,Zf3,Zf5,Zgr,Zgs,Zgt,Zgv,Zgw,Zgx,Zg4,Zg5,Zhd,Zhe,Zhf,Zhg,Zhh,Zho,Zh6,Zh9,Zif,Zig,Zik,Zil,Zim,Zio,Zip,Ziq,Zir,Ziu,Ziv,Ziw,Zix,Ziz,Zi0,Zi2,Zi3,Zi6,Zi7,Zjh,Zji,Zjj,Zjk,Zjn,Zjo,Zjr,Zjw,Zla,Zlb,Zlc,Zld,Zle,Zlf,Zlh,Zlj,Zlk,Zlm,Zlz,Zmt,Zmv,Zmw,Zmx,Zmz,Zm2,Zm5,Zm6,Zm7,Zm9,Zna,Znb,Znc,Znd,Zne,Znf,Zng,Znh,Znl,Znm,Znn,Zno,Znp,Znr,Zns,Znt,Znw,Znx,Zn5,Zof,Zog,Zoh,Zos,Zot,Zo7,Zo8,Zo9,Zpa,Zpc,Zpg,Zpo,Zpr,Zpu,Zp0,Zp1,Zp2,Zqb,Zqc,Zqf,Zqg,Zqh,Zqi,Zqj,Zqk,Zql,Zqm,Zqn,List.append_assoc,List.length_append,eq_self,true_and,and_true,not_false_eq_true,Nat.zero_add]
  tactic =>
  unfold pcs
  have ha : 0 ≤ lim a ∧ lim a ≤ 4611686018427387904 := by simp only [lim]; omega
  have hb : 0 ≤ lim b ∧ lim b ≤ 4611686018427387904 := by simp only [lim]; omega
  generalize lim a = xa at *
  generalize lim b = xb at *
  refine lpA (i50 l lo xa xb th) (xb - xa).toNat [(0, 0)] _ ⟨xa, [], (xb - xa).toNat, by omega, by omega, by omega, by simp, rfl, rfl⟩ (wkA ?_) ?_
  · sym =>
    simp [Zaa,Zab,Zad,Zae,Zaf,Zag,Zah,Zai,Zak,Zal,Zam,Zan,Zap,Zaq,Zav,Zaw,Zay,Zaz,Za0,Za1,Za2,Za3,Za4,Za5,Za6,Za7,Za8,Za9,Zba,Zbb,Zbd,Zbf,Zbt,Zbv,Zb1,Zb9,Zcn,Zct,Zcx,Zcz,Zc3,Zc5,Zdc,Zdd,Zde,Zdi,Zev,Zew,Zex,Zez,Ze0,Ze1,Ze2,Ze3,Ze4,Ze5,Ze8,Zfb,Zfc,Zfd,Zfe,Zff,Zfg,Zfh,Zfi,Zfk,Zfl,Zfn,Zfr,Zfz,Zf1,Zf3,Zf5,Zgr,Zgs,Zgt,Zgv,Zgw,Zgx,Zg4,Zg5,Zhd,Zhe,Zhf,Zhg,Zhh,Zho,Zh6,Zh9,Zif,Zig,Zik,Zil,Zim,Zio,Zip,Ziq,Zir,Ziu,Ziv,Ziw,Zix,Ziz,Zi0,Zi2,Zi3,Zi6,Zi7,Zjh,Zji,Zjj,Zjk,Zjn,Zjo,Zjr,Zjw,Zla,Zlb,Zlc,Zld,Zle,Zlf,Zlh,Zlj,Zlk,Zlm,Zlz,Zmt,Zmv,Zmw,Zmx,Zmz,Zm2,Zm5,Zm6,Zm7,Zm9,Zna,Znb,Znc,Znd,Zne,Znf,Zng,Znh,Znl,Znm,Znn,Zno,Znp,Znr,Zns,Znt,Znw,Znx,Zn5,Zof,Zog,Zoh,Zos,Zot,Zo7,Zo8,Zo9,Zpa,Zpc,Zpg,Zpo,Zpr,Zpu,Zp0,Zp1,Zp2,Zqb,Zqc,Zqf,Zqg,Zqh,Zqi,Zqj,Zqk,Zql,Zqm,Zqn,List.append_assoc,List.length_append,eq_self,true_and,and_true,not_false_eq_true,Nat.zero_add]
    tactic =>
    and_intros <;> try (first | omega | rfl | assumption | exact cR_okF _ | exact cR_okI _ | exact rs_self (cR_okI _) | (symm; refine List.take_of_length_le ?_; simp <;> omega))
  rintro k s ⟨n, out, m, rfl, hm, hn, hlen, he, rfl⟩
  have hc := cnt_le l n
  by_cases h : n < xb
  · obtain ⟨g1, g2, g3, g4⟩ := nextF_spec n l 4611686018427387904 (by omega)
    rw [pcF_step l xb th m n out h (by omega)] at he
    rw [if_pos h] at hlen
    have hcount : ∀ o : List Rg, o.length ≤ out.length + 1 → o.length ≤ cnt l (min (nextF n l 4611686018427387904) xb) + (if min (nextF n l 4611686018427387904) xb < xb then 0 else 1) := by
      intro o ho
      by_cases hx : nextF n l 4611686018427387904 < xb
      · rw [Int.min_eq_left (by omega), if_pos hx]
        rcases g3 with g3 | g3 <;> omega
      · rw [Int.min_eq_right (by omega), if_neg (by omega)]
        have := cnt_mono l (show n ≤ xb by omega)
        omega
    sym =>
    simp [Zaa,Zab,Zad,Zae,Zaf,Zag,Zah,Zai,Zak,Zal,Zam,Zan,Zap,Zaq,Zav,Zaw,Zay,Zaz,Za0,Za1,Za2,Za3,Za4,Za5,Za6,Za7,Za8,Za9,Zba,Zbb,Zbd,Zbf,Zbt,Zbv,Zb1,Zb9,Zcn,Zct,Zcx,Zcz,Zc3,Zc5,Zdc,Zdd,Zde,Zdi,Zev,Zew,Zex,Zez,Ze0,Ze1,Ze2,Ze3,Ze4,Ze5,Ze8,Zfb,Zfc,Zfd,Zfe,Zff,Zfg,Zfh,Zfi,Zfk,Zfl,Zfn,Zfr,Zfz,Zf1,Zf3,Zf5,Zgr,Zgs,Zgt,Zgv,Zgw,Zgx,Zg4,Zg5,Zhd,Zhe,Zhf,Zhg,Zhh,Zho,Zh6,Zh9,Zif,Zig,Zik,Zil,Zim,Zio,Zip,Ziq,Zir,Ziu,Ziv,Ziw,Zix,Ziz,Zi0,Zi2,Zi3,Zi6,Zi7,Zjh,Zji,Zjj,Zjk,Zjn,Zjo,Zjr,Zjw,Zla,Zlb,Zlc,Zld,Zle,Zlf,Zlh,Zlj,Zlk,Zlm,Zlz,Zmt,Zmv,Zmw,Zmx,Zmz,Zm2,Zm5,Zm6,Zm7,Zm9,Zna,Znb,Znc,Znd,Zne,Znf,Zng,Znh,Znl,Znm,Znn,Zno,Znp,Znr,Zns,Znt,Znw,Znx,Zn5,Zof,Zog,Zoh,Zos,Zot,Zo7,Zo8,Zo9,Zpa,Zpc,Zpg,Zpo,Zpr,Zpu,Zp0,Zp1,Zp2,Zqb,Zqc,Zqf,Zqg,Zqh,Zqi,Zqj,Zqk,Zql,Zqm,Zqn,List.append_assoc,List.length_append,eq_self,true_and,and_true,not_false_eq_true,Nat.zero_add,h,callable_78]
    tactic =>
    refine cl none (rnext_con l lo (by omega) n) trivial ?_
    sym =>
    simp [Zaa,Zab,Zad,Zae,Zaf,Zag,Zah,Zai,Zak,Zal,Zam,Zan,Zap,Zaq,Zav,Zaw,Zay,Zaz,Za0,Za1,Za2,Za3,Za4,Za5,Za6,Za7,Za8,Za9,Zba,Zbb,Zbd,Zbf,Zbt,Zbv,Zb1,Zb9,Zcn,Zct,Zcx,Zcz,Zc3,Zc5,Zdc,Zdd,Zde,Zdi,Zev,Zew,Zex,Zez,Ze0,Ze1,Ze2,Ze3,Ze4,Ze5,Ze8,Zfb,Zfc,Zfd,Zfe,Zff,Zfg,Zfh,Zfi,Zfk,Zfl,Zfn,Zfr,Zfz,Zf1,Zf3,Zf5,Zgr,Zgs,Zgt,Zgv,Zgw,Zgx,Zg4,Zg5,Zhd,Zhe,Zhf,Zhg,Zhh,Zho,Zh6,Zh9,Zif,Zig,Zik,Zil,Zim,Zio,Zip,Ziq,Zir,Ziu,Ziv,Ziw,Zix,Ziz,Zi0,Zi2,Zi3,Zi6,Zi7,Zjh,Zji,Zjj,Zjk,Zjn,Zjo,Zjr,Zjw,Zla,Zlb,Zlc,Zld,Zle,Zlf,Zlh,Zlj,Zlk,Zlm,Zlz,Zmt,Zmv,Zmw,Zmx,Zmz,Zm2,Zm5,Zm6,Zm7,Zm9,Zna,Znb,Znc,Znd,Zne,Znf,Zng,Znh,Znl,Znm,Znn,Zno,Znp,Znr,Zns,Znt,Znw,Znx,Zn5,Zof,Zog,Zoh,Zos,Zot,Zo7,Zo8,Zo9,Zpa,Zpc,Zpg,Zpo,Zpr,Zpu,Zp0,Zp1,Zp2,Zqb,Zqc,Zqf,Zqg,Zqh,Zqi,Zqj,Zqk,Zql,Zqm,Zqn,List.append_assoc,List.length_append,eq_self,true_and,and_true,not_false_eq_true,Nat.zero_add,callable_39]
    tactic =>
    refine cl none (rhas_con l lo (by omega) n) trivial ?_
    generalize nextF n l 4611686018427387904 = nx at *
    by_cases h1 : hasF l n = th
    · have hx : (hasF l n == th) = true := by simp [h1]
      rw [if_pos h1] at he
      have hgl := glue_length out n (min nx xb)
      rcases List.eq_nil_or_concat out with rfl | ⟨o, r, rfl⟩
      · sym =>
        simp [Zaa,Zab,Zad,Zae,Zaf,Zag,Zah,Zai,Zak,Zal,Zam,Zan,Zap,Zaq,Zav,Zaw,Zay,Zaz,Za0,Za1,Za2,Za3,Za4,Za5,Za6,Za7,Za8,Za9,Zba,Zbb,Zbd,Zbf,Zbt,Zbv,Zb1,Zb9,Zcn,Zct,Zcx,Zcz,Zc3,Zc5,Zdc,Zdd,Zde,Zdi,Zev,Zew,Zex,Zez,Ze0,Ze1,Ze2,Ze3,Ze4,Ze5,Ze8,Zfb,Zfc,Zfd,Zfe,Zff,Zfg,Zfh,Zfi,Zfk,Zfl,Zfn,Zfr,Zfz,Zf1,Zf3,Zf5,Zgr,Zgs,Zgt,Zgv,Zgw,Zgx,Zg4,Zg5,Zhd,Zhe,Zhf,Zhg,Zhh,Zho,Zh6,Zh9,Zif,Zig,Zik,Zil,Zim,Zio,Zip,Ziq,Zir,Ziu,Ziv,Ziw,Zix,Ziz,Zi0,Zi2,Zi3,Zi6,Zi7,Zjh,Zji,Zjj,Zjk,Zjn,Zjo,Zjr,Zjw,Zla,Zlb,Zlc,Zld,Zle,Zlf,Zlh,Zlj,Zlk,Zlm,Zlz,Zmt,Zmv,Zmw,Zmx,Zmz,Zm2,Zm5,Zm6,Zm7,Zm9,Zna,Znb,Znc,Znd,Zne,Znf,Zng,Znh,Znl,Znm,Znn,Zno,Znp,Znr,Zns,Znt,Znw,Znx,Zn5,Zof,Zog,Zoh,Zos,Zot,Zo7,Zo8,Zo9,Zpa,Zpc,Zpg,Zpo,Zpr,Zpu,Zp0,Zp1,Zp2,Zqb,Zqc,Zqf,Zqg,Zqh,Zqi,Zqj,Zqk,Zql,Zqm,Zqn,List.append_assoc,List.length_append,eq_self,true_and,and_true,not_false_eq_true,Nat.zero_add,hx,cR_length,List.length_nil,cR_nil]
        tactic =>
        and_intros <;> try (first | omega | rfl | assumption | exact cR_okF _ | exact cR_okI _ | exact rs_self (cR_okI _) | (symm; refine List.take_of_length_le ?_; simp <;> omega))
        unfold NextL; refine ⟨(xb - min nx xb).toNat, [(0, 0), (1, 36)], _, by omega, ⟨min nx xb, glue [] n (min nx xb), m - 1, rfl, by omega, by omega, hcount _ hgl, he, rfl⟩, wkA ?_⟩
        rw [glue_nil]
        sym =>
        simp [Zaa,Zab,Zad,Zae,Zaf,Zag,Zah,Zai,Zak,Zal,Zam,Zan,Zap,Zaq,Zav,Zaw,Zay,Zaz,Za0,Za1,Za2,Za3,Za4,Za5,Za6,Za7,Za8,Za9,Zba,Zbb,Zbd,Zbf,Zbt,Zbv,Zb1,Zb9,Zcn,Zct,Zcx,Zcz,Zc3,Zc5,Zdc,Zdd,Zde,Zdi,Zev,Zew,Zex,Zez,Ze0,Ze1,Ze2,Ze3,Ze4,Ze5,Ze8,Zfb,Zfc,Zfd,Zfe,Zff,Zfg,Zfh,Zfi,Zfk,Zfl,Zfn,Zfr,Zfz,Zf1,Zf3,Zf5,Zgr,Zgs,Zgt,Zgv,Zgw,Zgx,Zg4,Zg5,Zhd,Zhe,Zhf,Zhg,Zhh,Zho,Zh6,Zh9,Zif,Zig,Zik,Zil,Zim,Zio,Zip,Ziq,Zir,Ziu,Ziv,Ziw,Zix,Ziz,Zi0,Zi2,Zi3,Zi6,Zi7,Zjh,Zji,Zjj,Zjk,Zjn,Zjo,Zjr,Zjw,Zla,Zlb,Zlc,Zld,Zle,Zlf,Zlh,Zlj,Zlk,Zlm,Zlz,Zmt,Zmv,Zmw,Zmx,Zmz,Zm2,Zm5,Zm6,Zm7,Zm9,Zna,Znb,Znc,Znd,Zne,Znf,Zng,Znh,Znl,Znm,Znn,Zno,Znp,Znr,Zns,Znt,Znw,Znx,Zn5,Zof,Zog,Zoh,Zos,Zot,Zo7,Zo8,Zo9,Zpa,Zpc,Zpg,Zpo,Zpr,Zpu,Zp0,Zp1,Zp2,Zqb,Zqc,Zqf,Zqg,Zqh,Zqi,Zqj,Zqk,Zql,Zqm,Zqn,List.append_assoc,List.length_append,eq_self,true_and,and_true,not_false_eq_true,Nat.zero_add,cR_cons,cR_nil,List.length_cons,List.length_nil]
      · rw [List.concat_eq_append] at *
        have hlen2 : o.length + 1 ≤ 2 * l.length := by simp at hlen; omega
        have hq := cR_q1 (o ++ [r]) o.length (by simp)
        have hq2 : (o ++ [r])[o.length]'(by simp) = r := by simp
        rw [hq2] at hq
        have hw : IntKind.i64.wrap (IN (o.length + 1) - 1) = IN o.length := by simp only [IN]; rw [w64 _ (by omega)]; omega
        by_cases h2 : r.2 = n
        · sym =>
          simp [Zaa,Zab,Zad,Zae,Zaf,Zag,Zah,Zai,Zak,Zal,Zam,Zan,Zap,Zaq,Zav,Zaw,Zay,Zaz,Za0,Za1,Za2,Za3,Za4,Za5,Za6,Za7,Za8,Za9,Zba,Zbb,Zbd,Zbf,Zbt,Zbv,Zb1,Zb9,Zcn,Zct,Zcx,Zcz,Zc3,Zc5,Zdc,Zdd,Zde,Zdi,Zev,Zew,Zex,Zez,Ze0,Ze1,Ze2,Ze3,Ze4,Ze5,Ze8,Zfb,Zfc,Zfd,Zfe,Zff,Zfg,Zfh,Zfi,Zfk,Zfl,Zfn,Zfr,Zfz,Zf1,Zf3,Zf5,Zgr,Zgs,Zgt,Zgv,Zgw,Zgx,Zg4,Zg5,Zhd,Zhe,Zhf,Zhg,Zhh,Zho,Zh6,Zh9,Zif,Zig,Zik,Zil,Zim,Zio,Zip,Ziq,Zir,Ziu,Ziv,Ziw,Zix,Ziz,Zi0,Zi2,Zi3,Zi6,Zi7,Zjh,Zji,Zjj,Zjk,Zjn,Zjo,Zjr,Zjw,Zla,Zlb,Zlc,Zld,Zle,Zlf,Zlh,Zlj,Zlk,Zlm,Zlz,Zmt,Zmv,Zmw,Zmx,Zmz,Zm2,Zm5,Zm6,Zm7,Zm9,Zna,Znb,Znc,Znd,Zne,Znf,Zng,Znh,Znl,Znm,Znn,Zno,Znp,Znr,Zns,Znt,Znw,Znx,Zn5,Zof,Zog,Zoh,Zos,Zot,Zo7,Zo8,Zo9,Zpa,Zpc,Zpg,Zpo,Zpr,Zpu,Zp0,Zp1,Zp2,Zqb,Zqc,Zqf,Zqg,Zqh,Zqi,Zqj,Zqk,Zql,Zqm,Zqn,List.append_assoc,List.length_append,eq_self,true_and,and_true,not_false_eq_true,Nat.zero_add,hx,h2,hq,hw,cR_length]
          tactic =>
          and_intros <;> try (first | omega | rfl | assumption | exact cR_okF _ | exact cR_okI _ | exact rs_self (cR_okI _) | (symm; refine List.take_of_length_le ?_; simp <;> omega))
          rw [glue_snoc, if_pos h2] at he hgl
          unfold NextL; refine ⟨(xb - min nx xb).toNat, [(0, 0), (1, 1)], _, by omega, ⟨min nx xb, o ++ [(r.1, min nx xb)], m - 1, rfl, by omega, by omega, hcount _ hgl, he, rfl⟩, wkA ?_⟩
          rw [set_last]
          sym =>
          simp [Zaa,Zab,Zad,Zae,Zaf,Zag,Zah,Zai,Zak,Zal,Zam,Zan,Zap,Zaq,Zav,Zaw,Zay,Zaz,Za0,Za1,Za2,Za3,Za4,Za5,Za6,Za7,Za8,Za9,Zba,Zbb,Zbd,Zbf,Zbt,Zbv,Zb1,Zb9,Zcn,Zct,Zcx,Zcz,Zc3,Zc5,Zdc,Zdd,Zde,Zdi,Zev,Zew,Zex,Zez,Ze0,Ze1,Ze2,Ze3,Ze4,Ze5,Ze8,Zfb,Zfc,Zfd,Zfe,Zff,Zfg,Zfh,Zfi,Zfk,Zfl,Zfn,Zfr,Zfz,Zf1,Zf3,Zf5,Zgr,Zgs,Zgt,Zgv,Zgw,Zgx,Zg4,Zg5,Zhd,Zhe,Zhf,Zhg,Zhh,Zho,Zh6,Zh9,Zif,Zig,Zik,Zil,Zim,Zio,Zip,Ziq,Zir,Ziu,Ziv,Ziw,Zix,Ziz,Zi0,Zi2,Zi3,Zi6,Zi7,Zjh,Zji,Zjj,Zjk,Zjn,Zjo,Zjr,Zjw,Zla,Zlb,Zlc,Zld,Zle,Zlf,Zlh,Zlj,Zlk,Zlm,Zlz,Zmt,Zmv,Zmw,Zmx,Zmz,Zm2,Zm5,Zm6,Zm7,Zm9,Zna,Znb,Znc,Znd,Zne,Znf,Zng,Znh,Znl,Znm,Znn,Zno,Znp,Znr,Zns,Znt,Znw,Znx,Zn5,Zof,Zog,Zoh,Zos,Zot,Zo7,Zo8,Zo9,Zpa,Zpc,Zpg,Zpo,Zpr,Zpu,Zp0,Zp1,Zp2,Zqb,Zqc,Zqf,Zqg,Zqh,Zqi,Zqj,Zqk,Zql,Zqm,Zqn,List.append_assoc,List.length_append,eq_self,true_and,and_true,not_false_eq_true,Nat.zero_add]
          tactic =>
          and_intros <;> try (first | omega | rfl | assumption | exact cR_okF _ | exact cR_okI _ | exact rs_self (cR_okI _) | (symm; refine List.take_of_length_le ?_; simp <;> omega))
        · sym =>
          simp [Zaa,Zab,Zad,Zae,Zaf,Zag,Zah,Zai,Zak,Zal,Zam,Zan,Zap,Zaq,Zav,Zaw,Zay,Zaz,Za0,Za1,Za2,Za3,Za4,Za5,Za6,Za7,Za8,Za9,Zba,Zbb,Zbd,Zbf,Zbt,Zbv,Zb1,Zb9,Zcn,Zct,Zcx,Zcz,Zc3,Zc5,Zdc,Zdd,Zde,Zdi,Zev,Zew,Zex,Zez,Ze0,Ze1,Ze2,Ze3,Ze4,Ze5,Ze8,Zfb,Zfc,Zfd,Zfe,Zff,Zfg,Zfh,Zfi,Zfk,Zfl,Zfn,Zfr,Zfz,Zf1,Zf3,Zf5,Zgr,Zgs,Zgt,Zgv,Zgw,Zgx,Zg4,Zg5,Zhd,Zhe,Zhf,Zhg,Zhh,Zho,Zh6,Zh9,Zif,Zig,Zik,Zil,Zim,Zio,Zip,Ziq,Zir,Ziu,Ziv,Ziw,Zix,Ziz,Zi0,Zi2,Zi3,Zi6,Zi7,Zjh,Zji,Zjj,Zjk,Zjn,Zjo,Zjr,Zjw,Zla,Zlb,Zlc,Zld,Zle,Zlf,Zlh,Zlj,Zlk,Zlm,Zlz,Zmt,Zmv,Zmw,Zmx,Zmz,Zm2,Zm5,Zm6,Zm7,Zm9,Zna,Znb,Znc,Znd,Zne,Znf,Zng,Znh,Znl,Znm,Znn,Zno,Znp,Znr,Zns,Znt,Znw,Znx,Zn5,Zof,Zog,Zoh,Zos,Zot,Zo7,Zo8,Zo9,Zpa,Zpc,Zpg,Zpo,Zpr,Zpu,Zp0,Zp1,Zp2,Zqb,Zqc,Zqf,Zqg,Zqh,Zqi,Zqj,Zqk,Zql,Zqm,Zqn,List.append_assoc,List.length_append,eq_self,true_and,and_true,not_false_eq_true,Nat.zero_add,hx,h2,hq,hw,cR_length]
          tactic =>
          and_intros <;> try (first | omega | rfl | assumption | exact cR_okF _ | exact cR_okI _ | exact rs_self (cR_okI _) | (symm; refine List.take_of_length_le ?_; simp <;> omega))
          rw [glue_snoc, if_neg h2] at he hgl
          unfold NextL; refine ⟨(xb - min nx xb).toNat, [(0, 0), (1, 36)], _, by omega, ⟨min nx xb, o ++ [r] ++ [(n, min nx xb)], m - 1, rfl, by omega, by omega, hcount _ hgl, he, rfl⟩, wkA ?_⟩
          sym =>
          simp [Zaa,Zab,Zad,Zae,Zaf,Zag,Zah,Zai,Zak,Zal,Zam,Zan,Zap,Zaq,Zav,Zaw,Zay,Zaz,Za0,Za1,Za2,Za3,Za4,Za5,Za6,Za7,Za8,Za9,Zba,Zbb,Zbd,Zbf,Zbt,Zbv,Zb1,Zb9,Zcn,Zct,Zcx,Zcz,Zc3,Zc5,Zdc,Zdd,Zde,Zdi,Zev,Zew,Zex,Zez,Ze0,Ze1,Ze2,Ze3,Ze4,Ze5,Ze8,Zfb,Zfc,Zfd,Zfe,Zff,Zfg,Zfh,Zfi,Zfk,Zfl,Zfn,Zfr,Zfz,Zf1,Zf3,Zf5,Zgr,Zgs,Zgt,Zgv,Zgw,Zgx,Zg4,Zg5,Zhd,Zhe,Zhf,Zhg,Zhh,Zho,Zh6,Zh9,Zif,Zig,Zik,Zil,Zim,Zio,Zip,Ziq,Zir,Ziu,Ziv,Ziw,Zix,Ziz,Zi0,Zi2,Zi3,Zi6,Zi7,Zjh,Zji,Zjj,Zjk,Zjn,Zjo,Zjr,Zjw,Zla,Zlb,Zlc,Zld,Zle,Zlf,Zlh,Zlj,Zlk,Zlm,Zlz,Zmt,Zmv,Zmw,Zmx,Zmz,Zm2,Zm5,Zm6,Zm7,Zm9,Zna,Znb,Znc,Znd,Zne,Znf,Zng,Znh,Znl,Znm,Znn,Zno,Znp,Znr,Zns,Znt,Znw,Znx,Zn5,Zof,Zog,Zoh,Zos,Zot,Zo7,Zo8,Zo9,Zpa,Zpc,Zpg,Zpo,Zpr,Zpu,Zp0,Zp1,Zp2,Zqb,Zqc,Zqf,Zqg,Zqh,Zqi,Zqj,Zqk,Zql,Zqm,Zqn,List.append_assoc,List.length_append,eq_self,true_and,and_true,not_false_eq_true,Nat.zero_add,cR_append,cR_cons,cR_nil]
          tactic =>
          and_intros <;> try (first | omega | rfl | assumption | exact cR_okF _ | exact cR_okI _ | exact rs_self (cR_okI _) | (symm; refine List.take_of_length_le ?_; simp <;> omega))
          exact rs_self (by simp)
    · have hx : (hasF l n == th) = false := by simp [h1]
      rw [if_neg h1] at he
      sym =>
      simp [Zaa,Zab,Zad,Zae,Zaf,Zag,Zah,Zai,Zak,Zal,Zam,Zan,Zap,Zaq,Zav,Zaw,Zay,Zaz,Za0,Za1,Za2,Za3,Za4,Za5,Za6,Za7,Za8,Za9,Zba,Zbb,Zbd,Zbf,Zbt,Zbv,Zb1,Zb9,Zcn,Zct,Zcx,Zcz,Zc3,Zc5,Zdc,Zdd,Zde,Zdi,Zev,Zew,Zex,Zez,Ze0,Ze1,Ze2,Ze3,Ze4,Ze5,Ze8,Zfb,Zfc,Zfd,Zfe,Zff,Zfg,Zfh,Zfi,Zfk,Zfl,Zfn,Zfr,Zfz,Zf1,Zf3,Zf5,Zgr,Zgs,Zgt,Zgv,Zgw,Zgx,Zg4,Zg5,Zhd,Zhe,Zhf,Zhg,Zhh,Zho,Zh6,Zh9,Zif,Zig,Zik,Zil,Zim,Zio,Zip,Ziq,Zir,Ziu,Ziv,Ziw,Zix,Ziz,Zi0,Zi2,Zi3,Zi6,Zi7,Zjh,Zji,Zjj,Zjk,Zjn,Zjo,Zjr,Zjw,Zla,Zlb,Zlc,Zld,Zle,Zlf,Zlh,Zlj,Zlk,Zlm,Zlz,Zmt,Zmv,Zmw,Zmx,Zmz,Zm2,Zm5,Zm6,Zm7,Zm9,Zna,Znb,Znc,Znd,Zne,Znf,Zng,Znh,Znl,Znm,Znn,Zno,Znp,Znr,Zns,Znt,Znw,Znx,Zn5,Zof,Zog,Zoh,Zos,Zot,Zo7,Zo8,Zo9,Zpa,Zpc,Zpg,Zpo,Zpr,Zpu,Zp0,Zp1,Zp2,Zqb,Zqc,Zqf,Zqg,Zqh,Zqi,Zqj,Zqk,Zql,Zqm,Zqn,List.append_assoc,List.length_append,eq_self,true_and,and_true,not_false_eq_true,Nat.zero_add,hx]
      tactic =>
      unfold NextL; refine ⟨(xb - min nx xb).toNat, [(0, 0), (1, 1)], _, by omega, ⟨min nx xb, out, m - 1, rfl, by omega, by omega, hcount _ (by omega), he, rfl⟩, wkA ?_⟩
      sym =>
      simp [Zaa,Zab,Zad,Zae,Zaf,Zag,Zah,Zai,Zak,Zal,Zam,Zan,Zap,Zaq,Zav,Zaw,Zay,Zaz,Za0,Za1,Za2,Za3,Za4,Za5,Za6,Za7,Za8,Za9,Zba,Zbb,Zbd,Zbf,Zbt,Zbv,Zb1,Zb9,Zcn,Zct,Zcx,Zcz,Zc3,Zc5,Zdc,Zdd,Zde,Zdi,Zev,Zew,Zex,Zez,Ze0,Ze1,Ze2,Ze3,Ze4,Ze5,Ze8,Zfb,Zfc,Zfd,Zfe,Zff,Zfg,Zfh,Zfi,Zfk,Zfl,Zfn,Zfr,Zfz,Zf1,Zf3,Zf5,Zgr,Zgs,Zgt,Zgv,Zgw,Zgx,Zg4,Zg5,Zhd,Zhe,Zhf,Zhg,Zhh,Zho,Zh6,Zh9,Zif,Zig,Zik,Zil,Zim,Zio,Zip,Ziq,Zir,Ziu,Ziv,Ziw,Zix,Ziz,Zi0,Zi2,Zi3,Zi6,Zi7,Zjh,Zji,Zjj,Zjk,Zjn,Zjo,Zjr,Zjw,Zla,Zlb,Zlc,Zld,Zle,Zlf,Zlh,Zlj,Zlk,Zlm,Zlz,Zmt,Zmv,Zmw,Zmx,Zmz,Zm2,Zm5,Zm6,Zm7,Zm9,Zna,Znb,Znc,Znd,Zne,Znf,Zng,Znh,Znl,Znm,Znn,Zno,Znp,Znr,Zns,Znt,Znw,Znx,Zn5,Zof,Zog,Zoh,Zos,Zot,Zo7,Zo8,Zo9,Zpa,Zpc,Zpg,Zpo,Zpr,Zpu,Zp0,Zp1,Zp2,Zqb,Zqc,Zqf,Zqg,Zqh,Zqi,Zqj,Zqk,Zql,Zqm,Zqn,List.append_assoc,List.length_append,eq_self,true_and,and_true,not_false_eq_true,Nat.zero_add]
      tactic =>
      and_intros <;> try (first | omega | rfl | assumption | exact cR_okF _ | exact cR_okI _ | exact rs_self (cR_okI _) | (symm; refine List.take_of_length_le ?_; simp <;> omega))
  · rw [pcF_stop _ _ _ _ _ _ h] at he
    sym =>
    simp [Zaa,Zab,Zad,Zae,Zaf,Zag,Zah,Zai,Zak,Zal,Zam,Zan,Zap,Zaq,Zav,Zaw,Zay,Zaz,Za0,Za1,Za2,Za3,Za4,Za5,Za6,Za7,Za8,Za9,Zba,Zbb,Zbd,Zbf,Zbt,Zbv,Zb1,Zb9,Zcn,Zct,Zcx,Zcz,Zc3,Zc5,Zdc,Zdd,Zde,Zdi,Zev,Zew,Zex,Zez,Ze0,Ze1,Ze2,Ze3,Ze4,Ze5,Ze8,Zfb,Zfc,Zfd,Zfe,Zff,Zfg,Zfh,Zfi,Zfk,Zfl,Zfn,Zfr,Zfz,Zf1,Zf3,Zf5,Zgr,Zgs,Zgt,Zgv,Zgw,Zgx,Zg4,Zg5,Zhd,Zhe,Zhf,Zhg,Zhh,Zho,Zh6,Zh9,Zif,Zig,Zik,Zil,Zim,Zio,Zip,Ziq,Zir,Ziu,Ziv,Ziw,Zix,Ziz,Zi0,Zi2,Zi3,Zi6,Zi7,Zjh,Zji,Zjj,Zjk,Zjn,Zjo,Zjr,Zjw,Zla,Zlb,Zlc,Zld,Zle,Zlf,Zlh,Zlj,Zlk,Zlm,Zlz,Zmt,Zmv,Zmw,Zmx,Zmz,Zm2,Zm5,Zm6,Zm7,Zm9,Zna,Znb,Znc,Znd,Zne,Znf,Zng,Znh,Znl,Znm,Znn,Zno,Znp,Znr,Zns,Znt,Znw,Znx,Zn5,Zof,Zog,Zoh,Zos,Zot,Zo7,Zo8,Zo9,Zpa,Zpc,Zpg,Zpo,Zpr,Zpu,Zp0,Zp1,Zp2,Zqb,Zqc,Zqf,Zqg,Zqh,Zqi,Zqj,Zqk,Zql,Zqm,Zqn,List.append_assoc,List.length_append,eq_self,true_and,and_true,not_false_eq_true,Nat.zero_add,h]
    tactic =>
    refine endA ?_
    rw [he]
    sym =>
    simp [Zaa,Zab,Zad,Zae,Zaf,Zag,Zah,Zai,Zak,Zal,Zam,Zan,Zap,Zaq,Zav,Zaw,Zay,Zaz,Za0,Za1,Za2,Za3,Za4,Za5,Za6,Za7,Za8,Za9,Zba,Zbb,Zbd,Zbf,Zbt,Zbv,Zb1,Zb9,Zcn,Zct,Zcx,Zcz,Zc3,Zc5,Zdc,Zdd,Zde,Zdi,Zev,Zew,Zex,Zez,Ze0,Ze1,Ze2,Ze3,Ze4,Ze5,Ze8,Zfb,Zfc,Zfd,Zfe,Zff,Zfg,Zfh,Zfi,Zfk,Zfl,Zfn,Zfr,Zfz,Zf1,Zf3,Zf5,Zgr,Zgs,Zgt,Zgv,Zgw,Zgx,Zg4,Zg5,Zhd,Zhe,Zhf,Zhg,Zhh,Zho,Zh6,Zh9,Zif,Zig,Zik,Zil,Zim,Zio,Zip,Ziq,Zir,Ziu,Ziv,Ziw,Zix,Ziz,Zi0,Zi2,Zi3,Zi6,Zi7,Zjh,Zji,Zjj,Zjk,Zjn,Zjo,Zjr,Zjw,Zla,Zlb,Zlc,Zld,Zle,Zlf,Zlh,Zlj,Zlk,Zlm,Zlz,Zmt,Zmv,Zmw,Zmx,Zmz,Zm2,Zm5,Zm6,Zm7,Zm9,Zna,Znb,Znc,Znd,Zne,Znf,Zng,Znh,Znl,Znm,Znn,Zno,Znp,Znr,Zns,Znt,Znw,Znx,Zn5,Zof,Zog,Zoh,Zos,Zot,Zo7,Zo8,Zo9,Zpa,Zpc,Zpg,Zpo,Zpr,Zpu,Zp0,Zp1,Zp2,Zqb,Zqc,Zqf,Zqg,Zqh,Zqi,Zqj,Zqk,Zql,Zqm,Zqn,List.append_assoc,List.length_append,eq_self,true_and,and_true,not_false_eq_true,Nat.zero_add,cR_length]
    tactic =>
    and_intros <;> try (first | omega | rfl | assumption | exact cR_okF _ | exact cR_okI _ | exact rs_self (cR_okI _) | (symm; refine List.take_of_length_le ?_; simp <;> omega))
end Go.Proofs.Ytnfgnafphfddhaa.SpnC
