import Derived.Test.YtbmdahhhgpbchaaInA
import Derived.Test.YtbmdahhhgpbchaaSnC
namespace Go.Proofs.Ytbmdahhhgpbchaa.InB
open Go Go.Sim Go.Sim.E Go.RowKit Go.Proofs Go.Proofs.Ytbmdahhhgpbchaa.Cod Go.Proofs.Ytbmdahhhgpbchaa.Tab Go.Proofs.Ytbmdahhhgpbchaa.Bse Go.Proofs.Ytbmdahhhgpbchaa.SpnP Go.Proofs.Ytbmdahhhgpbchaa.SwA Go.Proofs.Ytbmdahhhgpbchaa.SwB Go.Proofs.Ytbmdahhhgpbchaa.SwC Go.Proofs.Ytbmdahhhgpbchaa.SwS Go.Proofs.Ytbmdahhhgpbchaa.SwD Go.Proofs.Ytbmdahhhgpbchaa.SwF Go.Proofs.Ytbmdahhhgpbchaa.SwG Go.Proofs.Ytbmdahhhgpbchaa.SwL Go.Proofs.Ytbmdahhhgpbchaa.ObA Go.Proofs.Ytbmdahhhgpbchaa.ObB Go.Proofs.Ytbmdahhhgpbchaa.ObC Go.Proofs.Ytbmdahhhgpbchaa.SnA Go.Proofs.Ytbmdahhhgpbchaa.SnB Go.Proofs.Ytbmdahhhgpbchaa.RbA Go.Proofs.Ytbmdahhhgpbchaa.MpB Go.Proofs.Ytbmdahhhgpbchaa.RbB Go.Proofs.Ytbmdahhhgpbchaa.InA Go.Proofs.Ytbmdahhhgpbchaa.SnC
set_option linter.unusedVariables false
set_option linter.unusedSimpArgs false
set_option maxRecDepth 100000
set_option maxHeartbeats 4000000
def i13 (l : List Rg) (k : Nat) (q : St) : Prop := ∃ i : Nat, i + k = l.length ∧
  q = ⟨[(0, fQ l), (3, .lv 0 0 (spF (l.take i)).length), (4, I (IN i))], [(0, ⟨cR (spF (l.take i)), 2, 0⟩)], 1⟩
theorem rspans_con (l : List Rg) (hl : l.length ≤ 1000000) : Con Try.prog 13 [] [fQ l] [] (fR (spF l)) := by
  refine con_j b13 rfl ?_
  sym =>
  simp [Zaa,Zab,Zac,Zad,Zae,Zaf,Zag,Zah,Zai,Zak,Zal,Zam,Zan,Zap,Zaq,Zav,Zaw,Zay,Zaz,Za0,Za1,Za2,Za3,Za4,Za5,Za6,Za7,Za8,Za9,Zba,Zbb,Zbc,Zbd,Zbf,Zbm,Zbt,Zbu,Zbv,Zbw,Zb1,Zb2,Zca,Zcn,Zc0,Zc6,Zc7,Zc8,Zc9,Zdo,Zdp,Zdt,Zdu,Zdv,Zdw,Zdx,Zdy,Zdz,Zd0,Zd1,Zd2,Zd3,Zeb,Zee,Zeh,Zen,Zer,Zes,Zev,Zew,Zex,Zez,Ze0,Ze2,Ze3,Ze4,Ze5,Zfb,Zfc,Zfd,Zfe,Zff,Zfg,Zfh,Zfi,Zfk,Zfl,Zfn,Zfq,Zf1,Zf2,Zgh,Zgi,Zgr,Zgu,Zgw,Zgy,Zg4,Zg6,Zhd,Zhe,Zhf,Zhg,Zhh,Zho,Zh6,Zh7,Ziq,Zir,Zix,Ziz,Zi0,Zi2,Zi3,Zi6,Zi7,Zjj,Zjk,Zjo,Zmt,Zmv,Zmw,Zmx,Zmz,Zm2,Zm6,Zna,Znb,Znc,Znd,Zne,Znh,Znl,Znm,Znn,Zno,Znp,Znr,Zns,Znt,Znw,Zn5,Zos,Zot,Zo7,Zo8,Zo9,Zpc,Zpi,Zpo,Zpr,Zp0,Zp1,Zp2,Zqf,Zqg,Zqh,Zqi,Zqj,Zqk,Zql,Zqm,Zqn,List.length_append,List.length_map,eq_self,true_and,and_true,Nat.zero_add,Nat.add_zero]
  tactic =>
  refine lpA (i13 l) l.length [] _ ⟨0, by omega, rfl⟩ (wkA ?_) ?_
  · sym =>
    simp [Zaa,Zab,Zac,Zad,Zae,Zaf,Zag,Zah,Zai,Zak,Zal,Zam,Zan,Zap,Zaq,Zav,Zaw,Zay,Zaz,Za0,Za1,Za2,Za3,Za4,Za5,Za6,Za7,Za8,Za9,Zba,Zbb,Zbc,Zbd,Zbf,Zbm,Zbt,Zbu,Zbv,Zbw,Zb1,Zb2,Zca,Zcn,Zc0,Zc6,Zc7,Zc8,Zc9,Zdo,Zdp,Zdt,Zdu,Zdv,Zdw,Zdx,Zdy,Zdz,Zd0,Zd1,Zd2,Zd3,Zeb,Zee,Zeh,Zen,Zer,Zes,Zev,Zew,Zex,Zez,Ze0,Ze2,Ze3,Ze4,Ze5,Zfb,Zfc,Zfd,Zfe,Zff,Zfg,Zfh,Zfi,Zfk,Zfl,Zfn,Zfq,Zf1,Zf2,Zgh,Zgi,Zgr,Zgu,Zgw,Zgy,Zg4,Zg6,Zhd,Zhe,Zhf,Zhg,Zhh,Zho,Zh6,Zh7,Ziq,Zir,Zix,Ziz,Zi0,Zi2,Zi3,Zi6,Zi7,Zjj,Zjk,Zjo,Zmt,Zmv,Zmw,Zmx,Zmz,Zm2,Zm6,Zna,Znb,Znc,Znd,Zne,Znh,Znl,Znm,Znn,Zno,Znp,Znr,Zns,Znt,Znw,Zn5,Zos,Zot,Zo7,Zo8,Zo9,Zpc,Zpi,Zpo,Zpr,Zp0,Zp1,Zp2,Zqf,Zqg,Zqh,Zqi,Zqj,Zqk,Zql,Zqm,Zqn,List.length_append,List.length_map,eq_self,true_and,and_true,Nat.zero_add,Nat.add_zero]
    tactic =>
    exact ⟨rfl, rfl⟩
  rintro k q ⟨i, hi, rfl⟩
  have hsl : (spF (l.take i)).length ≤ i := by
    unfold spF
    rw [List.length_map]
    exact Nat.le_trans (List.length_filter_le _ _) (by simp; omega)
  by_cases h : i < l.length
  · have hw := w64s i (by omega)
    have h0 := cQ_q0 l i h
    have h1 := cQ_q1 l i h
    have et : spF (l.take (i + 1)) = if l[i].1 ≤ 4611686018427387904 ∧ l[i].2 ≤ 4611686018427387904 then spF (l.take i) ++ [(IntKind.i64.wrap l[i].1, IntKind.i64.wrap l[i].2)] else spF (l.take i) := by
      rw [take_one' l i h]
      unfold spF
      rw [List.filter_append, List.map_append]
      have e : (max l[i].1 l[i].2 ≤ 4611686018427387904) = (l[i].1 ≤ 4611686018427387904 ∧ l[i].2 ≤ 4611686018427387904) := by
        apply propext
        omega
      by_cases hc : l[i].1 ≤ 4611686018427387904 ∧ l[i].2 ≤ 4611686018427387904 <;> simp only [List.filter_cons, e, hc, and_self, and_true, true_and, decide_true, decide_false, if_true, if_false, List.filter_nil, List.map_nil, List.map_cons, List.append_nil, Bool.false_eq_true]
    by_cases hc : l[i].1 ≤ 4611686018427387904
    · by_cases hd : l[i].2 ≤ 4611686018427387904
      · rw [if_pos ⟨hc, hd⟩] at et
        sym =>
        simp [Zaa,Zab,Zac,Zad,Zae,Zaf,Zag,Zah,Zai,Zak,Zal,Zam,Zan,Zap,Zaq,Zav,Zaw,Zay,Zaz,Za0,Za1,Za2,Za3,Za4,Za5,Za6,Za7,Za8,Za9,Zba,Zbb,Zbc,Zbd,Zbf,Zbm,Zbt,Zbu,Zbv,Zbw,Zb1,Zb2,Zca,Zcn,Zc0,Zc6,Zc7,Zc8,Zc9,Zdo,Zdp,Zdt,Zdu,Zdv,Zdw,Zdx,Zdy,Zdz,Zd0,Zd1,Zd2,Zd3,Zeb,Zee,Zeh,Zen,Zer,Zes,Zev,Zew,Zex,Zez,Ze0,Ze2,Ze3,Ze4,Ze5,Zfb,Zfc,Zfd,Zfe,Zff,Zfg,Zfh,Zfi,Zfk,Zfl,Zfn,Zfq,Zf1,Zf2,Zgh,Zgi,Zgr,Zgu,Zgw,Zgy,Zg4,Zg6,Zhd,Zhe,Zhf,Zhg,Zhh,Zho,Zh6,Zh7,Ziq,Zir,Zix,Ziz,Zi0,Zi2,Zi3,Zi6,Zi7,Zjj,Zjk,Zjo,Zmt,Zmv,Zmw,Zmx,Zmz,Zm2,Zm6,Zna,Znb,Znc,Znd,Zne,Znh,Znl,Znm,Znn,Zno,Znp,Znr,Zns,Znt,Znw,Zn5,Zos,Zot,Zo7,Zo8,Zo9,Zpc,Zpi,Zpo,Zpr,Zp0,Zp1,Zp2,Zqf,Zqg,Zqh,Zqi,Zqj,Zqk,Zql,Zqm,Zqn,List.length_append,List.length_map,eq_self,true_and,and_true,Nat.zero_add,Nat.add_zero,h,h0,h1,hw,hc,hd,cQ_length]
        tactic =>
        and_intros <;> try (first | omega | rfl | assumption | (rw [cQ_length]) | (rw [cR_length]) | (rw [cQ_length]; omega) | (rw [cR_length]; omega))
        unfold NextL; refine ⟨(k - 1), [(0, 34)], _, by omega, ⟨i + 1, by omega, rfl⟩, wkA ?_⟩
        rw [et]
        rw [List.length_append, cR_append]
        sym =>
        simp [Zaa,Zab,Zac,Zad,Zae,Zaf,Zag,Zah,Zai,Zak,Zal,Zam,Zan,Zap,Zaq,Zav,Zaw,Zay,Zaz,Za0,Za1,Za2,Za3,Za4,Za5,Za6,Za7,Za8,Za9,Zba,Zbb,Zbc,Zbd,Zbf,Zbm,Zbt,Zbu,Zbv,Zbw,Zb1,Zb2,Zca,Zcn,Zc0,Zc6,Zc7,Zc8,Zc9,Zdo,Zdp,Zdt,Zdu,Zdv,Zdw,Zdx,Zdy,Zdz,Zd0,Zd1,Zd2,Zd3,Zeb,Zee,Zeh,Zen,Zer,Zes,Zev,Zew,Zex,Zez,Ze0,Ze2,Ze3,Ze4,Ze5,Zfb,Zfc,Zfd,Zfe,Zff,Zfg,Zfh,Zfi,Zfk,Zfl,Zfn,Zfq,Zf1,Zf2,Zgh,Zgi,Zgr,Zgu,Zgw,Zgy,Zg4,Zg6,Zhd,Zhe,Zhf,Zhg,Zhh,Zho,Zh6,Zh7,Ziq,Zir,Zix,Ziz,Zi0,Zi2,Zi3,Zi6,Zi7,Zjj,Zjk,Zjo,Zmt,Zmv,Zmw,Zmx,Zmz,Zm2,Zm6,Zna,Znb,Znc,Znd,Zne,Znh,Znl,Znm,Znn,Zno,Znp,Znr,Zns,Znt,Znw,Zn5,Zos,Zot,Zo7,Zo8,Zo9,Zpc,Zpi,Zpo,Zpr,Zp0,Zp1,Zp2,Zqf,Zqg,Zqh,Zqi,Zqj,Zqk,Zql,Zqm,Zqn,List.length_append,List.length_map,eq_self,true_and,and_true,Nat.zero_add,Nat.add_zero]
        tactic =>
        exact rs_self (by have := cR_okI (spF (l.take i) ++ [(IntKind.i64.wrap l[i].1, IntKind.i64.wrap l[i].2)]); rw [cR_snoc] at this; exact this)
      · rw [if_neg (fun h => hd h.2)] at et
        sym =>
        simp [Zaa,Zab,Zac,Zad,Zae,Zaf,Zag,Zah,Zai,Zak,Zal,Zam,Zan,Zap,Zaq,Zav,Zaw,Zay,Zaz,Za0,Za1,Za2,Za3,Za4,Za5,Za6,Za7,Za8,Za9,Zba,Zbb,Zbc,Zbd,Zbf,Zbm,Zbt,Zbu,Zbv,Zbw,Zb1,Zb2,Zca,Zcn,Zc0,Zc6,Zc7,Zc8,Zc9,Zdo,Zdp,Zdt,Zdu,Zdv,Zdw,Zdx,Zdy,Zdz,Zd0,Zd1,Zd2,Zd3,Zeb,Zee,Zeh,Zen,Zer,Zes,Zev,Zew,Zex,Zez,Ze0,Ze2,Ze3,Ze4,Ze5,Zfb,Zfc,Zfd,Zfe,Zff,Zfg,Zfh,Zfi,Zfk,Zfl,Zfn,Zfq,Zf1,Zf2,Zgh,Zgi,Zgr,Zgu,Zgw,Zgy,Zg4,Zg6,Zhd,Zhe,Zhf,Zhg,Zhh,Zho,Zh6,Zh7,Ziq,Zir,Zix,Ziz,Zi0,Zi2,Zi3,Zi6,Zi7,Zjj,Zjk,Zjo,Zmt,Zmv,Zmw,Zmx,Zmz,Zm2,Zm6,Zna,Znb,Znc,Znd,Zne,Znh,Znl,Znm,Znn,Zno,Znp,Znr,Zns,Znt,Znw,Zn5,Zos,Zot,Zo7,Zo8,Zo9,Zpc,Zpi,Zpo,Zpr,Zp0,Zp1,Zp2,Zqf,Zqg,Zqh,Zqi,Zqj,Zqk,Zql,Zqm,Zqn,List.length_append,List.length_map,eq_self,true_and,and_true,Nat.zero_add,Nat.add_zero,h,h0,h1,hw,hc,hd,cQ_length]
        tactic =>
        and_intros <;> try (first | omega | rfl | assumption | (rw [cQ_length]) | (rw [cR_length]) | (rw [cQ_length]; omega) | (rw [cR_length]; omega))
        unfold NextL; refine ⟨(k - 1), [(0, 0)], _, by omega, ⟨i + 1, by omega, rfl⟩, wkA ?_⟩
        rw [et]
        sym =>
        simp [Zaa,Zab,Zac,Zad,Zae,Zaf,Zag,Zah,Zai,Zak,Zal,Zam,Zan,Zap,Zaq,Zav,Zaw,Zay,Zaz,Za0,Za1,Za2,Za3,Za4,Za5,Za6,Za7,Za8,Za9,Zba,Zbb,Zbc,Zbd,Zbf,Zbm,Zbt,Zbu,Zbv,Zbw,Zb1,Zb2,Zca,Zcn,Zc0,Zc6,Zc7,Zc8,Zc9,Zdo,Zdp,Zdt,Zdu,Zdv,Zdw,Zdx,Zdy,Zdz,Zd0,Zd1,Zd2,Zd3,Zeb,Zee,Zeh,Zen,Zer,Zes,Zev,Zew,Zex,Zez,Ze0,Ze2,Ze3,Ze4,Ze5,Zfb,Zfc,Zfd,Zfe,Zff,Zfg,Zfh,Zfi,Zfk,Zfl,Zfn,Zfq,Zf1,Zf2,Zgh,Zgi,Zgr,Zgu,Zgw,Zgy,Zg4,Zg6,Zhd,Zhe,Zhf,Zhg,Zhh,Zho,Zh6,Zh7,Ziq,Zir,Zix,Ziz,Zi0,Zi2,Zi3,Zi6,Zi7,Zjj,Zjk,Zjo,Zmt,Zmv,Zmw,Zmx,Zmz,Zm2,Zm6,Zna,Znb,Znc,Znd,Zne,Znh,Znl,Znm,Znn,Zno,Znp,Znr,Zns,Znt,Znw,Zn5,Zos,Zot,Zo7,Zo8,Zo9,Zpc,Zpi,Zpo,Zpr,Zp0,Zp1,Zp2,Zqf,Zqg,Zqh,Zqi,Zqj,Zqk,Zql,Zqm,Zqn,List.length_append,List.length_map,eq_self,true_and,and_true,Nat.zero_add,Nat.add_zero]
        tactic =>
        exact rs_self (cR_okI _)
    · rw [if_neg (fun h => hc h.1)] at et
      sym =>
      simp [Zaa,Zab,Zac,Zad,Zae,Zaf,Zag,Zah,Zai,Zak,Zal,Zam,Zan,Zap,Zaq,Zav,Zaw,Zay,Zaz,Za0,Za1,Za2,Za3,Za4,Za5,Za6,Za7,Za8,Za9,Zba,Zbb,Zbc,Zbd,Zbf,Zbm,Zbt,Zbu,Zbv,Zbw,Zb1,Zb2,Zca,Zcn,Zc0,Zc6,Zc7,Zc8,Zc9,Zdo,Zdp,Zdt,Zdu,Zdv,Zdw,Zdx,Zdy,Zdz,Zd0,Zd1,Zd2,Zd3,Zeb,Zee,Zeh,Zen,Zer,Zes,Zev,Zew,Zex,Zez,Ze0,Ze2,Ze3,Ze4,Ze5,Zfb,Zfc,Zfd,Zfe,Zff,Zfg,Zfh,Zfi,Zfk,Zfl,Zfn,Zfq,Zf1,Zf2,Zgh,Zgi,Zgr,Zgu,Zgw,Zgy,Zg4,Zg6,Zhd,Zhe,Zhf,Zhg,Zhh,Zho,Zh6,Zh7,Ziq,Zir,Zix,Ziz,Zi0,Zi2,Zi3,Zi6,Zi7,Zjj,Zjk,Zjo,Zmt,Zmv,Zmw,Zmx,Zmz,Zm2,Zm6,Zna,Znb,Znc,Znd,Zne,Znh,Znl,Znm,Znn,Zno,Znp,Znr,Zns,Znt,Znw,Zn5,Zos,Zot,Zo7,Zo8,Zo9,Zpc,Zpi,Zpo,Zpr,Zp0,Zp1,Zp2,Zqf,Zqg,Zqh,Zqi,Zqj,Zqk,Zql,Zqm,Zqn,List.length_append,List.length_map,eq_self,true_and,and_true,Nat.zero_add,Nat.add_zero,h,h0,h1,hw,hc,cQ_length]
      tactic =>
      and_intros <;> try (first | omega | rfl | assumption | (rw [cQ_length]) | (rw [cR_length]) | (rw [cQ_length]; omega) | (rw [cR_length]; omega))
      unfold NextL; refine ⟨(k - 1), [(0, 0)], _, by omega, ⟨i + 1, by omega, rfl⟩, wkA ?_⟩
      rw [et]
      sym =>
      simp [Zaa,Zab,Zac,Zad,Zae,Zaf,Zag,Zah,Zai,Zak,Zal,Zam,Zan,Zap,Zaq,Zav,Zaw,Zay,Zaz,Za0,Za1,Za2,Za3,Za4,Za5,Za6,Za7,Za8,Za9,Zba,Zbb,Zbc,Zbd,Zbf,Zbm,Zbt,Zbu,Zbv,Zbw,Zb1,Zb2,Zca,Zcn,Zc0,Zc6,Zc7,Zc8,Zc9,Zdo,Zdp,Zdt,Zdu,Zdv,Zdw,Zdx,Zdy,Zdz,Zd0,Zd1,Zd2,Zd3,Zeb,Zee,Zeh,Zen,Zer,Zes,Zev,Zew,Zex,Zez,Ze0,Ze2,Ze3,Ze4,Ze5,Zfb,Zfc,Zfd,Zfe,Zff,Zfg,Zfh,Zfi,Zfk,Zfl,Zfn,Zfq,Zf1,Zf2,Zgh,Zgi,Zgr,Zgu,Zgw,Zgy,Zg4,Zg6,Zhd,Zhe,Zhf,Zhg,Zhh,Zho,Zh6,Zh7,Ziq,Zir,Zix,Ziz,Zi0,Zi2,Zi3,Zi6,Zi7,Zjj,Zjk,Zjo,Zmt,Zmv,Zmw,Zmx,Zmz,Zm2,Zm6,Zna,Znb,Znc,Znd,Zne,Znh,Znl,Znm,Znn,Zno,Znp,Znr,Zns,Znt,Znw,Zn5,Zos,Zot,Zo7,Zo8,Zo9,Zpc,Zpi,Zpo,Zpr,Zp0,Zp1,Zp2,Zqf,Zqg,Zqh,Zqi,Zqj,Zqk,Zql,Zqm,Zqn,List.length_append,List.length_map,eq_self,true_and,and_true,Nat.zero_add,Nat.add_zero]
      tactic =>
      exact rs_self (cR_okI _)
  · have e : l.take i = l := List.take_of_length_le (by omega)
    rw [e]
    sym =>
    simp [Zaa,Zab,Zac,Zad,Zae,Zaf,Zag,Zah,Zai,Zak,Zal,Zam,Zan,Zap,Zaq,Zav,Zaw,Zay,Zaz,Za0,Za1,Za2,Za3,Za4,Za5,Za6,Za7,Za8,Za9,Zba,Zbb,Zbc,Zbd,Zbf,Zbm,Zbt,Zbu,Zbv,Zbw,Zb1,Zb2,Zca,Zcn,Zc0,Zc6,Zc7,Zc8,Zc9,Zdo,Zdp,Zdt,Zdu,Zdv,Zdw,Zdx,Zdy,Zdz,Zd0,Zd1,Zd2,Zd3,Zeb,Zee,Zeh,Zen,Zer,Zes,Zev,Zew,Zex,Zez,Ze0,Ze2,Ze3,Ze4,Ze5,Zfb,Zfc,Zfd,Zfe,Zff,Zfg,Zfh,Zfi,Zfk,Zfl,Zfn,Zfq,Zf1,Zf2,Zgh,Zgi,Zgr,Zgu,Zgw,Zgy,Zg4,Zg6,Zhd,Zhe,Zhf,Zhg,Zhh,Zho,Zh6,Zh7,Ziq,Zir,Zix,Ziz,Zi0,Zi2,Zi3,Zi6,Zi7,Zjj,Zjk,Zjo,Zmt,Zmv,Zmw,Zmx,Zmz,Zm2,Zm6,Zna,Znb,Znc,Znd,Zne,Znh,Znl,Znm,Znn,Zno,Znp,Znr,Zns,Znt,Znw,Zn5,Zos,Zot,Zo7,Zo8,Zo9,Zpc,Zpi,Zpo,Zpr,Zp0,Zp1,Zp2,Zqf,Zqg,Zqh,Zqi,Zqj,Zqk,Zql,Zqm,Zqn,List.length_append,List.length_map,eq_self,true_and,and_true,Nat.zero_add,Nat.add_zero,h]
    tactic =>
    refine endA ?_
    sym =>
    simp [Zaa,Zab,Zac,Zad,Zae,Zaf,Zag,Zah,Zai,Zak,Zal,Zam,Zan,Zap,Zaq,Zav,Zaw,Zay,Zaz,Za0,Za1,Za2,Za3,Za4,Za5,Za6,Za7,Za8,Za9,Zba,Zbb,Zbc,Zbd,Zbf,Zbm,Zbt,Zbu,Zbv,Zbw,Zb1,Zb2,Zca,Zcn,Zc0,Zc6,Zc7,Zc8,Zc9,Zdo,Zdp,Zdt,Zdu,Zdv,Zdw,Zdx,Zdy,Zdz,Zd0,Zd1,Zd2,Zd3,Zeb,Zee,Zeh,Zen,Zer,Zes,Zev,Zew,Zex,Zez,Ze0,Ze2,Ze3,Ze4,Ze5,Zfb,Zfc,Zfd,Zfe,Zff,Zfg,Zfh,Zfi,Zfk,Zfl,Zfn,Zfq,Zf1,Zf2,Zgh,Zgi,Zgr,Zgu,Zgw,Zgy,Zg4,Zg6,Zhd,Zhe,Zhf,Zhg,Zhh,Zho,Zh6,Zh7,Ziq,Zir,Zix,Ziz,Zi0,Zi2,Zi3,Zi6,Zi7,Zjj,Zjk,Zjo,Zmt,Zmv,Zmw,Zmx,Zmz,Zm2,Zm6,Zna,Znb,Znc,Znd,Zne,Znh,Znl,Znm,Znn,Zno,Znp,Znr,Zns,Znt,Znw,Zn5,Zos,Zot,Zo7,Zo8,Zo9,Zpc,Zpi,Zpo,Zpr,Zp0,Zp1,Zp2,Zqf,Zqg,Zqh,Zqi,Zqj,Zqk,Zql,Zqm,Zqn,List.length_append,List.length_map,eq_self,true_and,and_true,Nat.zero_add,Nat.add_zero]
    tactic =>
    exact ⟨(List.take_of_length_le (by simp)).symm, by simp, cR_okI _⟩
def i15 (l : List Rg) (k : Nat) (q : St) : Prop := ∃ i : Nat, i + k = l.length ∧
  q = ⟨[(0, fR l), (3, .lv 0 0 (rgF (l.take i)).length), (4, I (IN i))], [(0, ⟨cQ (rgF (l.take i)), 2, 0⟩)], 1⟩
theorem rranges_ref (l : List Rg) (hl : l.length ≤ 1000000) : Con Try.prog 15 [] [fR l] [] (fQ (rgF l)) := by
  refine con_j b15 rfl ?_
  sym =>
  simp [Zab,Zad,Zag,Zah,Zam,Zay,Zaz,Za0,Za1,Za2,Za3,Za4,Za5,Za9,Zba,Zbb,Zew,Ze0,Ze2,Zfd,Zfe,Zfh,Zna,Znb,Zos,Zot,Zo7,List.length_map,eq_self,true_and]
  tactic =>
  refine lpA (i15 l) l.length [] _ ⟨0, by omega, rfl⟩ (wkA ?_) ?_
  · sym =>
    simp [Zez,Zfb,Zfc,Znr,Zn5,Zpc,Zpi,Zpr,Zqf,Zqg,Zqh,Zqi,Zqj,Zqm,eq_self,true_and,and_true]
    tactic =>
    exact ⟨rfl, rfl⟩
  rintro k q ⟨i, hi, rfl⟩
  have hsl : (rgF (l.take i)).length ≤ i := by
    unfold rgF
    rw [List.length_map]
    exact Nat.le_trans (List.length_filter_le _ _) (by simp; omega)
  by_cases h : i < l.length
  · have hw := w64s i (by omega)
    have h0 := cR_q0 l i h
    have h1 := cR_q1 l i h
    have et : rgF (l.take (i + 1)) = if 0 ≤ l[i].1 ∧ 0 ≤ l[i].2 then rgF (l.take i) ++ [(IntKind.u64.wrap l[i].1, IntKind.u64.wrap l[i].2)] else rgF (l.take i) := by
      rw [take_one' l i h]
      unfold rgF
      rw [List.filter_append, List.map_append]
      have e : (0 ≤ min l[i].1 l[i].2) = (0 ≤ l[i].1 ∧ 0 ≤ l[i].2) := by
        apply propext
        omega
      by_cases hc : 0 ≤ l[i].1 ∧ 0 ≤ l[i].2 <;> simp only [List.filter_cons, e, hc, and_self, decide_true, decide_false, if_true, if_false, List.filter_nil, List.map_nil, List.map_cons, List.append_nil, Bool.false_eq_true]
    by_cases hc : ¬ 0 ≤ l[i].1
    · rw [if_neg (fun h => hc h.1)] at et
      sym =>
      simp [Zaa,Zab,Zad,Zae,Zaf,Zag,Zal,Zam,Zap,Zav,Zaz,Za0,Za1,Za2,Za3,Za4,Za5,Za6,Za7,Za8,Za9,Zba,Zbb,Zbd,Zbf,Zbt,Zbv,Zb1,Zcn,Zev,Zew,Zex,Zez,Ze0,Ze2,Ze5,Zfd,Zfe,Zfh,Zfi,Zfk,Zfn,Zfq,Zf1,Zf4,Zgr,Zgu,Zgw,Zgy,Zg4,Zg6,Zho,Zh6,Zh7,Zm6,Zna,Znb,Zns,Znt,Znw,Zo7,Zo8,Zo9,eq_self,true_and,Nat.add_zero,h,h0,h1,hw,hc,cR_length]
      tactic =>
      and_intros <;> try (first | omega | rfl | assumption | (rw [cQ_length]) | (rw [cR_length]) | (rw [cQ_length]; omega) | (rw [cR_length]; omega))
      unfold NextL; refine ⟨(k - 1), [(0, 0)], _, by omega, ⟨i + 1, by omega, rfl⟩, wkA ?_⟩
      rw [et]
      sym =>
      simp [Za2,Zez,Zfc,Znr,Zpc,Zpi,Zpo,Zqf,Zqg,Zqh,Zqi,Zqk,Zql,Zqm,Zqn,eq_self,true_and,and_true]
      tactic =>
      exact rs_self (cQ_okI _)
    · replace hc := Decidable.not_not.1 hc
      by_cases hd : ¬ 0 ≤ l[i].2
      · rw [if_neg (fun h => hd h.2)] at et
        sym =>
        simp [Zaa,Zab,Zad,Zae,Zaf,Zag,Zal,Zam,Zap,Zav,Zaz,Za0,Za1,Za2,Za3,Za4,Za5,Za6,Za7,Za9,Zba,Zbb,Zbd,Zbf,Zbt,Zbv,Zb1,Zcn,Zev,Zew,Zex,Zez,Ze0,Ze2,Ze5,Zfd,Zfe,Zfh,Zfi,Zfl,Zfn,Zfq,Zf1,Zf4,Zgr,Zgu,Zgw,Zgy,Zg4,Zg6,Zho,Zh6,Zh7,Zm6,Zna,Znb,Zns,Znt,Znw,Zo7,Zo8,Zo9,eq_self,true_and,Nat.add_zero,h,h0,h1,hw,hc,hd,cR_length]
        tactic =>
        and_intros <;> try (first | omega | rfl | assumption | (rw [cQ_length]) | (rw [cR_length]) | (rw [cQ_length]; omega) | (rw [cR_length]; omega))
        unfold NextL; refine ⟨(k - 1), [(0, 0)], _, by omega, ⟨i + 1, by omega, rfl⟩, wkA ?_⟩
        rw [et]
        sym =>
        simp [Za2,Zez,Zfc,Znr,Zpc,Zpi,Zpo,Zqf,Zqg,Zqh,Zqi,Zqk,Zql,Zqm,Zqn,eq_self,true_and,and_true]
        tactic =>
        exact rs_self (cQ_okI _)
      · replace hd := Decidable.not_not.1 hd
        rw [if_pos ⟨hc, hd⟩] at et
        sym =>
        simp [Zaa,Zab,Zac,Zad,Zae,Zaf,Zag,Zal,Zam,Zap,Zav,Zaz,Za0,Za1,Za2,Za3,Za4,Za5,Za6,Za7,Za9,Zba,Zbb,Zbc,Zbd,Zbf,Zbm,Zbt,Zbu,Zbv,Zbw,Zb1,Zb2,Zca,Zcn,Zc0,Zc6,Zc7,Zc8,Zc9,Zdo,Zdp,Zdt,Zdu,Zdv,Zdw,Zdx,Zdy,Zdz,Zd0,Zd1,Zd2,Zd3,Zeb,Zee,Zeh,Zen,Zer,Zes,Zev,Zew,Zex,Zez,Ze0,Ze2,Ze3,Ze4,Ze5,Zfc,Zfd,Zfe,Zff,Zfg,Zfh,Zfi,Zfl,Zfn,Zfq,Zf1,Zf4,Zgh,Zgi,Zgr,Zgu,Zgw,Zgy,Zg4,Zg6,Zhd,Zhe,Zhf,Zhg,Zhh,Zho,Zh6,Zh7,Ziq,Zir,Zix,Ziz,Zi0,Zi2,Zi3,Zi6,Zi7,Zjj,Zjk,Zjo,Zm6,Zna,Znb,Znc,Znd,Zne,Znh,Znl,Znm,Znn,Zno,Znp,Zns,Znt,Znw,Zo7,Zo8,List.length_append,eq_self,true_and,and_true,Nat.add_zero,h,h0,h1,hw,hc,hd,cR_length]
        tactic =>
        and_intros <;> try (first | omega | rfl | assumption | (rw [cQ_length]) | (rw [cR_length]) | (rw [cQ_length]; omega) | (rw [cR_length]; omega))
        unfold NextL; refine ⟨(k - 1), [(0, 34)], _, by omega, ⟨i + 1, by omega, rfl⟩, wkA ?_⟩
        rw [et]
        rw [List.length_append, cQ_append]
        sym =>
        simp [Za2,Zez,Zfc,Zna,Znb,Znr,Zpc,Zpi,Zpo,Zqf,Zqg,Zqh,Zqi,Zqk,Zql,Zqm,Zqn,eq_self,true_and,and_true]
        tactic =>
        exact rs_self (by have := cQ_okI (rgF (l.take i) ++ [(IntKind.u64.wrap l[i].1, IntKind.u64.wrap l[i].2)]); rw [cQ_snoc] at this; exact this)
  · have e : l.take i = l := List.take_of_length_le (by omega)
    rw [e]
    sym =>
    simp [Zab,Zad,Zae,Zaf,Zai,Zak,Zam,Zan,Zaq,Zaw,Zaz,Za0,Za1,Za2,Za3,Za4,Za5,Za9,Zba,Zbb,Zbf,Zcn,Zev,Zez,Ze0,Ze2,Ze5,Zfd,Zfe,Zfh,Zfn,Zf1,Zh6,Zh7,Zmt,Zmv,Zmw,Zmx,Zmz,Zm2,Zna,Znb,Znt,Zo7,Zo9,eq_self,true_and,h]
    tactic =>
    refine endA ?_
    sym =>
    simp [Zfc,Znh,Zp0,Zp1,Zp2,eq_self,true_and,and_true,Nat.zero_add]
    tactic =>
    exact ⟨(List.take_of_length_le (by rw [cQ_length]; exact Nat.le_refl _)).symm, by rw [cQ_length]; exact Nat.le_refl _, cQ_okI _⟩
def i3a (l k : List Rg) (n : Nat) (s : St) : Prop := ∃ i : Nat, i + n = l.length ∧ s = ⟨[(0, fQ l), (1, fR k), (5, .lv 0 0 i), (6, .nl), (26, fQ l), (27, I (IN l.length)), (28, I (IN i))], [(0, ⟨cQ (l.take i), 2, 0⟩)], 1⟩
def i3b (l k : List Rg) (n : Nat) (s : St) : Prop := ∃ i : Nat, i + n = k.length ∧ s = ⟨[(0, fQ l), (1, fR k), (5, .lv 0 0 l.length), (6, .lv 1 0 i), (37, fR k), (38, I (IN k.length)), (39, I (IN i))], [(0, ⟨cQ l, 2, 0⟩), (1, ⟨cR (k.take i), 2, 0⟩)], 2⟩
def i3c (p u : List Rg) (n : Nat) (s : St) : Prop := ∃ i : Nat, i + n = p.length ∧ s = ⟨[(11, fR p), (12, fR p), (13, fQ u), (14, fQ u), (69, I (IN p.length)), (70, I (IN i))], [], 0⟩
def i3d (u : List Rg) (n : Nat) (s : St) : Prop := ∃ i : Nat, i + n = u.length ∧ s = ⟨[(13, fQ u), (14, fQ u), (84, I (IN u.length)), (85, I (IN i))], [], 0⟩
theorem ispans_con (l k : List Rg) : Con Try.prog 3 [] [fQ l, fR k] [] (Bo true) := by
  refine con_j b3 rfl ?_
  by_cases h1 : (30 : Int) < IN l.length
  · sym =>
    simp [Zab,Zad,Zae,Zaf,Zal,Zam,Zaz,Za0,Za1,Za2,Za3,Za4,Za5,Za6,Za7,Za8,Za9,Zba,Zbb,Zbd,Zbf,Zcn,Zdc,Zdd,Zde,Zev,Zew,Zex,Zez,Ze0,Ze2,Ze5,Zfd,Zfe,Zfh,Zfi,Zfj,Zfn,Zf3,Zh6,Zh7,Zla,Zna,Znb,Zne,Znf,Zos,Zot,Zo6,Zo7,Zo8,eq_self,true_and,h1,callable_11]
    tactic =>
    refine cl none (ialive_con) trivial ?_
    sym =>
    simp [Zak,Zam,Zao,Zaz,Za0,Za1,Za2,Za3,Za4,Za5,Za9,Zba,Zbb,Zdi,Zev,Zez,Ze0,Ze2,Zfd,Zfe,Zfh,Zjw,Zlz,Zmt,Zmv,Zmw,Zmx,Zmz,Zm2,Zo7,eq_self,true_and]
    tactic =>
    refine endA ?_
    sym =>
    simp [Zpc,eq_self]
  by_cases h2 : (30 : Int) < IN k.length
  · sym =>
    simp [Zab,Zad,Zae,Zaf,Zal,Zam,Zaz,Za0,Za1,Za2,Za3,Za4,Za5,Za6,Za7,Za9,Zba,Zbb,Zbd,Zbf,Zcn,Zdc,Zdd,Zde,Zev,Zew,Zex,Zez,Ze0,Ze2,Ze5,Zfd,Zfe,Zfh,Zfi,Zfl,Zfn,Zf3,Zh6,Zh7,Zla,Zna,Znb,Zne,Znf,Zos,Zot,Zo7,Zo8,Zo9,eq_self,true_and,h1,h2,callable_11]
    tactic =>
    refine cl none (ialive_con) trivial ?_
    sym =>
    simp [Zak,Zam,Zao,Zaz,Za0,Za1,Za2,Za3,Za4,Za5,Za9,Zba,Zbb,Zdi,Zev,Zez,Ze0,Ze2,Zfd,Zfe,Zfh,Zjw,Zlz,Zmt,Zmv,Zmw,Zmx,Zmz,Zm2,Zo7,eq_self,true_and]
    tactic =>
    refine endA ?_
    sym =>
    simp [Zpc,eq_self]
  have hl : l.length ≤ 30 := by simp only [IN] at h1; omega
  have hk : k.length ≤ 30 := by simp only [IN] at h2; omega
  sym =>
  simp [Zaa,Zab,Zad,Zae,Zaf,Zag,Zah,Zal,Zam,Zay,Zaz,Za0,Za1,Za2,Za3,Za4,Za5,Za6,Za7,Za9,Zba,Zbb,Zbd,Zbf,Zcn,Zev,Zew,Zex,Zez,Ze0,Ze2,Ze5,Zfd,Zfe,Zfh,Zfi,Zfl,Zfn,Zf3,Zh6,Zh7,Zna,Znb,Zos,Zot,Zo7,Zo9,eq_self,true_and,h1,h2]
  tactic =>
  refine lpA (i3a l k) l.length [] _ ⟨0, by omega, rfl⟩ (wkA ?_) ?_
  · sym =>
    simp [Zez,Zfb,Zfc,Znr,Zn5,Zpc,Zpf,Zpi,Zpr,Zqf,Zqg,Zqh,Zqi,Zqj,Zqm,eq_self,true_and,and_true]
    tactic =>
    rfl
  rintro n s ⟨i, hi, rfl⟩
  by_cases h : i < l.length
  · have hw := w64s i (by omega)
    have a0 := cQ_q0 l i h
    have a1 := cQ_q1 l i h
    have hln : (l.take i).length * 2 = i * 2 := by rw [List.length_take]; omega
    have ht := cQ_take l i h
    sym =>
    simp [Zaa,Zab,Zad,Zae,Zaf,Zag,Zal,Zam,Zap,Zav,Zay,Zaz,Za0,Za1,Za2,Za3,Za4,Za5,Za9,Zba,Zbb,Zbf,Zbt,Zb1,Zcv,Zcz,Zc3,Zc5,Zev,Zew,Zez,Ze0,Ze1,Ze2,Ze3,Ze4,Ze5,Ze8,Zfc,Zfd,Zfe,Zff,Zfg,Zfh,Zfn,Zfq,Zf1,Zgr,Zgs,Zgt,Zgu,Zg4,Zg6,Zhf,Zhg,Zhh,Zho,Zin,Ziq,Zir,Ziu,Ziv,Ziw,Zix,Ziz,Zi0,Zi2,Zi3,Zi6,Zjh,Zji,Zjj,Zjk,Zjn,Zjo,Zm5,Zm7,Zm9,Zna,Znb,Znh,Znl,Znm,Znn,Zno,Znp,Zns,Znt,Znw,Zo7,Zo8,eq_self,true_and,and_true,h,hw,a0,a1,cQ_length,hln,cQ_cells]
    tactic =>
    and_intros <;> try (first | omega | rfl | assumption | (rw [cQ_length]) | (rw [cR_length]) | (rw [cQ_length]; omega) | (rw [cR_length]; omega))
    unfold NextL; refine ⟨(n - 1), [(0, 9)], _, by omega, ⟨i + 1, by omega, rfl⟩, wkA ?_⟩
    rw [ht]
    sym =>
    simp [Za2,Zez,Zfc,Znr,Zpc,Zpf,Zpi,Zpo,Zqf,Zqg,Zqh,Zqi,Zqk,Zql,Zqm,Zqn,eq_self,true_and,and_true]
    tactic =>
    exact rs_self (by rw [← ht]; exact cQ_okI _)
  obtain rfl : i = l.length := by omega
  rw [List.take_length]
  sym =>
  simp [Zab,Zad,Zae,Zaf,Zag,Zah,Zai,Zam,Zan,Zaq,Zaw,Zay,Zaz,Za0,Za1,Za2,Za3,Za4,Za5,Za9,Zba,Zbb,Zbf,Zcn,Zev,Zew,Zez,Ze0,Ze2,Ze5,Zfd,Zfe,Zfh,Zfn,Zf1,Zh6,Zh7,Zna,Znb,Znt,Zo7,Zo9,List.length_map,eq_self,true_and,h]
  tactic =>
  refine lpA (i3b l k) k.length [(0, 0)] _ ⟨0, by omega, rfl⟩ (wkA ?_) ?_
  · sym =>
    simp [Za2,Zez,Zfb,Zfc,Znr,Zn5,Zpc,Zpi,Zpo,Zpr,Zqf,Zqg,Zqh,Zqi,Zqj,Zqk,Zql,Zqm,Zqn,eq_self,true_and,and_true]
    tactic =>
    first | exact rfl | exact ⟨rs_self (cQ_okI _), rfl⟩
  rintro n s ⟨i, hi, rfl⟩
  by_cases hh : i < k.length
  · have hw := w64s i (by omega)
    have a0 := cR_q0 k i hh
    have a1 := cR_q1 k i hh
    have hln : (k.take i).length * 2 = i * 2 := by rw [List.length_take]; omega
    have ht : cR (k.take (i + 1)) = cR (k.take i) ++ [I k[i].1, I k[i].2] := by rw [take_one' k i hh, cR_snoc]
    sym =>
    simp [Zaa,Zab,Zad,Zae,Zaf,Zag,Zal,Zam,Zap,Zav,Zay,Zaz,Za0,Za1,Za2,Za3,Za4,Za5,Za9,Zba,Zbb,Zbf,Zbt,Zb1,Zcv,Zcz,Zc3,Zc5,Zev,Zew,Zez,Ze0,Ze1,Ze2,Ze3,Ze4,Ze5,Ze8,Zfc,Zfd,Zfe,Zff,Zfg,Zfh,Zfn,Zfq,Zf1,Zgr,Zgs,Zgt,Zgu,Zg4,Zg6,Zhf,Zhg,Zhh,Zho,Zin,Ziq,Zir,Ziu,Ziv,Ziw,Zix,Ziz,Zi0,Zi2,Zi3,Zi6,Zjh,Zji,Zjj,Zjk,Zjn,Zjo,Zm5,Zm7,Zm9,Zna,Znb,Znh,Znl,Znm,Znn,Zno,Znp,Zns,Znt,Znw,Zo7,Zo8,eq_self,true_and,and_true,hh,hw,a0,a1,cR_length,hln]
    tactic =>
    and_intros <;> try (first | omega | rfl | assumption | (rw [cQ_length]) | (rw [cR_length]) | (rw [cQ_length]; omega) | (rw [cR_length]; omega))
    unfold NextL; refine ⟨(n - 1), [(0, 0), (1, 10)], _, by omega, ⟨i + 1, by omega, rfl⟩, wkA ?_⟩
    rw [ht]
    sym =>
    simp [Za2,Za3,Zez,Zfc,Znr,Zpc,Zpi,Zpo,Zqf,Zqg,Zqh,Zqi,Zqk,Zql,Zqm,Zqn,eq_self,true_and,and_true]
    tactic =>
    exact ⟨rs_self (cQ_okI _), rs_self (by rw [← ht]; exact cR_okI _)⟩
  obtain rfl : i = k.length := by omega
  rw [List.take_length]
  have c1 := spans_con l (by omega)
  have c2 := rspans_con l (by omega)
  have c3 := ranges_con k (by omega)
  have c4 := rranges_ref k (by omega)
  have lp : (spF l).length ≤ 30 := by
    unfold spF
    rw [List.length_map]
    exact Nat.le_trans (List.length_filter_le _ _) hl
  have lu : (rgF k).length ≤ 30 := by
    unfold rgF
    rw [List.length_map]
    exact Nat.le_trans (List.length_filter_le _ _) hk
  have ea : List.take (l.length * 2) (cQ l) = cQ l := cQ_all l
  have eb : List.take (k.length * 2) (cR k) = cR k := List.take_of_length_le (by rw [cR_length]; exact Nat.le_refl _)
  generalize spF l = p at *
  generalize rgF k = u at *
  sym =>
  simp [Zab,Zad,Zae,Zaf,Zai,Zam,Zan,Zaq,Zaw,Zay,Za4,Za5,Za9,Zba,Zbb,Zbf,Zdc,Zdd,Zde,Zev,Zew,Zez,Ze0,Ze2,Ze5,Zfc,Zfd,Zfe,Zfh,Zfn,Zf1,Zla,Zlb,Zle,Zlt,Zlx,Zna,Znb,Zne,Znf,Zng,Znh,Znt,Zo7,Zo9,eq_self,true_and,and_true,Nat.zero_add,hh,ea,eb,cQ_length,cR_length,callable_12]
  tactic =>
  refine ⟨⟨Nat.le_refl _, cQ_okI _⟩, ?_⟩
  refine cl none (c1) trivial ?_
  sym =>
  simp [Za5,Za9,Zba,Zbb,Zdc,Zdd,Zde,Zdi,Zev,Zew,Zez,Ze0,Ze2,Zfc,Zfd,Zfe,Zfh,Zkb,Zla,Zlb,Zle,Zll,Zlz,Zl2,Zl3,Zl4,Zne,Znf,Zng,Zo7,eq_self,true_and,and_true,callable_13]
  tactic =>
  refine cl none (c2) trivial ?_
  sym =>
  simp [Zab,Zad,Zam,Zaz,Za0,Za1,Za2,Za3,Za4,Za5,Za9,Zba,Zbb,Zdc,Zdd,Zde,Zdi,Zev,Zew,Zez,Ze0,Ze2,Ze5,Zfc,Zfd,Zfe,Zfh,Zkb,Zla,Zlb,Zle,Zlt,Zlx,Zlz,Zl2,Zna,Znb,Zne,Znf,Zng,Znh,Zo7,eq_self,true_and,and_true,Nat.zero_add,ea,eb,cQ_length,cR_length,callable_14]
  tactic =>
  refine ⟨⟨Nat.le_refl _, cR_okI _⟩, ?_⟩
  refine cl none (c3) trivial ?_
  sym =>
  simp [Za5,Za9,Zba,Zbb,Zdc,Zdd,Zde,Zdi,Zev,Zew,Zez,Ze0,Ze2,Zfc,Zfd,Zfe,Zfh,Zkb,Zla,Zlb,Zle,Zll,Zlz,Zl2,Zl3,Zl4,Zne,Znf,Zng,Zo7,eq_self,true_and,and_true,callable_15]
  tactic =>
  refine cl none (c4) trivial ?_
  sym =>
  simp [Zaa,Zab,Zad,Zae,Zaf,Zag,Zah,Zal,Zam,Zaz,Za0,Za1,Za2,Za3,Za4,Za5,Za6,Za7,Za9,Zba,Zbb,Zbd,Zbf,Zcn,Zdi,Zev,Zew,Zex,Zez,Ze0,Ze2,Ze5,Zfd,Zfe,Zfh,Zfi,Zfl,Zfn,Zf0,Zh6,Zh7,Zkb,Zlz,Zl2,Zna,Znb,Zo3,Zo7,Zo8,eq_self,true_and]
  tactic =>
  refine lpA (i3c p u) p.length [] _ ⟨0, by omega, rfl⟩ (wkA ?_) ?_
  · sym =>
    simp [Zez,Zn5,Zpc,Zpi,Zqf,Zqg,Zqh,Zqm,eq_self,and_true]
  rintro n s ⟨i, hi, rfl⟩
  by_cases g : i < p.length
  · have hw := w64s i (by omega)
    have a0 := cR_q0 p i g
    have a1 := cR_q1 p i g
    sym =>
    simp [Zaa,Zab,Zac,Zad,Zae,Zaf,Zag,Zal,Zam,Zap,Zav,Zay,Zaz,Za0,Za1,Za2,Za3,Za4,Za5,Za9,Zba,Zbb,Zbc,Zbf,Zbi,Zbu,Zb2,Zc7,Zc8,Zdo,Zdp,Zdt,Zdu,Zdv,Zdw,Zdx,Zdy,Zd0,Zd1,Zd2,Zd3,Zeb,Zee,Zen,Zer,Zes,Zev,Zew,Zez,Ze0,Ze2,Ze5,Zfd,Zfe,Zfh,Zfn,Zfq,Zf1,Zga,Zgc,Zgr,Zgu,Zg4,Zg6,Zho,Zm5,Zm7,Zna,Znb,Zne,Zns,Znt,Znw,Zom,Zor,Zo3,Zo7,Zo8,eq_self,true_and,and_true,g,hw,a0,a1,cR_length,eqL_self]
    tactic =>
    and_intros <;> try (first | omega | rfl | assumption | (rw [cQ_length]) | (rw [cR_length]) | (rw [cQ_length]; omega) | (rw [cR_length]; omega))
    unfold NextL; refine ⟨(n - 1), [], _, by omega, ⟨i + 1, by omega, rfl⟩, wkA ?_⟩
    sym =>
    simp [Zez,Zpc,Zpi,Zqf,Zqg,Zqh,Zqm,eq_self,and_true]
  sym =>
  simp [Zab,Zad,Zae,Zaf,Zag,Zah,Zai,Zam,Zan,Zaq,Zaw,Zay,Zaz,Za0,Za1,Za2,Za3,Za4,Za5,Za9,Zba,Zbb,Zbf,Zcn,Zev,Zew,Zez,Ze0,Ze2,Ze5,Zfd,Zfe,Zfh,Zfn,Zf1,Zh6,Zh7,Zna,Znb,Znt,Zo7,Zo9,eq_self,true_and,g]
  tactic =>
  refine lpA (i3d u) u.length [] _ ⟨0, by omega, rfl⟩ (wkA ?_) ?_
  · sym =>
    simp [Zez,Zn5,Zpc,Zpi,Zqf,Zqg,Zqh,Zqm,eq_self,and_true]
  rintro n s ⟨j, hj, rfl⟩
  by_cases g : j < u.length
  · have hw := w64s j (by omega)
    have a0 := cQ_q0 u j g
    have a1 := cQ_q1 u j g
    sym =>
    simp [Zaa,Zab,Zac,Zad,Zae,Zaf,Zag,Zal,Zam,Zap,Zav,Zay,Zaz,Za0,Za1,Za2,Za3,Za4,Za5,Za9,Zba,Zbb,Zbc,Zbf,Zbi,Zbu,Zb2,Zc7,Zc8,Zdo,Zdp,Zdt,Zdu,Zdv,Zdw,Zdx,Zdy,Zd0,Zd1,Zd2,Zd3,Zeb,Zee,Zen,Zer,Zes,Zev,Zew,Zez,Ze0,Ze2,Ze5,Zfd,Zfe,Zfh,Zfn,Zfq,Zf1,Zga,Zgc,Zgr,Zgu,Zg4,Zg6,Zho,Zm5,Zm7,Zna,Znb,Zne,Zns,Znt,Znw,Zom,Zor,Zo3,Zo7,Zo8,eq_self,true_and,and_true,g,hw,a0,a1,cQ_length,eqL_self]
    tactic =>
    and_intros <;> try (first | omega | rfl | assumption | (rw [cQ_length]) | (rw [cR_length]) | (rw [cQ_length]; omega) | (rw [cR_length]; omega))
    unfold NextL; refine ⟨(n - 1), [], _, by omega, ⟨j + 1, by omega, rfl⟩, wkA ?_⟩
    sym =>
    simp [Zez,Zpc,Zpi,Zqf,Zqg,Zqh,Zqm,eq_self,and_true]
  sym =>
  simp [Zab,Zad,Zae,Zaf,Zai,Zam,Zan,Zaq,Zaw,Zay,Za4,Za5,Za9,Zba,Zbf,Zdc,Zdd,Zde,Zev,Zew,Zez,Ze0,Ze2,Zfd,Zfe,Zfn,Zf1,Zla,Zna,Znb,Zne,Znf,Znt,Zo7,Zo9,eq_self,true_and,g,callable_11]
  tactic =>
  refine cl none (ialive_con) trivial ?_
  sym =>
  simp [Zak,Zam,Zaz,Za0,Za1,Za2,Za3,Za4,Za5,Za9,Zba,Zbb,Zdi,Zev,Zez,Ze0,Ze2,Zfd,Zfe,Zfh,Zjw,Zlz,Zmt,Zmv,Zmw,Zmx,Zmz,Zm2,Zo7,eq_self,true_and]
  tactic =>
  refine endA ?_
  sym =>
  simp [Zpc,eq_self]
theorem fm_q (l : List (Int × Int)) : l.flatMap (fun p => [AV.sc (Value.int IntKind.u64 p.1)] ++ [AV.sc (Value.int IntKind.u64 p.2)]) = cQ l := by
  induction l with
  | nil => rfl
  | cons x l ih => rw [List.flatMap_cons, ih]; rfl
theorem fm_r (l : List (Int × Int)) : l.flatMap (fun p => [AV.sc (Value.int IntKind.i64 p.1)] ++ [AV.sc (Value.int IntKind.i64 p.2)]) = cR l := by
  induction l with
  | nil => rfl
  | cons x l ih => rw [List.flatMap_cons, ih]; rfl
theorem ispans_law (l k : List (Int × Int)) : Con Try.prog 3 [] [.fz l.length (l.flatMap (fun p => [AV.sc (Value.int IntKind.u64 p.1)] ++ [AV.sc (Value.int IntKind.u64 p.2)])), .fz k.length (k.flatMap (fun p => [AV.sc (Value.int IntKind.i64 p.1)] ++ [AV.sc (Value.int IntKind.i64 p.2)]))] [] (Bo true) := by
  rw [fm_q, fm_r]
  exact ispans_con l k
end Go.Proofs.Ytbmdahhhgpbchaa.InB
