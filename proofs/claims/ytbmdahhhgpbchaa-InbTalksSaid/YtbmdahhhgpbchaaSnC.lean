import Derived.Test.YtbmdahhhgpbchaaSnB
namespace Go.Proofs.Ytbmdahhhgpbchaa.SnC
open Go Go.Sim Go.Sim.E Go.RowKit Go.Proofs Go.Proofs.Ytbmdahhhgpbchaa.Cod Go.Proofs.Ytbmdahhhgpbchaa.Tab Go.Proofs.Ytbmdahhhgpbchaa.Bse Go.Proofs.Ytbmdahhhgpbchaa.SpnP Go.Proofs.Ytbmdahhhgpbchaa.SwA Go.Proofs.Ytbmdahhhgpbchaa.SwB Go.Proofs.Ytbmdahhhgpbchaa.SwC Go.Proofs.Ytbmdahhhgpbchaa.SwS Go.Proofs.Ytbmdahhhgpbchaa.SwD Go.Proofs.Ytbmdahhhgpbchaa.SwF Go.Proofs.Ytbmdahhhgpbchaa.SwG Go.Proofs.Ytbmdahhhgpbchaa.SwL Go.Proofs.Ytbmdahhhgpbchaa.ObA Go.Proofs.Ytbmdahhhgpbchaa.ObB Go.Proofs.Ytbmdahhhgpbchaa.ObC Go.Proofs.Ytbmdahhhgpbchaa.SnA Go.Proofs.Ytbmdahhhgpbchaa.SnB
set_option linter.unusedVariables false
set_option linter.unusedSimpArgs false
set_option maxRecDepth 100000
set_option maxHeartbeats 4000000
structure Inv (x : Sn) : Prop where
  src : x.src.length ≤ 6000
  os : x.os.length ≤ 6000
  t : x.t = IN x.os.length
  s : Ok x.t x.s
  o : Ok x.t x.o
  T : TOk x.T
  T2 : TOk x.T2
theorem Inv.bd {x : Sn} (h : Inv x) : 0 ≤ x.t ∧ x.t ≤ 6000 := by
  have := h.os
  rw [h.t]; simp only [IN]; omega
def spF (l : List Rg) : List Rg := (l.filter fun r => decide (max r.1 r.2 ≤ 4611686018427387904)).map fun r => (IntKind.i64.wrap r.1, IntKind.i64.wrap r.2)
def i12 (l : List Rg) (k : Nat) (q : St) : Prop := ∃ i : Nat, i + k = l.length ∧
  q = ⟨[(3, .lv 0 0 (spF (l.take i)).length), (6, fQ l), (7, I (IN l.length)), (8, I (IN i))], [(0, ⟨cR (spF (l.take i)), 2, 0⟩)], 1⟩
theorem spans_con (l : List Rg) (hl : l.length ≤ 1000000) : Con Try.prog 12 [] [fQ l] [] (fR (spF l)) := by
  refine con_j b12 rfl ?_
  sym =>
  simp [Zab,Zad,Zag,Zah,Zam,Zay,Zaz,Za0,Za1,Za2,Za3,Za4,Za5,Za9,Zba,Zbb,Zcn,Zev,Zew,Zez,Ze0,Ze2,Ze5,Zfd,Zfe,Zfh,Zh6,Zh7,Zna,Znb,Zos,Zot,Zo7,List.length_map,eq_self,true_and,not_false_eq_true]
  tactic =>
  refine lpA (i12 l) l.length [] _ ⟨0, by omega, rfl⟩ (wkA ?_) ?_
  · sym =>
    simp [Zez,Zfb,Zfc,Znr,Zn5,Zpc,Zpi,Zpr,Zqf,Zqg,Zqh,Zqi,Zqj,Zqm,eq_self,true_and,and_true]
    tactic =>
    exact ⟨rfl, rfl⟩
  rintro k q ⟨i, hi, rfl⟩
  have hsl : (spF (l.take i)).length ≤ i := by
    unfold spF
    rw [List.length_map]
    exact Nat.le_trans (List.length_filter_le _ _) (by simp; omega)
  by_cases h : i < l.length
  · have hw := w64s i (by omega)
    have h0 := cQ_q0 l i h
    have h1 := cQ_q1 l i h
    have et : spF (l.take (i + 1)) = if max l[i].1 l[i].2 ≤ 4611686018427387904 then spF (l.take i) ++ [(IntKind.i64.wrap l[i].1, IntKind.i64.wrap l[i].2)] else spF (l.take i) := by
      rw [take_one l i h]
      unfold spF
      rw [List.filter_append, List.map_append]
      by_cases hc : max l[i].1 l[i].2 ≤ 4611686018427387904 <;> simp [hc, List.filter_cons]
    by_cases hc : max l[i].1 l[i].2 ≤ 4611686018427387904
    · rw [if_pos hc] at et
      sym =>
      simp [Zaa,Zab,Zad,Zae,Zaf,Zag,Zal,Zam,Zap,Zav,Zay,Zaz,Za0,Za1,Za2,Za3,Za4,Za5,Za9,Zba,Zbb,Zbf,Zbl,Zbt,Zbv,Zb1,Zb9,Zcr,Zcv,Zcz,Zc3,Zc5,Zev,Zew,Zez,Ze0,Ze1,Ze2,Ze3,Ze4,Ze5,Ze8,Zfc,Zfd,Zfe,Zff,Zfg,Zfh,Zfn,Zfq,Zf1,Zf2,Zgh,Zgi,Zgr,Zgs,Zgt,Zgu,Zgv,Zgw,Zgx,Zg4,Zg6,Zhd,Zhe,Zhf,Zhg,Zhh,Zho,Zie,Zig,Zih,Zii,Zij,Zin,Ziq,Zir,Ziu,Ziv,Ziw,Zix,Ziz,Zi0,Zi2,Zi3,Zi6,Zi7,Zjh,Zji,Zjj,Zjk,Zjn,Zjo,Zm5,Zm6,Zm7,Zm9,Zna,Znb,Znf,Zng,Znh,Znl,Znm,Znn,Zno,Znp,Zns,Znt,Znw,Zo7,Zo8,List.length_append,eq_self,true_and,and_true,h,h0,h1,hw,hc,cQ_length]
      tactic =>
      refine ⟨by omega, by omega, ⟨by omega, by omega, by simp, by omega⟩, ?_⟩
      unfold NextL; refine ⟨(k - 1), [(0, 21)], _, by omega, ⟨i + 1, by omega, rfl⟩, wkA ?_⟩
      rw [et]
      rw [List.length_append, cR_append]
      sym =>
      simp [Za2,Zez,Zfc,Zna,Znb,Znr,Zpc,Zpi,Zpo,Zqf,Zqg,Zqh,Zqi,Zqk,Zql,Zqm,Zqn,eq_self,true_and,and_true]
      tactic =>
      exact rs_self (by have := cR_okI (spF (l.take i) ++ [(IntKind.i64.wrap l[i].1, IntKind.i64.wrap l[i].2)]); rw [cR_snoc] at this; exact this)
    · rw [if_neg hc] at et
      sym =>
      simp [Zaa,Zab,Zad,Zae,Zaf,Zag,Zal,Zam,Zap,Zav,Zay,Zaz,Za0,Za1,Za2,Za3,Za4,Za5,Za9,Zba,Zbb,Zbf,Zbt,Zbv,Zb1,Zcr,Zcv,Zc3,Zev,Zew,Zez,Ze0,Ze1,Ze2,Ze3,Ze5,Ze8,Zfc,Zfd,Zfe,Zfh,Zfn,Zfq,Zf1,Zf2,Zgr,Zgs,Zgt,Zgu,Zgv,Zgw,Zgx,Zg4,Zg6,Zho,Zie,Zig,Zih,Zii,Zij,Zin,Ziu,Ziv,Ziw,Zi6,Zjh,Zji,Zjn,Zm5,Zm6,Zm7,Zm9,Zna,Znb,Znf,Zng,Znn,Zno,Znp,Zns,Znt,Znw,Zo7,Zo8,Zo9,eq_self,true_and,and_true,h,h0,h1,hw,hc,cQ_length]
      tactic =>
      refine ⟨by omega, by omega, ?_⟩
      unfold NextL; refine ⟨(k - 1), [(0, 0)], _, by omega, ⟨i + 1, by omega, rfl⟩, wkA ?_⟩
      rw [et]
      sym =>
      simp [Za2,Zez,Zfc,Znr,Zpc,Zpi,Zpo,Zqf,Zqg,Zqh,Zqi,Zqk,Zql,Zqm,Zqn,eq_self,true_and,and_true]
      tactic =>
      exact rs_self (cR_okI _)
  · have e : l.take i = l := List.take_of_length_le (by omega)
    rw [e]
    sym =>
    simp [Zab,Zad,Zae,Zaf,Zai,Zak,Zam,Zan,Zaq,Zaw,Zay,Zaz,Za0,Za1,Za2,Za3,Za4,Za5,Za9,Zba,Zbb,Zbf,Zev,Zez,Ze0,Ze2,Zfd,Zfe,Zfh,Zfn,Zf1,Zmt,Zmv,Zmw,Zmx,Zmz,Zm2,Zna,Znb,Znt,Zo7,Zo9,eq_self,true_and,h]
    tactic =>
    refine endA ?_
    sym =>
    simp [Zfc,Znh,Zp0,Zp1,Zp2,eq_self,true_and,and_true,Nat.zero_add]
    tactic =>
    exact ⟨(List.take_of_length_le (by simp)).symm, by simp, cR_okI _⟩
end Go.Proofs.Ytbmdahhhgpbchaa.SnC
