import Derived.Test.YtbmdahhhgpbchaaRbB
import Derived.Test.YtbmdahhhgpbchaaSnB
import Derived.Test.YtbmdahhhgpbchaaCodI
namespace Go.Proofs.Ytbmdahhhgpbchaa.InA
open Go Go.Sim Go.Sim.E Go.RowKit Go.Proofs Go.Proofs.Ytbmdahhhgpbchaa.Cod Go.Proofs.Ytbmdahhhgpbchaa.Tab Go.Proofs.Ytbmdahhhgpbchaa.Bse Go.Proofs.Ytbmdahhhgpbchaa.SpnP Go.Proofs.Ytbmdahhhgpbchaa.SwA Go.Proofs.Ytbmdahhhgpbchaa.SwB Go.Proofs.Ytbmdahhhgpbchaa.SwC Go.Proofs.Ytbmdahhhgpbchaa.SwS Go.Proofs.Ytbmdahhhgpbchaa.SwD Go.Proofs.Ytbmdahhhgpbchaa.SwF Go.Proofs.Ytbmdahhhgpbchaa.SwG Go.Proofs.Ytbmdahhhgpbchaa.SwL Go.Proofs.Ytbmdahhhgpbchaa.ObA Go.Proofs.Ytbmdahhhgpbchaa.ObB Go.Proofs.Ytbmdahhhgpbchaa.ObC Go.Proofs.Ytbmdahhhgpbchaa.SnA Go.Proofs.Ytbmdahhhgpbchaa.SnB Go.Proofs.Ytbmdahhhgpbchaa.RbA Go.Proofs.Ytbmdahhhgpbchaa.MpB Go.Proofs.Ytbmdahhhgpbchaa.RbB
set_option linter.unusedVariables false
set_option linter.unusedSimpArgs false
set_option maxRecDepth 100000
set_option maxHeartbeats 4000000
theorem zI_fc : zI0 = fc 0 z16 0 0 0 0 z32 .nl .nl 0 := rfl
abbrev nC (tot b : Int) (H : Sgs) (f o : Int) : List AV := [I tot, I b, mH H, I f, I o]
abbrev nV (tot b : Int) (H : Sgs) (f o : Int) : AV := .ag (nC tot b H f o)
theorem counts_con (tot b : Int) (H : Sgs) (f o : Int) : Con Try.prog 21 [] [nV tot b H f o] [] (.tu [I f, I o]) := by
  refine con_j b21 rfl ?_
  sym =>
  simp [Zab,Zac,Zad,Zak,Zam,Zaz,Za0,Za1,Za2,Za3,Za4,Za5,Za9,Zba,Zbb,Zbc,Zbu,Zbw,Zcx,Zc7,Zc8,Zdo,Zdp,Zdt,Zdu,Zdv,Zdw,Zdx,Zdy,Zdz,Zd0,Zd1,Zd2,Zek,Zev,Zew,Zez,Ze0,Ze2,Ze3,Ze5,Ze8,Zfc,Zfd,Zfe,Zfh,Zgr,Zgs,Zgt,Zgv,Zgw,Zgx,Zio,Zip,Zi6,Zmt,Zmv,Zmw,Zmx,Zmz,Zm3,Zm6,Zm9,Zna,Znb,Zne,Zos,Zot,Zo7,eq_self,true_and,and_true]
  tactic =>
  refine endA ?_
  sym =>
  simp [Zpb,Zp9,Zqd,Zqe,eq_self,and_true]
/-- What a frame comes to. -/
def itF (tot b : Int) (H : Sgs) (fr ot : Int) (f : Fm) : (Int × Sgs × Int × Int) × List Int :=
  if ¬ f.k = 3 ∨ 4611686018427387904 < f.o then ((b, H, fr, ot + 1), [])
  else if (putF tot b H (IntKind.i64.wrap f.o) f.d).2 = true then (((putF tot b H (IntKind.i64.wrap f.o) f.d).1.1, (putF tot b H (IntKind.i64.wrap f.o) f.d).1.2.1, fr + 1, ot), (putF tot b H (IntKind.i64.wrap f.o) f.d).1.2.2)
  else (((putF tot b H (IntKind.i64.wrap f.o) f.d).1.1, (putF tot b H (IntKind.i64.wrap f.o) f.d).1.2.1, fr, ot + 1), (putF tot b H (IntKind.i64.wrap f.o) f.d).1.2.2)
theorem itake_con (tot b : Int) (H : Sgs) (fr0 ot : Int) (f : Fm) (hb : 0 ≤ b ∧ b ≤ tot ∧ tot ≤ 1099511627776) (hf : 0 ≤ fr0 ∧ fr0 ≤ 1000000) (hot : 0 ≤ ot ∧ ot ≤ 1000000) (hfo : 0 ≤ f.o ∧ f.o ≤ 18446744073709551615)
    (hnd : (H.map (·.1)).Nodup) (hok : ∀ p ∈ H, p.1 ≤ 4611686018427387000 ∧ 0 < p.2.length ∧ p.2.length ≤ 256) (hln : H.length ≤ 1000) :
    Con Try.prog 18 [] [nV tot b H fr0 ot, .ag (fr f)] [] (.tu [nV tot (itF tot b H fr0 ot f).1.1 (itF tot b H fr0 ot f).1.2.1 (itF tot b H fr0 ot f).1.2.2.1 (itF tot b H fr0 ot f).1.2.2.2, fB (itF tot b H fr0 ot f).2]) := by
  have hp := fun h : f.o ≤ 4611686018427387904 => put_con tot b (IntKind.i64.wrap f.o) H f.d hb (by rw [w64 _ (by omega)]; omega) hnd hok hln
  obtain ⟨R, hR⟩ : ∃ R, R = itF tot b H fr0 ot f := ⟨_, rfl⟩
  rw [← hR]
  unfold itF at hR
  have wf : IntKind.i64.wrap (fr0 + 1) = fr0 + 1 := w64 _ (by omega)
  have wo : IntKind.i64.wrap (ot + 1) = ot + 1 := w64 _ (by omega)
  obtain ⟨k, t, es, er, o, n, su, d, r, c⟩ := f
  simp only at hp hR hfo
  simp only [fr]
  refine con_j b18 rfl ?_
  by_cases c1 : k = 3
  · subst c1
    by_cases c2 : 4611686018427387904 < o
    · rw [if_pos (.inr c2)] at hR
      subst hR
      simp only
      sym =>
      simp [Zab,Zad,Zae,Zaf,Zak,Zal,Zam,Zao,Zaz,Za0,Za1,Za2,Za3,Za4,Za5,Za6,Za7,Za9,Zba,Zbb,Zbd,Zbf,Zbt,Zbv,Zcv,Zcx,Zc3,Zev,Zew,Zex,Zez,Ze0,Ze1,Ze2,Ze3,Ze5,Ze8,Zfc,Zfd,Zfe,Zfh,Zfi,Zfl,Zfn,Zfq,Zf0,Zf3,Zgr,Zgs,Zgt,Zgv,Zgw,Zgx,Zin,Zio,Zip,Ziu,Ziv,Ziw,Zi6,Zi7,Zjh,Zji,Zjn,Zur,Zmt,Zmv,Zmw,Zmx,Zmy,Zmz,Zm0,Zm1,Zm3,Zm5,Zm6,Zm7,Zm9,Zna,Znb,Znn,Zno,Znp,Zos,Zot,Zo3,Zo7,Zo8,eq_self,true_and,and_true,fc_0,fc_19,fc_len,c2,wo]
      tactic =>
      refine endA ?_
      sym =>
      simp [Zpa,Zu7,Zpw,Zp7,Zp9,Zqb,Zqc,Zqd,Zqe,eq_self,true_and,and_true]
      tactic =>
      try rfl
    · rw [if_neg (by rintro (h | h); exact h rfl; exact c2 h)] at hR
      have hp := hp (by omega)
      obtain ⟨a, ea⟩ : ∃ a, a = IntKind.i64.wrap o := ⟨_, rfl⟩
      have ea' : IntKind.i64.wrap o = a := ea.symm
      rw [ea'] at hp hR
      generalize putF tot b H a d = P at hp hR
      obtain ⟨⟨b2, H2, out⟩, ok⟩ := P
      simp only at hp hR
      sym =>
      simp [Zaa,Zab,Zad,Zae,Zaf,Zal,Zam,Zaz,Za0,Za1,Za2,Za3,Za4,Za5,Za6,Za7,Za9,Zba,Zbb,Zbd,Zbf,Zbl,Zbt,Zbv,Zcv,Zcx,Zdc,Zdd,Zde,Zev,Zew,Zex,Zez,Ze0,Ze2,Ze3,Ze5,Ze8,Zfc,Zfd,Zfe,Zfh,Zfi,Zfl,Zfn,Zf0,Zf3,Zgh,Zgi,Zgr,Zgs,Zgt,Zgv,Zgw,Zgx,Zin,Zio,Zip,Zi6,Zla,Zlb,Zlc,Zld,Zle,Zlf,Zlh,Zlj,Zlk,Zll,Zu3,Zm5,Zm6,Zm7,Zm9,Zna,Znb,Zne,Znf,Zng,Zos,Zot,Zo3,Zo7,Zo8,Zo9,eq_self,true_and,and_true,fc_0,fc_19,fc_53,fc_len,c2,ea',callable_58]
      tactic =>
      refine cl none (hp) trivial ?_
      cases ok
      · rw [if_neg (by decide)] at hR
        subst hR
        simp only
        sym =>
        simp [Zab,Zad,Zae,Zaf,Zak,Zal,Zam,Zaz,Za0,Za1,Za2,Za3,Za4,Za5,Za9,Zba,Zbb,Zbf,Zbt,Zbv,Zb7,Zcv,Zc3,Zdi,Zev,Zew,Zez,Ze0,Ze1,Ze2,Ze3,Ze5,Ze8,Zfc,Zfd,Zfe,Zfh,Zfn,Zfq,Zgr,Zgs,Zgt,Zgv,Zgw,Zgx,Zhb,Zhc,Zin,Ziu,Ziv,Ziw,Zi6,Zi7,Zjh,Zji,Zjn,Zjq,Zur,Zuu,Zkx,Zky,Zk0,Zk1,Zlz,Zl2,Zmt,Zmv,Zmw,Zmx,Zmy,Zmz,Zm0,Zm1,Zm3,Zm5,Zm6,Zm7,Zm9,Zna,Znb,Znn,Zno,Znp,Zo7,eq_self,true_and,and_true,wo]
        tactic =>
        refine endA ?_
        sym =>
        simp [Zpa,Zph,Zu7,Zp7,Zp9,Zqb,Zqc,Zqd,Zqe,eq_self,and_true]
      · rw [if_pos rfl] at hR
        subst hR
        simp only
        sym =>
        simp [Zab,Zad,Zae,Zaf,Zak,Zal,Zam,Zaz,Za0,Za1,Za2,Za3,Za4,Za5,Za9,Zba,Zbb,Zbf,Zbt,Zbv,Zb7,Zcv,Zc3,Zdi,Zev,Zew,Zez,Ze0,Ze1,Ze2,Ze3,Ze5,Ze8,Zfc,Zfd,Zfe,Zfh,Zfn,Zfq,Zgr,Zgs,Zgt,Zgv,Zgw,Zgx,Zhb,Zhc,Zin,Ziu,Ziv,Ziw,Zi6,Zi7,Zjh,Zji,Zjn,Zjq,Zur,Zuu,Zkx,Zky,Zk0,Zk1,Zlz,Zl2,Zmt,Zmv,Zmw,Zmx,Zmy,Zmz,Zm0,Zm1,Zm3,Zm5,Zm6,Zm7,Zm9,Zna,Znb,Znn,Zno,Znp,Zo7,eq_self,true_and,and_true,wf]
        tactic =>
        refine endA ?_
        sym =>
        simp [Zpa,Zph,Zu7,Zp7,Zp9,Zqb,Zqc,Zqd,Zqe,eq_self,and_true]
  · rw [if_pos (.inl c1)] at hR
    subst hR
    simp only
    sym =>
    simp [Zab,Zad,Zae,Zaf,Zak,Zal,Zam,Zao,Zaz,Za0,Za1,Za2,Za3,Za4,Za5,Za6,Za7,Za8,Za9,Zba,Zbb,Zbd,Zbf,Zbt,Zbv,Zcv,Zcx,Zc3,Zev,Zew,Zex,Zez,Ze0,Ze1,Ze2,Ze3,Ze5,Ze8,Zfc,Zfd,Zfe,Zfh,Zfi,Zfj,Zfn,Zfq,Zf0,Zgr,Zgs,Zgt,Zgv,Zgw,Zgx,Zin,Zio,Zip,Ziu,Ziv,Ziw,Zi6,Zi7,Zjh,Zji,Zjn,Zur,Zmt,Zmv,Zmw,Zmx,Zmy,Zmz,Zm0,Zm1,Zm3,Zm5,Zm6,Zm7,Zm9,Zna,Znb,Znn,Zno,Znp,Zos,Zot,Zo4,Zo6,Zo7,Zo9,eq_self,true_and,and_true,fc_0,fc_len,c1,wo]
    tactic =>
    refine endA ?_
    sym =>
    simp [Zpa,Zu7,Zpw,Zp7,Zp9,Zqb,Zqc,Zqd,Zqe,eq_self,true_and,and_true]
    tactic =>
    try rfl
theorem take_one' (l : List Rg) (i : Nat) (h : i < l.length) : l.take (i + 1) = l.take i ++ [l[i]] := by
  rw [List.take_succ_eq_append_getElem h]
/-- The ranges of a frame, for ranges. -/
def rgF (l : List Rg) : List Rg := (l.filter fun r => decide (0 ≤ min r.1 r.2)).map fun r => (IntKind.u64.wrap r.1, IntKind.u64.wrap r.2)
def i14 (l : List Rg) (k : Nat) (q : St) : Prop := ∃ i : Nat, i + k = l.length ∧
  q = ⟨[(3, .lv 0 0 (rgF (l.take i)).length), (6, fR l), (7, I (IN l.length)), (8, I (IN i))], [(0, ⟨cQ (rgF (l.take i)), 2, 0⟩)], 1⟩
theorem ranges_con (l : List Rg) (hl : l.length ≤ 1000000) : Con Try.prog 14 [] [fR l] [] (fQ (rgF l)) := by
  refine con_j b14 rfl ?_
  sym =>
  simp [Zab,Zad,Zag,Zah,Zam,Zay,Zaz,Za0,Za1,Za2,Za3,Za4,Za5,Za9,Zba,Zbb,Zcn,Zev,Zew,Zez,Ze0,Ze2,Ze5,Zfd,Zfe,Zfh,Zh6,Zh7,Zna,Znb,Zos,Zot,Zo7,List.length_map,eq_self,true_and]
  tactic =>
  refine lpA (i14 l) l.length [] _ ⟨0, by omega, rfl⟩ (wkA ?_) ?_
  · sym =>
    simp [Zez,Zfb,Zfc,Znr,Zn5,Zpc,Zpi,Zpr,Zqf,Zqg,Zqh,Zqi,Zqj,Zqm,eq_self,true_and,and_true]
    tactic =>
    exact ⟨rfl, rfl⟩
  rintro k q ⟨i, hi, rfl⟩
  have hsl : (rgF (l.take i)).length ≤ i := by
    unfold rgF
    rw [List.length_map]
    exact Nat.le_trans (List.length_filter_le _ _) (by simp; omega)
  by_cases h : i < l.length
  · have hw := w64s i (by omega)
    have h0 := cR_q0 l i h
    have h1 := cR_q1 l i h
    have et : rgF (l.take (i + 1)) = if 0 ≤ min l[i].1 l[i].2 then rgF (l.take i) ++ [(IntKind.u64.wrap l[i].1, IntKind.u64.wrap l[i].2)] else rgF (l.take i) := by
      rw [take_one' l i h]
      unfold rgF
      rw [List.filter_append, List.map_append]
      by_cases hc : 0 ≤ min l[i].1 l[i].2 <;> simp only [List.filter_cons, hc, decide_true, decide_false, if_true, if_false, List.filter_nil, List.map_nil, List.map_cons, List.append_nil, Bool.false_eq_true]
    by_cases hc : 0 ≤ min l[i].1 l[i].2
    · rw [if_pos hc] at et
      sym =>
      simp [Zaa,Zab,Zad,Zae,Zaf,Zag,Zal,Zam,Zap,Zav,Zay,Zaz,Za0,Za1,Za2,Za3,Za4,Za5,Za9,Zba,Zbb,Zbf,Zbl,Zbt,Zbv,Zb1,Zb9,Zct,Zcv,Zcz,Zc3,Zc5,Zev,Zew,Zez,Ze0,Ze1,Ze2,Ze3,Ze4,Ze5,Ze8,Zfc,Zfd,Zfe,Zff,Zfg,Zfh,Zfn,Zfq,Zf1,Zf4,Zgh,Zgi,Zgr,Zgs,Zgt,Zgu,Zgv,Zgw,Zgx,Zg4,Zg6,Zhd,Zhe,Zhf,Zhg,Zhh,Zho,Zif,Zig,Zik,Zil,Zim,Zin,Ziq,Zir,Ziu,Ziv,Ziw,Zix,Ziz,Zi0,Zi2,Zi3,Zi6,Zi7,Zjh,Zji,Zjj,Zjk,Zjn,Zjo,Zm5,Zm6,Zm7,Zm9,Zna,Znb,Znf,Zng,Znh,Znl,Znm,Znn,Zno,Znp,Zns,Znt,Znw,Zo7,Zo8,List.length_append,eq_self,true_and,and_true,h,h0,h1,hw,hc,cR_length]
      tactic =>
      refine ⟨by omega, by omega, ⟨by omega, by omega, by rw [cQ_length], by omega⟩, ?_⟩
      unfold NextL; refine ⟨(k - 1), [(0, 21)], _, by omega, ⟨i + 1, by omega, rfl⟩, wkA ?_⟩
      rw [et]
      rw [List.length_append, cQ_append]
      sym =>
      simp [Za2,Zez,Zfc,Zna,Znb,Znr,Zpc,Zpi,Zpo,Zqf,Zqg,Zqh,Zqi,Zqk,Zql,Zqm,Zqn,eq_self,true_and,and_true]
      tactic =>
      exact rs_self (by have := cQ_okI (rgF (l.take i) ++ [(IntKind.u64.wrap l[i].1, IntKind.u64.wrap l[i].2)]); rw [cQ_snoc] at this; exact this)
    · rw [if_neg hc] at et
      sym =>
      simp [Zaa,Zab,Zad,Zae,Zaf,Zag,Zal,Zam,Zap,Zav,Zay,Zaz,Za0,Za1,Za2,Za3,Za4,Za5,Za9,Zba,Zbb,Zbf,Zbt,Zbv,Zb1,Zct,Zcv,Zc3,Zev,Zew,Zez,Ze0,Ze1,Ze2,Ze3,Ze5,Ze8,Zfc,Zfd,Zfe,Zfh,Zfn,Zfq,Zf1,Zf4,Zgr,Zgs,Zgt,Zgu,Zgv,Zgw,Zgx,Zg4,Zg6,Zho,Zif,Zig,Zik,Zil,Zim,Zin,Ziu,Ziv,Ziw,Zi6,Zjh,Zji,Zjn,Zm5,Zm6,Zm7,Zm9,Zna,Znb,Znf,Zng,Znn,Zno,Znp,Zns,Znt,Znw,Zo7,Zo8,Zo9,eq_self,true_and,and_true,h,h0,h1,hw,hc,cR_length]
      tactic =>
      refine ⟨by omega, by omega, ?_⟩
      unfold NextL; refine ⟨(k - 1), [(0, 0)], _, by omega, ⟨i + 1, by omega, rfl⟩, wkA ?_⟩
      rw [et]
      sym =>
      simp [Za2,Zez,Zfc,Znr,Zpc,Zpi,Zpo,Zqf,Zqg,Zqh,Zqi,Zqk,Zql,Zqm,Zqn,eq_self,true_and,and_true]
      tactic =>
      exact rs_self (cQ_okI _)
  · have e : l.take i = l := List.take_of_length_le (by omega)
    rw [e]
    sym =>
    simp [Zab,Zad,Zae,Zaf,Zai,Zak,Zam,Zan,Zaq,Zaw,Zay,Zaz,Za0,Za1,Za2,Za3,Za4,Za5,Za9,Zba,Zbb,Zbf,Zev,Zez,Ze0,Ze2,Zfd,Zfe,Zfh,Zfn,Zf1,Zmt,Zmv,Zmw,Zmx,Zmz,Zm2,Zna,Znb,Znt,Zo7,Zo9,eq_self,true_and,h]
    tactic =>
    refine endA ?_
    sym =>
    simp [Zfc,Znh,Zp0,Zp1,Zp2,eq_self,true_and,and_true,Nat.zero_add]
    tactic =>
    exact ⟨(List.take_of_length_le (by rw [cQ_length]; exact Nat.le_refl _)).symm, by rw [cQ_length]; exact Nat.le_refl _, cQ_okI _⟩
theorem ids_mp {ks : List Int} {vs : List AV} : ids1 (AV.mp ks vs) = [] := rfl
/-- What is told back. -/
def tlF (b : Int) (H : Sgs) (f : Fm) : Fm := ⟨4, f.t, f.es, f.er, IntKind.u64.wrap b, 0, SnA.z32, [], rgF (aboveF (-1) 4 (stR b H 8) []), 0⟩
theorem tell_con (tot b : Int) (H : Sgs) (fr0 ot : Int) (f : Fm) (hb : 0 ≤ b ∧ b ≤ 1099511627776) (hl : ∀ p ∈ H, p.2.length ≤ 256) (hab : (aboveF (-1) 4 (stR b H 8) []).length ≤ 1000000) :
    Con Try.prog 24 [] [nV tot b H fr0 ot, .ag (fr f)] [] (.ag (fr (tlF b H f))) := by
  have c1 := rbase_con tot b H
  have c2 := rranges_con tot b H hb hl 4
  have c3 := ranges_con _ hab
  unfold tlF
  generalize aboveF (-1) 4 (stR b H 8) [] = l at *
  obtain ⟨k, t, es, er, o, n, su, d, r, c⟩ := f
  simp only [fr]
  refine con_j b24 rfl ?_
  sym =>
  simp [Zab,Zac,Zad,Zam,Zaz,Za0,Za1,Za2,Za3,Za4,Za5,Za9,Zba,Zbu,Zbw,Zcv,Zcx,Zc7,Zc8,Zdf,Zdg,Zdh,Zdp,Zdt,Zdu,Zdv,Zdw,Zdx,Zdy,Zdz,Zd0,Zd1,Zd3,Zek,Zen,Zeq,Zer,Zes,Zet,Zev,Zew,Zez,Ze0,Ze2,Ze3,Ze5,Ze8,Zfc,Zfd,Zfe,Zgr,Zgs,Zgt,Zgv,Zgw,Zgx,Zin,Zio,Zip,Zi6,Zla,Zlb,Zlc,Zld,Zle,Zlf,Zlh,Zlk,Zu3,Zm5,Zm7,Zm9,Zna,Znb,Zne,Znf,Zng,Zos,Zot,Zo7,eq_self,true_and,and_true,zI_fc,fc_17,fc_18,rb_1,fc_len,ids_mp,callable_26]
  tactic =>
  refine cl none (c1) trivial ?_
  sym =>
  simp [Za2,Za3,Zbm,Zbu,Zbw,Zc7,Zc8,Zdf,Zdg,Zdh,Zdj,Zdk,Zdp,Zdt,Zdu,Zdv,Zdw,Zdx,Zdy,Zdz,Zd0,Zd1,Zd2,Zd3,Zek,Zen,Zeq,Zer,Zes,Zet,Zev,Zew,Zez,Ze0,Ze2,Ze5,Ze8,Zfc,Zfd,Zfe,Zgh,Zgi,Zgr,Zgs,Zgt,Zgv,Zgw,Zgx,Zjr,Zla,Zlb,Zlc,Zld,Zle,Zlf,Zlh,Zlj,Zlk,Zu3,Zlz,Zm5,Zm7,Zm9,Zna,Znb,Zne,Znf,Zng,Zo7,eq_self,true_and,and_true,ids_mp,callable_62]
  tactic =>
  refine cl none (c2) trivial ?_
  sym =>
  simp [Za2,Za3,Zdf,Zdg,Zdh,Zdj,Zdk,Zdm,Zdp,Zdt,Zdu,Zdv,Zdw,Zdx,Zdy,Zdz,Zd0,Zd1,Zeb,Zeq,Zet,Zev,Zew,Zez,Ze0,Zfd,Zfe,Zkb,Zla,Zlb,Zle,Zll,Zlz,Zl2,Zne,Znf,Zng,Zo7,eq_self,true_and,and_true,ids_mp,callable_14]
  tactic =>
  refine cl none (c3) trivial ?_
  sym =>
  simp [Zak,Zam,Zaz,Za0,Za1,Za2,Za3,Zca,Zc4,Zc7,Zc8,Zc9,Zdj,Zdk,Zdm,Zdo,Zdp,Zdt,Zdu,Zdv,Zdw,Zdx,Zdy,Zdz,Zd0,Zd1,Zd2,Zd3,Zd6,Zeb,Zec,Zek,Zen,Zer,Zes,Zev,Zew,Zez,Ze0,Ze1,Ze2,Ze3,Ze5,Zfc,Zfd,Zfe,Zhd,Zhe,Zhf,Zhg,Zhh,Ziu,Ziv,Ziw,Zi6,Zi7,Zjb,Zjh,Zji,Zj2,Zj7,Zkb,Zlz,Zl2,Zmt,Zmv,Zmw,Zmy,Zm0,Zm1,Zm2,Zm5,Zna,Znb,Znc,Zne,Znn,Zno,Zo7,eq_self,true_and,and_true,fs_0,fs_17,fs_18,fs_19,fs_54,fp_1,fp_f,rb_0,fc_len,fc_ok,fc_id,v16,ids_mp]
  tactic =>
  refine endA ?_
  sym =>
  simp [Zpg,Zpv,Zp8,eq_self,true_and,and_true,fc_rs]
  tactic =>
  rfl
/-- May a buffer be of these? -/
def nwF (tot b : Int) : Bool := decide (0 ≤ tot) && (decide (tot ≤ 1099511627776) && (decide (0 ≤ b) && (decide (b ≤ tot) && (decide (Int.tmod b (256 : Int) = 0) || decide (b = tot)))))
theorem nwF_iff (tot b : Int) : nwF tot b = true ↔ 0 ≤ tot ∧ tot ≤ 1099511627776 ∧ 0 ≤ b ∧ b ≤ tot ∧ (Int.tmod b (256 : Int) = 0 ∨ b = tot) := by simp [nwF]
theorem rnewE_con (tot b : Int) (h : nwF tot b = false) (hb : -9223372036854775808 ≤ b ∧ b ≤ 9223372036854775807) : Con Try.prog 56 [] [I tot, I b] [] (.tu [bV 0 0 [], I 1]) := by
  have hn : ¬ (0 ≤ tot ∧ tot ≤ 1099511627776 ∧ 0 ≤ b ∧ b ≤ tot ∧ (Int.tmod b (256 : Int) = 0 ∨ b = tot)) := by rw [← nwF_iff, h]; decide
  refine con_j b56 rfl ?_
  by_cases c1 : tot < 0
  · sym =>
    simp [Zab,Zad,Zae,Zaf,Zag,Zak,Zal,Zam,Zao,Zar,Zaz,Za0,Za1,Za2,Za3,Za4,Za5,Za6,Za7,Za8,Za9,Zba,Zbb,Zbd,Zbf,Zb9,Zcv,Zc3,Zev,Zew,Zex,Zez,Ze0,Ze1,Ze2,Ze3,Ze5,Zfc,Zfd,Zfe,Zfh,Zfi,Zfj,Zfn,Zf1,Zhd,Zhe,Zhf,Zin,Ziu,Ziv,Ziw,Zi6,Zjh,Zji,Zjn,Zur,Zmt,Zmv,Zmw,Zmx,Zmy,Zmz,Zm0,Zm1,Zm3,Zm5,Zm7,Zm9,Zna,Znb,Znf,Znn,Zno,Znp,Zos,Zot,Zo6,Zo7,Zo8,eq_self,true_and,and_true,c1]
    tactic =>
    refine endA ?_
    sym =>
    simp [Zpa,Zpb,Zu7,Zp7,Zp9,Zqb,Zqc,Zqd,Zqe,eq_self,and_true]
  by_cases c2 : (1099511627776 : Int) < tot
  · sym =>
    simp [Zab,Zad,Zae,Zaf,Zag,Zak,Zal,Zam,Zao,Zar,Zaz,Za0,Za1,Za2,Za3,Za4,Za5,Za6,Za7,Za8,Za9,Zba,Zbb,Zbd,Zbf,Zb9,Zcv,Zc3,Zev,Zew,Zex,Zez,Ze0,Ze1,Ze2,Ze3,Ze5,Zfc,Zfd,Zfe,Zfh,Zfi,Zfj,Zfl,Zfn,Zf1,Zf3,Zhd,Zhe,Zhf,Zin,Ziu,Ziv,Ziw,Zi6,Zjh,Zji,Zjn,Zur,Zmt,Zmv,Zmw,Zmx,Zmy,Zmz,Zm0,Zm1,Zm3,Zm5,Zm7,Zm9,Zna,Znb,Znf,Znn,Zno,Znp,Zos,Zot,Zo6,Zo7,Zo8,Zo9,eq_self,true_and,and_true,c1,c2]
    tactic =>
    refine endA ?_
    sym =>
    simp [Zpa,Zpb,Zu7,Zp7,Zp9,Zqb,Zqc,Zqd,Zqe,eq_self,and_true]
  by_cases c3 : b < 0
  · sym =>
    simp [Zab,Zad,Zae,Zaf,Zag,Zak,Zal,Zam,Zao,Zar,Zaz,Za0,Za1,Za2,Za3,Za4,Za5,Za6,Za7,Za8,Za9,Zba,Zbb,Zbd,Zbf,Zb9,Zcv,Zc3,Zev,Zew,Zex,Zez,Ze0,Ze1,Ze2,Ze3,Ze5,Zfc,Zfd,Zfe,Zfh,Zfi,Zfj,Zfl,Zfn,Zf1,Zf3,Zhd,Zhe,Zhf,Zin,Ziu,Ziv,Ziw,Zi6,Zjh,Zji,Zjn,Zur,Zmt,Zmv,Zmw,Zmx,Zmy,Zmz,Zm0,Zm1,Zm3,Zm5,Zm7,Zm9,Zna,Znb,Znf,Znn,Zno,Znp,Zos,Zot,Zo6,Zo7,Zo8,Zo9,eq_self,true_and,and_true,c1,c2,c3]
    tactic =>
    refine endA ?_
    sym =>
    simp [Zpa,Zpb,Zu7,Zp7,Zp9,Zqb,Zqc,Zqd,Zqe,eq_self,and_true]
  by_cases c4 : tot < b
  · sym =>
    simp [Zab,Zad,Zae,Zaf,Zag,Zak,Zal,Zam,Zao,Zar,Zaz,Za0,Za1,Za2,Za3,Za4,Za5,Za6,Za7,Za9,Zba,Zbb,Zbd,Zbf,Zb9,Zcv,Zc3,Zev,Zew,Zex,Zez,Ze0,Ze1,Ze2,Ze3,Ze5,Zfc,Zfd,Zfe,Zfh,Zfi,Zfl,Zfn,Zf1,Zf3,Zhd,Zhe,Zhf,Zin,Ziu,Ziv,Ziw,Zi6,Zjh,Zji,Zjn,Zur,Zmt,Zmv,Zmw,Zmx,Zmy,Zmz,Zm0,Zm1,Zm3,Zm5,Zm7,Zm9,Zna,Znb,Znf,Znn,Zno,Znp,Zos,Zot,Zo7,Zo8,Zo9,eq_self,true_and,and_true,c1,c2,c3,c4]
    tactic =>
    refine endA ?_
    sym =>
    simp [Zpa,Zpb,Zu7,Zp7,Zp9,Zqb,Zqc,Zqd,Zqe,eq_self,and_true]
  have wr : IntKind.i64.wrap (Int.tmod b (256 : Int)) = Int.tmod b (256 : Int) := w64 _ (by rw [Int.tmod_eq_emod_of_nonneg (by omega)]; omega)
  have c5 : ¬ Int.tmod b (256 : Int) = 0 := fun e => hn ⟨by omega, by omega, by omega, by omega, .inl e⟩
  have c6 : ¬ b = tot := fun e => hn ⟨by omega, by omega, by omega, by omega, .inr e⟩
  sym =>
  simp [Zab,Zad,Zae,Zaf,Zag,Zak,Zal,Zam,Zao,Zar,Zaz,Za0,Za1,Za2,Za3,Za4,Za5,Za6,Za7,Za9,Zba,Zbb,Zbd,Zbf,Zb9,Zcv,Zc3,Zev,Zew,Zex,Zez,Ze0,Ze1,Ze2,Ze3,Ze5,Zfc,Zfd,Zfe,Zfh,Zfi,Zfl,Zfn,Zfu,Zf0,Zf1,Zf3,Zhd,Zhe,Zhf,Zin,Ziu,Ziv,Ziw,Zi6,Zjh,Zji,Zjn,Zur,Zmt,Zmv,Zmw,Zmx,Zmy,Zmz,Zm0,Zm1,Zm3,Zm5,Zm7,Zm9,Zna,Znb,Znf,Znn,Zno,Znp,Zos,Zot,Zo4,Zo7,Zo9,eq_self,true_and,and_true,c1,c2,c3,c4,wr,c5,c6]
  tactic =>
  refine endA ?_
  sym =>
  simp [Zpa,Zpb,Zu7,Zp7,Zp9,Zqb,Zqc,Zqd,Zqe,eq_self,and_true]
theorem inew_con (T b : Int) (hT : 0 ≤ T ∧ T ≤ 18446744073709551615) (hb : -9223372036854775808 ≤ b ∧ b ≤ 9223372036854775807) :
    Con Try.prog 16 [] [.sc (.int .u64 T), I b] [] (.tu [if nwF T b = true then nV T b [] 0 0 else nV 0 0 [] 0 0, I (if nwF T b = true then 0 else 1)]) := by
  obtain ⟨N, hN⟩ : ∃ N, N = nwF T b := ⟨_, rfl⟩
  rw [← hN]
  refine con_j b16 rfl ?_
  by_cases c1 : (1099511627776 : Int) < T
  · have : N = false := by
      rw [hN]
      cases h : nwF T b with
      | false => rfl
      | true => have := (nwF_iff T b).1 h; omega
    subst this
    sym =>
    simp [Zab,Zad,Zae,Zaf,Zak,Zal,Zam,Zao,Zaz,Za0,Za1,Za2,Za3,Za4,Za5,Za9,Zba,Zbb,Zbf,Zb9,Zcv,Zc3,Zev,Zew,Zez,Ze0,Ze1,Ze2,Ze3,Ze5,Zfc,Zfd,Zfe,Zfh,Zfn,Zf3,Zhd,Zhe,Zhf,Zin,Ziu,Ziv,Ziw,Zi6,Zjh,Zji,Zjn,Zur,Zmt,Zmv,Zmw,Zmx,Zmy,Zmz,Zm0,Zm1,Zm3,Zm5,Zm7,Zm9,Zna,Znb,Znf,Znn,Zno,Znp,Zos,Zot,Zo7,Zo8,eq_self,true_and,and_true,c1]
    tactic =>
    refine endA ?_
    sym =>
    simp [Zpa,Zpb,Zu7,Zp7,Zp9,Zqb,Zqc,Zqd,Zqe,eq_self,and_true]
  have wT : IntKind.i64.wrap T = T := w64 _ (by omega)
  cases N
  · have h1 := rnewE_con T b hN.symm hb
    sym =>
    simp [Zaa,Zab,Zad,Zae,Zaf,Zal,Zam,Zaz,Za0,Za1,Za2,Za3,Za4,Za5,Za9,Zba,Zbb,Zbf,Zbl,Zcv,Zdc,Zdd,Zde,Zev,Zew,Zez,Ze0,Ze2,Ze3,Zfd,Zfe,Zfh,Zfn,Zf3,Zgh,Zgi,Zin,Zla,Zlb,Zle,Zlj,Zna,Znb,Zne,Znf,Zng,Zos,Zot,Zo7,Zo9,eq_self,true_and,and_true,c1,wT,callable_56]
    tactic =>
    refine cl none (h1) trivial ?_
    sym =>
    simp [Zab,Zad,Zak,Zam,Zaz,Za0,Za1,Za2,Za3,Za4,Za5,Za9,Zba,Zbb,Zbt,Zb7,Zb9,Zcv,Zc3,Zdi,Zev,Zez,Ze0,Ze1,Ze2,Ze3,Ze5,Ze8,Zfc,Zfd,Zfe,Zfh,Zgr,Zgs,Zgt,Zhb,Zhc,Zhd,Zhe,Zhf,Zhg,Zhh,Zin,Ziu,Ziv,Ziw,Zi6,Zjh,Zji,Zjn,Zjq,Zur,Zuu,Zkx,Zky,Zk0,Zk1,Zlz,Zl2,Zmt,Zmv,Zmw,Zmx,Zmy,Zmz,Zm0,Zm1,Zm3,Zm5,Zm7,Zm9,Zna,Znb,Znf,Znn,Zno,Znp,Zo7,eq_self,true_and,and_true]
    tactic =>
    refine endA ?_
    sym =>
    simp [Zpa,Zpb,Zu7,Zp7,Zp9,Zqb,Zqc,Zqd,Zqe,eq_self,and_true]
  · obtain ⟨a1, a2, a3, a4, a5⟩ := (nwF_iff T b).1 hN.symm
    have h1 := rnew_con T b (by omega) (by omega) a5
    sym =>
    simp [Zaa,Zab,Zad,Zae,Zaf,Zal,Zam,Zaz,Za0,Za1,Za2,Za3,Za4,Za5,Za9,Zba,Zbb,Zbf,Zbl,Zcv,Zdc,Zdd,Zde,Zev,Zew,Zez,Ze0,Ze2,Ze3,Zfd,Zfe,Zfh,Zfn,Zf3,Zgh,Zgi,Zin,Zla,Zlb,Zle,Zlj,Zna,Znb,Zne,Znf,Zng,Zos,Zot,Zo7,Zo9,eq_self,true_and,and_true,c1,wT,callable_56]
    tactic =>
    refine cl none (h1) trivial ?_
    sym =>
    simp [Zab,Zad,Zak,Zam,Zaz,Za0,Za1,Za2,Za3,Za4,Za5,Za9,Zba,Zbb,Zbt,Zb7,Zb9,Zcv,Zc3,Zdi,Zev,Zez,Ze0,Ze1,Ze2,Ze3,Ze5,Ze8,Zfc,Zfd,Zfe,Zfh,Zgr,Zgs,Zgt,Zhb,Zhc,Zhd,Zhe,Zhf,Zhg,Zhh,Zin,Ziu,Ziv,Ziw,Zi6,Zjh,Zji,Zjn,Zjq,Zur,Zuu,Zkx,Zky,Zk0,Zk1,Zlz,Zl2,Zmt,Zmv,Zmw,Zmx,Zmy,Zmz,Zm0,Zm1,Zm3,Zm5,Zm7,Zm9,Zna,Znb,Znf,Znn,Zno,Znp,Zo7,eq_self,true_and,and_true]
    tactic =>
    refine endA ?_
    sym =>
    simp [Zpa,Zpb,Zu7,Zp7,Zp9,Zqb,Zqc,Zqd,Zqe,eq_self,and_true]
def z256 : List Int := List.replicate 256 0
theorem z256_l : z256.length = 256 := by simp [z256]
theorem z256_c : List.replicate 256 (AV.sc (Value.int IntKind.u8 0)) = cB z256 := by simp [z256, cB, List.map_replicate]
theorem z256_i : IN z256.length = 256 := by rw [z256_l]; rfl
def fAl : Fm := ⟨3, z16, 0, 0, 256, 0, SnA.z32, z256, [], 0⟩
def f0 : Fm := ⟨0, z16, 0, 0, 0, 0, SnA.z32, [], [], 0⟩
def H1 : Sgs := [(256, z256)]
theorem it_alive : itF 512 0 [] 0 0 fAl = ((0, H1, 1, 0), []) := by
  have e1 : putF 512 0 [] (IntKind.i64.wrap 256) z256 = ((0, H1, []), true) := by
    unfold putF
    rw [show IntKind.i64.wrap 256 = 256 from by decide, show lgF 512 0 256 = 256 from by decide, z256_l]
    rfl
  unfold itF
  rw [if_neg (by decide), show fAl.o = 256 from rfl, show fAl.d = z256 from rfl, e1]
  rfl
theorem hl_H1 (k : Int) : hlen H1 k = if k = 256 then 256 else 0 := by
  unfold hlen hget H1
  by_cases h : k = 256
  · subst h
    rw [if_pos rfl]
    simp only [List.find?_cons, beq_self_eq_true, Option.map_some, z256_i]
  · have : ((256 : Int) == k) = false := by simpa using Ne.symm h
    rw [if_neg h]
    simp only [List.find?_cons, this, List.find?_nil, Option.map_none]
theorem st_H1 : stR 0 H1 8 = [(256, 512)] := by
  simp only [stR, hl_H1]
  decide
theorem tl_alive : tlF 0 H1 f0 = ⟨4, z16, 0, 0, 0, 0, SnA.z32, [], [(256, 512)], 0⟩ := by
  unfold tlF
  rw [st_H1]
  rfl
theorem ialive_con : Con Try.prog 11 [] [] [] (Bo true) := by
  have h1 := inew_con 512 0 (by omega) (by omega)
  rw [if_pos (by decide), if_pos (by decide)] at h1
  have h2 := itake_con 512 0 [] 0 0 fAl (by omega) (by omega) (by omega) (by decide) (by simp) (by simp) (by simp)
  rw [it_alive] at h2
  have hok : ∀ p ∈ H1, p.2.length ≤ 256 := by
    intro p hp
    simp only [H1, List.mem_singleton] at hp
    subst hp
    rw [z256_l]; exact Nat.le_refl _
  have h3 := tell_con 512 0 H1 1 0 f0 (by omega) hok (by rw [st_H1]; decide)
  rw [tl_alive] at h3
  have h4 := counts_con 512 0 H1 1 0
  have h5 := rheld_con 512 0 H1 (by omega) hok
  have e5 : sumR (stR 0 H1 8) = 256 := by rw [st_H1]; decide
  rw [e5] at h5
  have hZ := z256_l
  have hq : fr fAl = fc 3 z16 0 0 256 0 SnA.z32 (.fz 256 (cB z256)) (.fz 0 []) 0 := by
    unfold fr fAl fB fQ
    rw [z256_l]
    rfl
  rw [hq] at h2
  simp only [fr, f0] at h3
  have q0 : (cQ [(256, 512)]).getD 0 .un = .sc (.int .u64 256) := rfl
  have q1 : (cQ [(256, 512)]).getD 1 .un = .sc (.int .u64 512) := rfl
  have ql : (cQ [(256, 512)]).length = 2 := rfl
  rw [show fQ [(256, 512)] = .fz 1 (cQ [(256, 512)]) from rfl] at h3
  generalize cQ [(256, 512)] = q at *
  generalize H1 = H1' at *
  refine con_j b11 rfl ?_
  sym =>
  simp [Zab,Zad,Zam,Zaz,Za0,Za1,Za2,Za4,Za5,Za9,Zba,Zbb,Zdc,Zdd,Zde,Zew,Ze0,Ze2,Zfd,Zfh,Zla,Zlb,Zle,Zlj,Zna,Znb,Zne,Znf,Zng,Zos,Zo7,eq_self,true_and,and_true,callable_16]
  tactic =>
  refine cl none (h1) trivial ?_
  sym =>
  simp [Zac,Zad,Zam,Zaz,Za0,Za1,Za2,Za3,Za4,Za5,Za9,Zba,Zbb,Zbu,Zb7,Zca,Zcv,Zc2,Zc3,Zc7,Zc8,Zc9,Zdf,Zdg,Zdh,Zdi,Zdp,Zdt,Zdu,Zdv,Zdw,Zdx,Zdy,Zdz,Zd0,Zd1,Zd2,Zd3,Zd6,Zeh,Zei,Zek,Zen,Zeq,Zer,Zes,Zet,Zev,Zew,Zez,Ze0,Ze1,Ze2,Ze3,Ze5,Ze8,Zfc,Zfd,Zfe,Zfh,Zgr,Zgs,Zgt,Zhb,Zhc,Zhd,Zhe,Zhf,Zhg,Zhh,Zho,Zin,Zis,Zit,Ziu,Ziv,Ziw,Zi6,Zi7,Zje,Zjg,Zjh,Zji,Zjn,Zjq,Zur,Zuu,Zkx,Zky,Zk0,Zk1,Zla,Zlb,Zlc,Zld,Zle,Zlf,Zlh,Zlk,Zu3,Zls,Zlv,Zlx,Zlz,Zl2,Zm5,Zm7,Zm9,Zna,Znb,Znc,Zne,Znf,Zng,Znh,Znn,Zno,Znp,Zrd,Zo7,List.length_replicate,eq_self,true_and,and_true,zI_fc,fs_0,fs_19,fs_53,fc_len,fc_id,fz_fc,fcF1]
  tactic =>
  rw [z256_c, List.take_of_length_le (show (cB z256).length ≤ 256 by rw [cB_length, z256_l]; exact Nat.le_refl _)]
  refine ⟨callable_18, cB_okI _, ?_⟩
  refine cl none (h2) trivial ?_
  sym =>
  simp [Zab,Zad,Zam,Zaz,Za0,Za1,Za2,Za3,Za5,Za9,Zba,Zbc,Zbt,Zb8,Zb9,Zc4,Zc7,Zc8,Zc9,Zdc,Zdd,Zde,Zdj,Zdk,Zdm,Zdn,Zdo,Zdp,Zdt,Zdu,Zdv,Zdw,Zdx,Zdy,Zd0,Zd1,Zd3,Zeb,Zek,Zen,Zep,Zer,Zes,Zev,Zew,Zez,Ze0,Ze1,Ze2,Ze3,Ze5,Ze8,Zfc,Zfd,Zfe,Zfh,Zgr,Zgs,Zgt,Zhb,Zhc,Zhd,Zhe,Zhf,Ziu,Ziv,Ziw,Zi6,Zjh,Zji,Zjn,Zjq,Zur,Zuu,Zkx,Zky,Zk0,Zk1,Zla,Zlb,Zlc,Zld,Zle,Zlf,Zlh,Zlk,Zu3,Zls,Zlz,Zl2,Zl3,Zl4,Zm5,Zm7,Zm9,Zna,Znb,Znc,Znd,Zne,Znf,Zng,Znn,Zno,Znp,Zof,Zog,Zo7,eq_self,true_and,and_true,fz_fc,fcF1,callable_24]
  tactic =>
  refine cl none (h3) trivial ?_
  sym =>
  simp [Zab,Zad,Zam,Zaz,Za0,Za1,Za2,Za3,Za4,Za5,Za9,Zba,Zbt,Zcv,Zc3,Zdc,Zdd,Zde,Zdi,Zev,Zew,Zez,Ze0,Ze1,Ze2,Ze3,Ze5,Ze8,Zfc,Zfd,Zfe,Zgr,Zgs,Zgt,Zin,Ziu,Ziv,Ziw,Zi6,Zjh,Zji,Zj7,Zkv,Zla,Zlb,Zlc,Zld,Zle,Zlf,Zlh,Zlk,Zu3,Zlz,Zl2,Zm5,Zm7,Zm9,Zna,Znb,Zne,Znf,Zng,Zo7,eq_self,true_and,and_true,fp_f,fc_len,fc_ok,flL_fz,callable_21]
  tactic =>
  refine cl none (h4) trivial ?_
  sym =>
  simp [Zab,Zad,Zam,Zaz,Za0,Za1,Za2,Za3,Za4,Za5,Za6,Za7,Za9,Zba,Zbb,Zbd,Zbf,Zbh,Zbt,Zbv,Zb1,Zb7,Zb9,Zcn,Zdc,Zdd,Zde,Zdi,Zev,Zew,Zex,Zez,Ze0,Ze2,Ze5,Ze8,Zfc,Zfd,Zfe,Zfh,Zfi,Zfl,Zfn,Zfz,Zga,Zgb,Zgr,Zgs,Zgt,Zgu,Zgv,Zgw,Zgx,Zg4,Zg6,Zhb,Zhc,Zhd,Zhe,Zhf,Zhg,Zhh,Zho,Zh6,Zh7,Zi7,Zjq,Zky,Zkz,Zk0,Zk2,Zla,Zlb,Zlc,Zld,Zle,Zlf,Zlh,Zlk,Zu3,Zlz,Zm5,Zm6,Zm7,Zm9,Zna,Znb,Zne,Znf,Zng,Znn,Zno,Znp,Zn5,Zn6,Zok,Zol,Zom,Zor,Zrd,Zo7,Zo8,eq_self,true_and,and_true,fc_0,fc_19,fc_54,fc_len,ql,q0,q1,callable_28]
  tactic =>
  refine cl none (h5) trivial ?_
  sym =>
  simp [Zak,Zam,Zaz,Za0,Za1,Za2,Za3,Za4,Za5,Za6,Za7,Za9,Zba,Zbb,Zbd,Zbf,Zdi,Zev,Zew,Zex,Zez,Ze0,Ze2,Zfd,Zfe,Zfh,Zfi,Zfl,Zfn,Zfz,Zjr,Zlz,Zmt,Zmv,Zmw,Zmx,Zmz,Zm2,Zo7,Zo8,eq_self,true_and]
  tactic =>
  refine endA ?_
  sym =>
  simp [Zpc,eq_self]
end Go.Proofs.Ytbmdahhhgpbchaa.InA
