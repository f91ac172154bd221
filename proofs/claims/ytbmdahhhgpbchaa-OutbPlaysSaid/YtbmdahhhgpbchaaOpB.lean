import Derived.Test.YtbmdahhhgpbchaaOpA
namespace Go.Proofs.Ytbmdahhhgpbchaa.OpB
open Go Go.Sim Go.Sim.E Go.RowKit Go.Proofs Go.Proofs.Ytbmdahhhgpbchaa.Cod Go.Proofs.Ytbmdahhhgpbchaa.Tab Go.Proofs.Ytbmdahhhgpbchaa.Bse Go.Proofs.Ytbmdahhhgpbchaa.SpnP Go.Proofs.Ytbmdahhhgpbchaa.SwA Go.Proofs.Ytbmdahhhgpbchaa.SwB Go.Proofs.Ytbmdahhhgpbchaa.SwC Go.Proofs.Ytbmdahhhgpbchaa.SwS Go.Proofs.Ytbmdahhhgpbchaa.SwD Go.Proofs.Ytbmdahhhgpbchaa.SwF Go.Proofs.Ytbmdahhhgpbchaa.SwG Go.Proofs.Ytbmdahhhgpbchaa.SwL Go.Proofs.Ytbmdahhhgpbchaa.ObA Go.Proofs.Ytbmdahhhgpbchaa.ObB Go.Proofs.Ytbmdahhhgpbchaa.ObC Go.Proofs.Ytbmdahhhgpbchaa.OeP Go.Proofs.Ytbmdahhhgpbchaa.OeQ Go.Proofs.Ytbmdahhhgpbchaa.OeA Go.Proofs.Ytbmdahhhgpbchaa.OpA
set_option linter.unusedVariables false
set_option linter.unusedSimpArgs false
set_option maxRecDepth 100000
set_option maxHeartbeats 4000000
def lf1 (t f : Int) (n a : Int) : Int := if f ≤ a then n - (min (a + 256) t - a) else n
def lfR (t f : Int) (cm : List Int) : Int := cm.foldl (lf1 t f) (t - f)
def i44 (t f : Int) (cm ou : List Int) (k : Nat) (q : St) : Prop := ∃ (i : Nat) (n : Int), i + k = cm.length ∧ n = (cm.take i).foldl (lf1 t f) (t - f) ∧ -(256 * (i : Int)) ≤ n ∧ n ≤ t ∧
  q = ⟨[(1, .pt 0 0), (3, I n), (4, I (IN i))], [(0, ⟨[I t, I f, fJ cm, fJ ou], 1, 0⟩)], 1⟩
theorem rleft_con (t f : Int) (cm ou : List Int) (h : RI t f cm ou) : Con Try.prog 44 [] [rW t f cm ou] [] (I (lfR t f cm)) := by
  have ht := h.ht
  have hf := h.hf
  have lc := h.lc
  have w0 : IntKind.i64.wrap (t - f) = t - f := w64 _ (by omega)
  refine con_j b44 rfl ?_
  sym =>
  simp [Zab,Zad,Zag,Zah,Zam,Zay,Zaz,Za0,Za1,Za2,Za3,Za4,Za5,Za9,Zba,Zbb,Zbf,Zbt,Zbv,Zcx,Zev,Zew,Zez,Ze0,Ze2,Ze3,Ze5,Ze8,Zfc,Zfd,Zfe,Zfh,Zfn,Zfr,Zgr,Zgs,Zgt,Zgv,Zgw,Zgx,Zio,Zip,Zi6,Zm6,Zm9,Zna,Znb,Zos,Zot,Zo7,eq_self,true_and,w0]
  tactic =>
  refine lpA (i44 t f cm ou) cm.length [(0, 0)] _ ⟨0, t - f, by omega, rfl, by omega, by omega, rfl⟩ (wkA ?_) ?_
  · sym =>
    simp [Za2,Zez,Zfc,Znr,Zn5,Zpa,Zpc,Zpg,Zpu,Zqb,Zqc,Zqf,Zqg,Zqh,Zqi,Zqk,Zql,Zqm,Zqn,eq_self,and_true]
  rintro k q ⟨i, n, hi, hn, n1, n2, rfl⟩
  by_cases h1 : i < cm.length
  · have hw := w64s i (by omega)
    have h0 := cJ_get cm i h1
    have hc := h.hc cm[i] (List.getElem_mem h1)
    have e : (cm.take (i + 1)).foldl (lf1 t f) (t - f) = lf1 t f n cm[i] := by rw [take_one cm i h1, List.foldl_append, ← hn]; rfl
    by_cases h2 : f ≤ cm[i]
    · have e2 : lf1 t f n cm[i] = n - (min (cm[i] + 256) t - cm[i]) := if_pos h2
      have w1 : IntKind.i64.wrap (min (cm[i] + 256) t - cm[i]) = min (cm[i] + 256) t - cm[i] := w64 _ (by omega)
      have w2 : IntKind.i64.wrap (n - (min (cm[i] + 256) t - cm[i])) = n - (min (cm[i] + 256) t - cm[i]) := w64 _ (by omega)
      have m1 : -(256 * ((i + 1 : Nat) : Int)) ≤ n - (min (cm[i] + 256) t - cm[i]) := by omega
      have m2 : n - (min (cm[i] + 256) t - cm[i]) ≤ t := by omega
      generalize cm[i] = a at *
      sym =>
      simp [Zaa,Zab,Zac,Zad,Zae,Zaf,Zag,Zal,Zam,Zaz,Za0,Za1,Za2,Za3,Za4,Za5,Za9,Zba,Zbb,Zbc,Zbf,Zbg,Zbt,Zbu,Zbv,Zbw,Zb2,Zcn,Zc7,Zc8,Zdf,Zdg,Zdh,Zdo,Zdp,Zdt,Zdu,Zdv,Zdw,Zdx,Zdy,Zdz,Zd0,Zd1,Zd2,Zd3,Zeb,Zec,Zee,Zek,Zen,Zeq,Zer,Zes,Zet,Zev,Zew,Zez,Ze0,Ze2,Ze5,Ze8,Zfc,Zfd,Zfe,Zfh,Zfn,Zf1,Zf4,Zgr,Zgs,Zgt,Zgu,Zgv,Zgw,Zgx,Zg4,Zg6,Zho,Zh6,Zh7,Zla,Zlb,Zlc,Zld,Zle,Zlf,Zlh,Zlj,Zlk,Zlm,Zm5,Zm6,Zm7,Zm9,Zna,Znb,Zne,Znf,Zng,Zns,Znt,Znw,Zo7,Zo8,eq_self,true_and,and_true,Nat.mul_one,h1,h0,hw,h2,cJ_length,callable_84]
      tactic =>
      and_intros <;> try (first | omega | rfl | assumption | exact cJ_okF _ | exact cJ_okI _ | simp only [IN]; omega)
      refine cl none (rend_con t f cm ou a (by omega)) trivial ?_
      sym =>
      simp [Zab,Zam,Zap,Zav,Zaz,Za0,Za1,Za2,Za3,Za4,Za5,Za9,Zba,Zbb,Zbc,Zbf,Zbg,Zbu,Zbw,Zb2,Zc7,Zc8,Zdj,Zdk,Zdo,Zdp,Zdt,Zdu,Zdv,Zdw,Zdx,Zdy,Zdz,Zd0,Zd1,Zd2,Zeb,Zee,Zek,Zev,Zew,Zez,Ze0,Ze2,Ze5,Ze8,Zfc,Zfd,Zfe,Zfh,Zfn,Zfq,Zfr,Zgr,Zgs,Zgt,Zgu,Zgv,Zgw,Zgx,Zg4,Zg6,Zho,Zjr,Zlz,Zm6,Zm9,Zna,Znb,Zne,Zns,Znt,Znw,Zo7,eq_self,true_and,and_true,Nat.mul_one,w1,w2,hw,h0,h1,cJ_length]
      tactic =>
      and_intros <;> try (first | omega | rfl | assumption | exact cJ_okF _ | exact cJ_okI _ | simp only [IN]; omega)
      unfold NextL; refine ⟨(k - 1), [(0, 0)], _, by omega, ⟨i + 1, n - (min (a + 256) t - a), by omega, by rw [e, e2], m1, m2, rfl⟩, wkA ?_⟩
      sym =>
      simp [Za2,Zez,Zfc,Znr,Zpa,Zpc,Zpg,Zpu,Zqb,Zqc,Zqf,Zqg,Zqh,Zqi,Zqk,Zql,Zqm,Zqn,eq_self,and_true]
    · have e2 : lf1 t f n cm[i] = n := if_neg h2
      have m1 : -(256 * ((i + 1 : Nat) : Int)) ≤ n := by omega
      sym =>
      simp [Zaa,Zab,Zac,Zad,Zae,Zaf,Zag,Zal,Zam,Zap,Zav,Zaz,Za0,Za1,Za2,Za3,Za4,Za5,Za9,Zba,Zbb,Zbc,Zbf,Zbg,Zbt,Zbu,Zbv,Zbw,Zb2,Zcn,Zc7,Zc8,Zdo,Zdp,Zdt,Zdu,Zdv,Zdw,Zdx,Zdy,Zdz,Zd0,Zd1,Zd2,Zeb,Zee,Zek,Zev,Zew,Zez,Ze0,Ze2,Ze5,Ze8,Zfc,Zfd,Zfe,Zfh,Zfn,Zfq,Zf1,Zf4,Zgr,Zgs,Zgt,Zgu,Zgv,Zgw,Zgx,Zg4,Zg6,Zho,Zh6,Zh7,Zm6,Zm9,Zna,Znb,Zne,Zns,Znt,Znw,Zo7,Zo8,Zo9,eq_self,true_and,and_true,Nat.mul_one,h1,h0,hw,h2,cJ_length]
      tactic =>
      and_intros <;> try (first | omega | rfl | assumption | exact cJ_okF _ | exact cJ_okI _ | simp only [IN]; omega)
      unfold NextL; refine ⟨(k - 1), [(0, 0)], _, by omega, ⟨i + 1, n, by omega, by rw [e, e2], m1, n2, rfl⟩, wkA ?_⟩
      sym =>
      simp [Za2,Zez,Zfc,Znr,Zpa,Zpc,Zpg,Zpu,Zqb,Zqc,Zqf,Zqg,Zqh,Zqi,Zqk,Zql,Zqm,Zqn,eq_self,and_true]
  · have e : n = lfR t f cm := by rw [hn, List.take_of_length_le (by omega)]; rfl
    rw [← e]
    sym =>
    simp [Zab,Zad,Zae,Zaf,Zai,Zak,Zam,Zan,Zaq,Zaw,Zaz,Za0,Za1,Za2,Za3,Za4,Za5,Za9,Zba,Zbb,Zbf,Zbt,Zbv,Zcn,Zev,Zez,Ze0,Ze2,Ze5,Ze8,Zfc,Zfd,Zfe,Zfh,Zfn,Zf1,Zgr,Zgs,Zgt,Zgv,Zgw,Zgx,Zh6,Zh7,Zmt,Zmv,Zmw,Zmx,Zmz,Zm2,Zm6,Zm9,Zna,Znb,Znt,Zo7,Zo9,eq_self,true_and,h1]
    tactic =>
    refine endA ?_
    sym =>
    simp [Zpc,eq_self]
def rnF (t f : Int) (cm ou : List Int) (b : Int) : Nat → Int → Option Int
  | 0, _ => none
  | k + 1, a => if a < t ∧ a < b + 2048 then (if cmF f cm a = false ∧ a ∉ ou then some a else rnF t f cm ou b k (a + 256)) else none
def rnR (t f : Int) (cm ou : List Int) : Option Int → AV
  | none => .tu [rW t f cm ou, .ag [I 0, I 0], Bo false]
  | some a => .tu [rW t f cm (ou ++ [a]), .ag [I a, I (min (a + 256) t)], Bo true]
def i80 (t f : Int) (cm ou : List Int) (b : Int) (R : Option Int) (k : Nat) (q : St) : Prop := ∃ a : Int, b ≤ a ∧ b + 2048 - a ≤ 256 * (k : Int) ∧ a ≤ 40000 ∧ R = rnF t f cm ou b k a ∧
  q = ⟨[(1, .pt 0 0), (2, .pt 1 0), (3, .pt 2 0), (5, I b), (6, I a)], [(0, ⟨[I t, I f, fJ cm, fJ ou], 1, 0⟩), (1, ⟨[I 0, I 0, .nl, .nl], 1, 0⟩), (2, ⟨[I 0, I 0], 1, 0⟩)], 3⟩
theorem rnext_con (t f : Int) (cm ou : List Int) (h : RI t f cm ou) (b : Int) (hb : rbF t f cm t.toNat f = b) (hb0 : 0 ≤ b ∧ b ≤ 20000) : Con Try.prog 80 [] [rW t f cm ou] [] (rnR t f cm ou (rnF t f cm ou b 9 b)) := by
  obtain ⟨R, hR⟩ : ∃ R, R = rnF t f cm ou b 9 b := ⟨_, rfl⟩
  have ht := h.ht
  have lc := h.lc
  have lo := h.lo
  rw [← hR]
  refine con_j b80 rfl ?_
  sym =>
  simp [Zab,Zad,Zam,Zaz,Za0,Za1,Za2,Za3,Za4,Za5,Za9,Zba,Zbb,Zbt,Zcv,Zcx,Zdc,Zdd,Zde,Zev,Zew,Zez,Ze0,Ze2,Ze3,Ze5,Ze8,Zfc,Zfd,Zfe,Zfh,Zgr,Zgs,Zgt,Zin,Zio,Zip,Zi6,Zla,Zlb,Zlc,Zld,Zle,Zlf,Zlh,Zlk,Zlm,Zm5,Zm7,Zm9,Zna,Znb,Zne,Znf,Zng,Zos,Zot,Zo7,eq_self,true_and,and_true,callable_43]
  tactic =>
  refine cl none (rbase_con t f cm ou h) trivial ?_
  rw [hb]
  sym =>
  simp [Zab,Zad,Zag,Zah,Zam,Zaz,Za0,Za1,Za2,Za3,Za4,Za5,Za9,Zba,Zbb,Zdi,Zev,Zez,Ze0,Ze2,Zfd,Zfe,Zfh,Zjr,Zlz,Zna,Znb,Zo7,eq_self,true_and]
  tactic =>
  refine lpA (i80 t f cm ou b R) 9 [(0, 0), (1, 1), (2, 2)] _ ⟨b, Int.le_refl _, by omega, by omega, hR, rfl⟩ (wkA ?_) ?_
  · sym =>
    simp [Za2,Za3,Zez,Zfc,Znr,Zpa,Zpc,Zpd,Zpg,Zpu,Zqb,Zqc,Zqf,Zqg,Zqh,Zqi,Zqk,Zql,Zqm,Zqn,eq_self,and_true]
  clear hR
  rintro k q ⟨a, ha, hk, ha4, hR, rfl⟩
  have wb : IntKind.i64.wrap (b + 2048) = b + 2048 := w64 _ (by omega)
  by_cases h1 : a < t
  · by_cases h2 : a < b + 2048
    · obtain ⟨k, rfl⟩ : ∃ k', k = k' + 1 := ⟨k - 1, by omega⟩
      have wa : IntKind.i64.wrap (a + 256) = a + 256 := w64 _ (by omega)
      have q1 : b ≤ a + 256 := by omega
      have q2 : b + 2048 - (a + 256) ≤ 256 * (k : Int) := by omega
      have q3 : a + 256 ≤ 40000 := by omega
      rw [rnF, if_pos ⟨h1, h2⟩] at hR
      sym =>
      simp [Zaa,Zab,Zad,Zae,Zaf,Zag,Zal,Zam,Zaz,Za0,Za1,Za2,Za3,Za4,Za5,Za6,Za7,Za9,Zba,Zbb,Zbd,Zbf,Zbt,Zbv,Zdc,Zdd,Zde,Zev,Zew,Zex,Zez,Ze0,Ze2,Ze5,Ze8,Zfc,Zfd,Zfe,Zfh,Zfi,Zfl,Zfn,Zfq,Zf1,Zgr,Zgs,Zgt,Zgv,Zgw,Zgx,Zla,Zlb,Zlc,Zld,Zle,Zlf,Zlh,Zlj,Zlk,Zlm,Zm5,Zm6,Zm7,Zm9,Zna,Znb,Zne,Znf,Zng,Zo7,Zo8,eq_self,true_and,and_true,h1,wb,h2,callable_83]
      tactic =>
      refine cl none (came_con t f cm ou a (by omega)) trivial ?_
      by_cases h3 : cmF f cm a = true
      · rw [if_neg (fun hh => by rw [h3] at hh; cases hh.1)] at hR
        sym =>
        simp [Zaa,Zab,Zae,Zaf,Zal,Zam,Zap,Zav,Zaz,Za0,Za1,Za2,Za3,Za4,Za5,Za6,Za7,Za8,Za9,Zba,Zbb,Zbd,Zbf,Zbj,Zdi,Zev,Zew,Zex,Zez,Ze0,Ze2,Zfd,Zfe,Zfh,Zfi,Zfk,Zfn,Zfq,Zgd,Zgg,Zjw,Zlz,Zna,Znb,Zo3,Zo7,eq_self,true_and,h3,wa]
        tactic =>
        unfold NextL; refine ⟨k, [(0, 0), (1, 1), (2, 2)], _, by omega, ⟨a + 256, q1, q2, q3, hR, rfl⟩, wkA ?_⟩
        sym =>
        simp [Za2,Za3,Zez,Zfc,Znr,Zpa,Zpc,Zpd,Zpg,Zpu,Zqb,Zqc,Zqf,Zqg,Zqh,Zqi,Zqk,Zql,Zqm,Zqn,eq_self,and_true]
      have h3 : cmF f cm a = false := by simpa using h3
      sym =>
      simp [Za5,Za6,Za7,Za9,Zba,Zbb,Zbj,Zbt,Zbv,Zdc,Zdd,Zde,Zdi,Zev,Zew,Zex,Zez,Ze0,Ze2,Ze5,Ze8,Zfc,Zfd,Zfe,Zfh,Zgd,Zgg,Zgr,Zgs,Zgt,Zgv,Zgw,Zgx,Zjw,Zla,Zlb,Zle,Zlj,Zll,Zlz,Zm6,Zm9,Zna,Znb,Zne,Znf,Zng,Zo4,eq_self,true_and,and_true,h3,callable_113]
      tactic =>
      refine cl none (hasl_con ou a (by omega)) trivial ?_
      by_cases h4 : a ∈ ou
      · rw [if_neg (fun hh => hh.2 h4)] at hR
        sym =>
        simp [Zaa,Zab,Zae,Zaf,Zal,Zam,Zap,Zav,Zaz,Za0,Za1,Za2,Za3,Za4,Za5,Za6,Za7,Za9,Zba,Zbb,Zbd,Zbf,Zbj,Zdi,Zev,Zew,Zex,Zez,Ze0,Ze2,Zfd,Zfe,Zfh,Zfi,Zfl,Zfn,Zfq,Zgd,Zgg,Zjw,Zlz,Zna,Znb,Zo3,Zo7,Zo8,eq_self,true_and,h4,wa]
        tactic =>
        unfold NextL; refine ⟨k, [(0, 0), (1, 1), (2, 2)], _, by omega, ⟨a + 256, q1, q2, q3, hR, rfl⟩, wkA ?_⟩
        sym =>
        simp [Za2,Za3,Zez,Zfc,Znr,Zpa,Zpc,Zpd,Zpg,Zpu,Zqb,Zqc,Zqf,Zqg,Zqh,Zqi,Zqk,Zql,Zqm,Zqn,eq_self,and_true]
      · rw [if_pos ⟨h3, h4⟩] at hR
        subst hR
        have hol := cJ_length ou
        have hoa := cJ_all ou
        sym =>
        simp [Zab,Zac,Zad,Zae,Zaf,Zal,Zam,Zaz,Za0,Za1,Za2,Za3,Za4,Za5,Za6,Za7,Za9,Zba,Zbb,Zbc,Zbd,Zbj,Zbt,Zbu,Zbv,Zbw,Zca,Zcz,Zc5,Zc7,Zc8,Zdf,Zdg,Zdh,Zdi,Zdp,Zdt,Zdu,Zdv,Zdw,Zdx,Zdy,Zdz,Zd0,Zd1,Zd2,Zd3,Zeb,Zec,Zeh,Zek,Zen,Zeq,Zer,Zes,Zet,Zev,Zew,Zex,Zez,Ze0,Ze2,Ze3,Ze4,Ze5,Ze8,Zfc,Zfd,Zfe,Zff,Zfg,Zfh,Zfi,Zfl,Zgd,Zgg,Zgr,Zgs,Zgt,Zgv,Zgw,Zgx,Zhd,Zhe,Zhf,Zhg,Zhh,Ziq,Zir,Zix,Ziy,Ziz,Zi0,Zi1,Zi2,Zi3,Zi7,Zjb,Zje,Zjg,Zjj,Zjk,Zjo,Zjw,Zla,Zlb,Zlc,Zld,Zle,Zlf,Zlh,Zlj,Zlk,Zlm,Zlz,Zm5,Zm6,Zm7,Zm9,Zna,Znb,Znc,Zne,Znf,Zng,Znh,Znl,Znm,Znn,Zno,Znp,Zo4,Zo7,Zo9,eq_self,true_and,and_true,Nat.mul_one,h4,hol,hoa,callable_84]
        tactic =>
        refine ⟨?_, ?_, ?_⟩
        · and_intros <;> first | exact cJ_okF _ | exact hol | omega
        · and_intros <;> first | exact cJ_okF _ | exact hol | omega
        refine cl none (rend_con t f cm ou a (by omega)) trivial ?_
        sym =>
        simp [Zak,Zam,Zao,Zar,Zax,Zaz,Za0,Za1,Za2,Za3,Zbc,Zca,Zc4,Zc7,Zc8,Zc9,Zdj,Zdk,Zdo,Zdp,Zdt,Zdu,Zdv,Zdw,Zdx,Zdy,Zdz,Zd0,Zd1,Zd2,Zd3,Zec,Zei,Zek,Zen,Zer,Zes,Zev,Zew,Zez,Ze0,Ze1,Ze2,Ze3,Ze5,Zfc,Zfd,Zfe,Zfh,Zhd,Zhe,Zhf,Zhg,Zhh,Ziu,Ziv,Ziw,Zi6,Zi7,Zjh,Zji,Zjn,Zjr,Zj7,Zkl,Zlz,Zmt,Zmv,Zmw,Zmx,Zmy,Zmz,Zm0,Zm1,Zm3,Zm5,Zm7,Zm9,Zna,Znb,Znc,Znd,Zne,Znn,Zno,Znp,Znr,Zo7,eq_self,true_and,and_true]
        tactic =>
        refine endA ?_
        unfold rnR
        sym =>
        simp [Zfc,Zjl,Zjm,Zjp,Zna,Znb,Znh,Zod,Zpa,Zpb,Zpg,Zpy,Zp1,Zp2,Zp7,Zp9,Zqb,Zqc,Zqd,Zqe,List.length_append,eq_self,true_and,and_true,Nat.zero_add,Nat.mul_one,cJ_append]
        tactic =>
        exact ⟨(List.take_of_length_le (by rw [List.length_append, cJ_length]; exact Nat.le_refl _)).symm, by rw [cJ_length]; exact Nat.le_refl _, cJ_okI _⟩
    · have e : R = none := by
        rw [hR]
        cases k with
        | zero => rfl
        | succ k => rw [rnF, if_neg (fun hh => h2 hh.2)]
      rw [e]
      sym =>
      simp [Zab,Zad,Zae,Zaf,Zai,Zak,Zam,Zan,Zaq,Zaw,Zaz,Za0,Za1,Za2,Za3,Za4,Za5,Za6,Za7,Za9,Zba,Zbb,Zbd,Zbf,Zbt,Zbv,Zb9,Zc3,Zev,Zew,Zex,Zez,Ze0,Ze1,Ze2,Ze3,Ze5,Ze8,Zfc,Zfd,Zfe,Zfh,Zfi,Zfl,Zfn,Zfq,Zf1,Zgr,Zgs,Zgt,Zgv,Zgw,Zgx,Zhd,Zhe,Zhf,Ziu,Ziv,Ziw,Zi6,Zjh,Zji,Zjn,Zj7,Zmt,Zmv,Zmw,Zmx,Zmy,Zmz,Zm0,Zm1,Zm3,Zm5,Zm6,Zm7,Zm9,Zna,Znb,Znn,Zno,Znp,Zo7,Zo8,Zo9,eq_self,true_and,and_true,h1,wb,h2]
      tactic =>
      refine endA ?_
      unfold rnR
      sym =>
      simp [Zpa,Zpb,Zpg,Zp7,Zp9,Zqb,Zqc,Zqd,Zqe,eq_self,and_true]
  · have e : R = none := by
      rw [hR]
      cases k with
      | zero => rfl
      | succ k => rw [rnF, if_neg (fun hh => h1 hh.1)]
    rw [e]
    sym =>
    simp [Zab,Zad,Zae,Zaf,Zai,Zak,Zam,Zan,Zaq,Zaw,Zaz,Za0,Za1,Za2,Za3,Za4,Za5,Za6,Za7,Za8,Za9,Zba,Zbb,Zbd,Zbf,Zbt,Zbv,Zb9,Zc3,Zev,Zew,Zex,Zez,Ze0,Ze1,Ze2,Ze3,Ze5,Ze8,Zfc,Zfd,Zfe,Zfh,Zfi,Zfk,Zfn,Zf1,Zgr,Zgs,Zgt,Zgv,Zgw,Zgx,Zhd,Zhe,Zhf,Ziu,Ziv,Ziw,Zi6,Zjh,Zji,Zjn,Zj7,Zmt,Zmv,Zmw,Zmx,Zmy,Zmz,Zm0,Zm1,Zm3,Zm5,Zm6,Zm7,Zm9,Zna,Znb,Znn,Zno,Znp,Zo7,Zo9,eq_self,true_and,and_true,h1]
    tactic =>
    refine endA ?_
    unfold rnR
    sym =>
    simp [Zpa,Zpb,Zpg,Zp7,Zp9,Zqb,Zqc,Zqd,Zqe,eq_self,and_true]
end Go.Proofs.Ytbmdahhhgpbchaa.OpB
