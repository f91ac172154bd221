import Derived.Test.YtbmdahhhgpbchaaOpC
namespace Go.Proofs.Ytbmdahhhgpbchaa.OpD
open Go Go.Sim Go.Sim.E Go.RowKit Go.Proofs Go.Proofs.Ytbmdahhhgpbchaa.Cod Go.Proofs.Ytbmdahhhgpbchaa.Tab Go.Proofs.Ytbmdahhhgpbchaa.Bse Go.Proofs.Ytbmdahhhgpbchaa.SpnP Go.Proofs.Ytbmdahhhgpbchaa.SwA Go.Proofs.Ytbmdahhhgpbchaa.SwB Go.Proofs.Ytbmdahhhgpbchaa.SwC Go.Proofs.Ytbmdahhhgpbchaa.SwS Go.Proofs.Ytbmdahhhgpbchaa.SwD Go.Proofs.Ytbmdahhhgpbchaa.SwF Go.Proofs.Ytbmdahhhgpbchaa.SwG Go.Proofs.Ytbmdahhhgpbchaa.SwL Go.Proofs.Ytbmdahhhgpbchaa.ObA Go.Proofs.Ytbmdahhhgpbchaa.ObB Go.Proofs.Ytbmdahhhgpbchaa.ObC Go.Proofs.Ytbmdahhhgpbchaa.OeP Go.Proofs.Ytbmdahhhgpbchaa.OeQ Go.Proofs.Ytbmdahhhgpbchaa.OeA Go.Proofs.Ytbmdahhhgpbchaa.OpA Go.Proofs.Ytbmdahhhgpbchaa.OpB Go.Proofs.Ytbmdahhhgpbchaa.OpC
set_option linter.unusedVariables false
set_option linter.unusedSimpArgs false
set_option maxRecDepth 100000
set_option maxHeartbeats 4000000
theorem ri_of {t f : Int} {cm cm' ou : List Int} (h : RI t f cm ou) (hk : RK t f cm') : RI t f cm' ou :=
  ⟨h.ht, h.hf, fun a ha => by have := hk.el a ha; have := h.hf; omega, h.ho, by have := hk.len h.hf.1 h.ht.2; omega, h.lo⟩
def i82a (t f off was : Int) (ou : List Int) (cm0 : List Int) (l : List Rg) (k : Nat) (q : St) : Prop := ∃ i : Nat, i + k = l.length ∧
  q = ⟨[(1, I off), (2, fR l), (3, .pt 0 0), (6, .pt 1 0), (8, I was), (9, I (IN i))], [(0, ⟨[I t, I f, fJ (akR t off f cm0 (l.take i)), fJ ou], 1, 0⟩), (1, ⟨[I 0, I 0, .nl, .nl], 1, 0⟩)], 2⟩
def i82b (t f was : Int) (ou cm : List Int) (k : Nat) (q : St) : Prop := ∃ i : Nat, i + k = ou.length ∧
  q = ⟨[(3, .pt 0 0), (6, .pt 1 0), (8, I was), (10, .lv 2 0 ((ou.take i).filter fun a => !cmF f cm a).length), (11, I (IN i))], [(0, ⟨[I t, I f, fJ cm, fJ ou], 1, 0⟩), (1, ⟨[I 0, I 0, .nl, .nl], 1, 0⟩), (2, ⟨cJ ((ou.take i).filter fun a => !cmF f cm a), 1, 0⟩)], 3⟩
theorem rack_no (t f off : Int) (cm ou : List Int) (l : List Rg) (h : RI t f cm ou) (hn : plF t off = false ∨ off < rbF t f cm t.toNat f) : Con Try.prog 82 [] [rW t f cm ou, I off, fR l] [] (.tu [rW t f cm ou, Bo false]) := by
  refine con_j b82 rfl ?_
  sym =>
  simp [Zab,Zad,Zam,Zaz,Za0,Za1,Za2,Za3,Za4,Za5,Za9,Zba,Zbb,Zbt,Zbv,Zcv,Zcx,Zdc,Zdd,Zde,Zev,Zew,Zez,Ze0,Ze2,Ze3,Ze5,Ze8,Zfc,Zfd,Zfe,Zfh,Zgr,Zgs,Zgt,Zgv,Zgw,Zgx,Zin,Zio,Zip,Zi6,Zla,Zlb,Zle,Zlj,Zm6,Zm9,Zna,Znb,Zne,Znf,Zng,Zos,Zot,Zo7,eq_self,true_and,and_true,not_false_eq_true,callable_96]
  tactic =>
  refine cl none (rplace_con t off) trivial ?_
  by_cases hp : plF t off = true
  · have hn : off < rbF t f cm t.toNat f := hn.resolve_left (by rw [hp]; simp)
    sym =>
    simp [Za5,Za6,Za7,Za9,Zba,Zbb,Zbj,Zbt,Zdc,Zdd,Zde,Zdi,Zev,Zew,Zex,Zez,Ze0,Ze2,Ze5,Ze8,Zfc,Zfd,Zfe,Zfh,Zgd,Zgg,Zgr,Zgs,Zgt,Zjw,Zla,Zlb,Zlc,Zld,Zle,Zlf,Zlh,Zlk,Zlm,Zlz,Zm5,Zm7,Zm9,Zna,Znb,Zne,Znf,Zng,Zo3,eq_self,true_and,and_true,hp,callable_43]
    tactic =>
    refine cl none (rbase_con t f cm ou h) trivial ?_
    sym =>
    simp [Zab,Zad,Zae,Zaf,Zak,Zal,Zam,Zao,Zaz,Za0,Za1,Za2,Za3,Za4,Za5,Za6,Za7,Za9,Zba,Zbb,Zbd,Zbf,Zbt,Zc3,Zdi,Zev,Zew,Zex,Zez,Ze0,Ze1,Ze2,Ze3,Ze5,Ze8,Zfc,Zfd,Zfe,Zfh,Zfi,Zfl,Zfn,Zf1,Zgr,Zgs,Zgt,Ziu,Ziv,Ziw,Zi6,Zjh,Zji,Zjn,Zjr,Zj7,Zlz,Zmt,Zmv,Zmw,Zmx,Zmy,Zmz,Zm0,Zm1,Zm3,Zm5,Zm7,Zm9,Zna,Znb,Znn,Zno,Znp,Zo7,Zo8,eq_self,true_and,and_true,hn]
    tactic =>
    refine endA ?_
    sym =>
    simp [Zpa,Zpb,Zpg,Zp7,Zp9,Zqb,Zqc,Zqd,Zqe,eq_self,and_true]
  · have hp : plF t off = false := by simpa using hp
    sym =>
    simp [Zab,Zad,Zae,Zaf,Zak,Zal,Zam,Zao,Zaz,Za0,Za1,Za2,Za3,Za4,Za5,Za6,Za7,Za8,Za9,Zba,Zbb,Zbd,Zbj,Zbt,Zc3,Zdi,Zev,Zew,Zex,Zez,Ze0,Ze1,Ze2,Ze3,Ze5,Ze8,Zfc,Zfd,Zfe,Zfh,Zfi,Zfj,Zgd,Zgg,Zgr,Zgs,Zgt,Ziu,Ziv,Ziw,Zi6,Zjh,Zji,Zjn,Zjw,Zj7,Zlz,Zmt,Zmv,Zmw,Zmx,Zmy,Zmz,Zm0,Zm1,Zm3,Zm5,Zm7,Zm9,Zna,Znb,Znn,Zno,Znp,Zo4,Zo6,Zo7,eq_self,true_and,and_true,hp]
    tactic =>
    refine endA ?_
    sym =>
    simp [Zpa,Zpb,Zpg,Zp7,Zp9,Zqb,Zqc,Zqd,Zqe,eq_self,and_true]
theorem rack_yes (t f off : Int) (cm ou : List Int) (l : List Rg) (h : RI t f cm ou) (hk : RK t f cm) (hf : f % 256 = 0 ∨ f = t) (hl : l.length ≤ 1000) (hp : plF t off = true) (hb : ¬ off < rbF t f cm t.toNat f) :
    Con Try.prog 82 [] [rW t f cm ou, I off, fR l] [] (.tu [rW t f (akR t off f cm l) (ou.filter fun a => !cmF f (akR t off f cm l) a), Bo (decide (lfR t f (akR t off f cm l) < lfR t f cm))]) := by
  have ht := h.ht
  have hff := h.hf
  have p0 := plF_mod hp
  have hak : ∀ l, RK t f (akR t off f cm l) := fun l => akR_ok hf p0.2.1 hk l
  have lc := h.lc
  have lo := h.lo
  refine con_j b82 rfl ?_
  sym =>
  simp [Zab,Zad,Zam,Zaz,Za0,Za1,Za2,Za3,Za4,Za5,Za9,Zba,Zbb,Zbt,Zbv,Zcv,Zcx,Zdc,Zdd,Zde,Zev,Zew,Zez,Ze0,Ze2,Ze3,Ze5,Ze8,Zfc,Zfd,Zfe,Zfh,Zgr,Zgs,Zgt,Zgv,Zgw,Zgx,Zin,Zio,Zip,Zi6,Zla,Zlb,Zle,Zlj,Zm6,Zm9,Zna,Znb,Zne,Znf,Zng,Zos,Zot,Zo7,eq_self,true_and,and_true,callable_96]
  tactic =>
  refine cl none (rplace_con t off) trivial ?_
  sym =>
  simp [Za5,Za6,Za7,Za9,Zba,Zbb,Zbj,Zbt,Zdc,Zdd,Zde,Zdi,Zev,Zew,Zex,Zez,Ze0,Ze2,Ze5,Ze8,Zfc,Zfd,Zfe,Zfh,Zgd,Zgg,Zgr,Zgs,Zgt,Zjw,Zla,Zlb,Zlc,Zld,Zle,Zlf,Zlh,Zlk,Zlm,Zlz,Zm5,Zm7,Zm9,Zna,Znb,Zne,Znf,Zng,Zo3,eq_self,true_and,and_true,hp,callable_43]
  tactic =>
  refine cl none (rbase_con t f cm ou h) trivial ?_
  sym =>
  simp [Zaa,Zab,Zad,Zae,Zaf,Zal,Zam,Zaz,Za0,Za1,Za2,Za3,Za4,Za5,Za6,Za7,Za9,Zba,Zbd,Zbf,Zbt,Zdc,Zdd,Zde,Zdi,Zev,Zew,Zex,Zez,Ze0,Ze2,Ze5,Ze8,Zfc,Zfd,Zfe,Zfi,Zfl,Zfn,Zf1,Zgr,Zgs,Zgt,Zjr,Zla,Zlb,Zlc,Zld,Zle,Zlf,Zlh,Zlk,Zlm,Zlz,Zm5,Zm7,Zm9,Zna,Znb,Zne,Znf,Zng,Zo7,Zo9,eq_self,true_and,and_true,hb,callable_44]
  tactic =>
  refine cl none (rleft_con t f cm ou h) trivial ?_
  generalize lfR t f cm = was at *
  sym =>
  simp [Zab,Zad,Zam,Zaz,Za0,Za1,Za2,Za3,Za4,Za5,Za9,Zba,Zbb,Zbt,Zbv,Zdc,Zdd,Zde,Zdi,Zev,Zew,Zez,Ze0,Ze2,Ze5,Ze8,Zfc,Zfd,Zfe,Zfh,Zgr,Zgs,Zgt,Zgv,Zgw,Zgx,Zjr,Zla,Zlb,Zlc,Zld,Zle,Zlf,Zlh,Zlj,Zlk,Zlm,Zlz,Zm5,Zm6,Zm7,Zm9,Zna,Znb,Zne,Znf,Zng,Zo7,eq_self,true_and,and_true,callable_115]
  tactic =>
  refine cl none (with_con t f cm ou f off (by omega) (by omega) lc) trivial ?_
  sym =>
  simp [Zab,Zad,Zag,Zah,Zam,Zay,Zaz,Za0,Za1,Za2,Za3,Za4,Za5,Za9,Zba,Zbb,Zc3,Zdi,Zev,Zew,Zez,Ze0,Ze1,Ze2,Ze3,Ze5,Zfc,Zfd,Zfe,Zfh,Ziu,Ziv,Ziw,Zi6,Zjh,Zji,Zjn,Zjq,Zj7,Zka,Zkv,Zkx,Zlz,Zl2,Zna,Znb,Znn,Zno,Znp,Zo7,eq_self,true_and,and_true]
  tactic =>
  refine lpA (i82a t f off was ou cm l) l.length [(0, 0), (1, 1)] _ ⟨0, by omega, rfl⟩ (wkA ?_) ?_
  · sym =>
    simp [Za2,Za3,Zez,Zfc,Znr,Zn5,Zpa,Zpc,Zpd,Zpg,Zpi,Zpu,Zqb,Zqc,Zqf,Zqg,Zqh,Zqi,Zqk,Zql,Zqm,Zqn,eq_self,true_and,and_true]
    tactic =>
    exact ⟨rfl, rfl⟩
  rintro k q ⟨i, hi, rfl⟩
  have hai := (hak (l.take i)).len hff.1 ht.2
  by_cases h1 : i < l.length
  · have hw := w64s i (by omega)
    have h0 := cR_q0 l i h1
    have h2 := cR_q1 l i h1
    have e0 : akR t off f cm (l.take (i + 1)) = ak1R t off f (akR t off f cm (l.take i)) l[i] := by rw [take_one l i h1, akR, List.foldl_append]; rfl
    generalize akR t off f cm (l.take i) = c at *
    sym =>
    simp [Zaa,Zab,Zac,Zad,Zae,Zaf,Zag,Zal,Zam,Zaz,Za0,Za1,Za2,Za3,Za4,Za5,Za9,Zba,Zbb,Zbc,Zbf,Zbu,Zbw,Zb2,Zcn,Zc7,Zc8,Zdf,Zdg,Zdh,Zdp,Zdt,Zdu,Zdv,Zdw,Zdx,Zdy,Zdz,Zd0,Zd1,Zd2,Zeb,Zee,Zek,Zeq,Zet,Zev,Zew,Zez,Ze0,Ze2,Ze5,Ze8,Zfc,Zfd,Zfe,Zfh,Zfn,Zf1,Zgr,Zgs,Zgt,Zgu,Zgv,Zgw,Zgx,Zgy,Zg4,Zg6,Zho,Zh6,Zh7,Zla,Zlb,Zle,Zlj,Zm6,Zm9,Zna,Znb,Zne,Znf,Zng,Zns,Znt,Znw,Zo7,Zo8,eq_self,true_and,and_true,Nat.add_zero,Bool.false_and,h1,h0,h2,cR_length,callable_96]
    tactic =>
    and_intros <;> try (first | omega | rfl | assumption | exact cJ_okF _ | exact cJ_okI _ | exact cR_okI _ | simp only [IN]; omega)
    generalize l[i] = r at *
    refine cl none (rplace_con t r.1) trivial ?_
    by_cases p1 : plF t r.1 = true
    · sym =>
      simp [Za2,Za3,Zbc,Zbu,Zbw,Zb2,Zc7,Zc8,Zdf,Zdg,Zdh,Zdj,Zdk,Zdp,Zdq,Zdr,Zdt,Zdu,Zdv,Zdw,Zdx,Zdy,Zdz,Zd0,Zd1,Zd2,Zeb,Zee,Zek,Zeq,Zet,Zev,Zew,Zex,Zez,Ze0,Ze2,Ze5,Ze8,Zfc,Zfd,Zfe,Zfh,Zgr,Zgs,Zgt,Zgu,Zgv,Zgw,Zgx,Zgy,Zg4,Zg6,Zho,Zjw,Zla,Zlb,Zle,Zlj,Zlz,Zm6,Zm9,Zna,Znb,Zne,Znf,Zng,Zns,Znt,Znw,Zo7,eq_self,true_and,and_true,Bool.and_false,Bool.false_and,p1,h1,h0,h2,cR_length,callable_96]
      tactic =>
      and_intros <;> try (first | omega | rfl | assumption | exact cJ_okF _ | exact cJ_okI _ | exact cR_okI _ | simp only [IN]; omega)
      refine cl none (rplace_con t r.2) trivial ?_
      by_cases p2 : plF t r.2 = true
      · have q1 := plF_mod p1
        have q2 := plF_mod p2
        by_cases p3 : off ≤ r.1
        · have e1 : ak1R t off f c r = wtF f 100 c r.1 r.2 := by simp [ak1R, p1, p2, p3]
          sym =>
          simp [Zac,Zae,Zaf,Zal,Zam,Zaz,Za0,Za1,Za2,Za3,Zbc,Zbe,Zbg,Zbu,Zbw,Zb2,Zc7,Zc8,Zdf,Zdg,Zdh,Zdj,Zdk,Zdo,Zdp,Zdq,Zdr,Zdt,Zdu,Zdv,Zdw,Zdx,Zdy,Zdz,Zd0,Zd1,Zd2,Zd3,Zeb,Zec,Zee,Zek,Zen,Zeq,Zer,Zes,Zet,Zev,Zew,Zex,Zez,Ze0,Ze2,Ze5,Ze8,Zfc,Zfd,Zfe,Zfh,Zfi,Zfl,Zfn,Zf4,Zgr,Zgs,Zgt,Zgu,Zgw,Zgy,Zg4,Zg6,Zho,Zjw,Zla,Zlb,Zlc,Zld,Zle,Zlf,Zlh,Zlj,Zlk,Zlm,Zlz,Zm5,Zm6,Zm7,Zm9,Zna,Znb,Zne,Znf,Zng,Zns,Znt,Znw,Zo7,Zo8,eq_self,true_and,and_true,Nat.add_zero,p2,p3,h1,h0,h2,cR_length,callable_115]
          tactic =>
          and_intros <;> try (first | omega | rfl | assumption | exact cJ_okF _ | exact cJ_okI _ | exact cR_okI _ | simp only [IN]; omega)
          refine cl none (with_con t f c ou r.1 r.2 (by omega) (by omega) (by omega)) trivial ?_
          sym =>
          simp [Zab,Zam,Zap,Zav,Zaz,Za0,Za1,Za2,Za3,Za4,Za5,Za9,Zba,Zbb,Zbf,Zc4,Zc7,Zc8,Zc9,Zdj,Zdk,Zdm,Zdo,Zdp,Zdt,Zdu,Zdv,Zd0,Zd1,Zd3,Zec,Zek,Zen,Zer,Zes,Zev,Zew,Zez,Ze0,Ze1,Ze2,Ze3,Ze5,Zfc,Zfd,Zfe,Zfh,Zfn,Zfq,Ziu,Ziv,Ziw,Zi6,Zjh,Zji,Zjn,Zjq,Zj7,Zka,Zkv,Zkx,Zlz,Zl2,Zna,Znb,Zne,Znn,Zno,Znp,Zo7,eq_self,true_and,and_true,hw]
          tactic =>
          unfold NextL; refine ⟨(k - 1), [(0, 0), (1, 1)], _, by omega, ⟨i + 1, by omega, rfl⟩, wkA ?_⟩
          rw [e0, e1]
          sym =>
          simp [Za2,Za3,Zez,Zfc,Znr,Zpa,Zpc,Zpd,Zpg,Zpi,Zpu,Zqb,Zqc,Zqf,Zqg,Zqh,Zqi,Zqk,Zql,Zqm,Zqn,eq_self,and_true]
        · have e1 : ak1R t off f c r = c := by simp [ak1R, p3]
          sym =>
          simp [Zaa,Zab,Zae,Zaf,Zal,Zam,Zap,Zav,Zaz,Za0,Za1,Za2,Za3,Za4,Za5,Za9,Zba,Zbb,Zbc,Zbe,Zbf,Zbg,Zbu,Zbw,Zb2,Zc7,Zc8,Zdj,Zdk,Zdo,Zdp,Zdq,Zdr,Zdt,Zdu,Zdv,Zdw,Zdx,Zdy,Zd0,Zd1,Zd2,Zeb,Zee,Zev,Zew,Zex,Zez,Ze0,Ze2,Ze5,Zfd,Zfe,Zfh,Zfi,Zfl,Zfn,Zfq,Zf4,Zgr,Zgu,Zgw,Zgy,Zg4,Zg6,Zho,Zjw,Zlz,Zm6,Zna,Znb,Zne,Zns,Znt,Znw,Zo7,Zo9,eq_self,true_and,and_true,Nat.add_zero,p2,p3,hw,h1,h0,h2,cR_length]
          tactic =>
          and_intros <;> try (first | omega | rfl | assumption | exact cJ_okF _ | exact cJ_okI _ | exact cR_okI _ | simp only [IN]; omega)
          unfold NextL; refine ⟨(k - 1), [(0, 0), (1, 1)], _, by omega, ⟨i + 1, by omega, rfl⟩, wkA ?_⟩
          rw [e0, e1]
          sym =>
          simp [Za2,Za3,Zez,Zfc,Znr,Zpa,Zpc,Zpd,Zpg,Zpi,Zpu,Zqb,Zqc,Zqf,Zqg,Zqh,Zqi,Zqk,Zql,Zqm,Zqn,eq_self,and_true]
      · have p2 : plF t r.2 = false := by simpa using p2
        have e1 : ak1R t off f c r = c := by simp [ak1R, p2]
        sym =>
        simp [Zaa,Zab,Zae,Zaf,Zal,Zam,Zap,Zav,Zaz,Za0,Za1,Za2,Za3,Za4,Za5,Za9,Zba,Zbb,Zbc,Zbe,Zbf,Zc7,Zc8,Zdj,Zdk,Zdo,Zdp,Zdq,Zdr,Zds,Zdt,Zdu,Zdv,Zdw,Zdx,Zdy,Zd0,Zd1,Zd2,Zev,Zew,Zex,Zez,Ze0,Ze2,Zfd,Zfe,Zfh,Zfi,Zfk,Zfl,Zfn,Zfq,Zjw,Zlz,Zna,Znb,Zne,Zo7,eq_self,true_and,and_true,p2,hw]
        tactic =>
        unfold NextL; refine ⟨(k - 1), [(0, 0), (1, 1)], _, by omega, ⟨i + 1, by omega, rfl⟩, wkA ?_⟩
        rw [e0, e1]
        sym =>
        simp [Za2,Za3,Zez,Zfc,Znr,Zpa,Zpc,Zpd,Zpg,Zpi,Zpu,Zqb,Zqc,Zqf,Zqg,Zqh,Zqi,Zqk,Zql,Zqm,Zqn,eq_self,and_true]
    · have p1 : plF t r.1 = false := by simpa using p1
      have e1 : ak1R t off f c r = c := by simp [ak1R, p1]
      sym =>
      simp [Zaa,Zab,Zae,Zaf,Zal,Zam,Zap,Zav,Zaz,Za0,Za1,Za2,Za3,Za4,Za5,Za9,Zba,Zbb,Zbc,Zbe,Zbf,Zc7,Zc8,Zdj,Zdk,Zdo,Zdp,Zdq,Zdr,Zds,Zdt,Zdu,Zdv,Zdw,Zdx,Zdy,Zd0,Zd1,Zd2,Zev,Zew,Zex,Zez,Ze0,Ze2,Zfd,Zfe,Zfh,Zfi,Zfk,Zfn,Zfq,Zjw,Zlz,Zna,Znb,Zne,Zo7,eq_self,true_and,and_true,p1,hw]
      tactic =>
      unfold NextL; refine ⟨(k - 1), [(0, 0), (1, 1)], _, by omega, ⟨i + 1, by omega, rfl⟩, wkA ?_⟩
      rw [e0, e1]
      sym =>
      simp [Za2,Za3,Zez,Zfc,Znr,Zpa,Zpc,Zpd,Zpg,Zpi,Zpu,Zqb,Zqc,Zqf,Zqg,Zqh,Zqi,Zqk,Zql,Zqm,Zqn,eq_self,and_true]
  have et : l.take i = l := List.take_of_length_le (by omega)
  rw [et] at hai ⊢
  have hR := ri_of h (hak l)
  generalize akR t off f cm l = C at *
  sym =>
  simp [Zab,Zad,Zae,Zaf,Zag,Zah,Zai,Zam,Zan,Zaq,Zaw,Zay,Zaz,Za0,Za1,Za2,Za3,Za4,Za5,Za9,Zba,Zbb,Zbf,Zcn,Zev,Zew,Zez,Ze0,Ze2,Ze5,Zfd,Zfe,Zfh,Zfn,Zf1,Zh6,Zh7,Zna,Znb,Znt,Zo7,Zo9,eq_self,true_and,h1]
  tactic =>
  clear hi h1 et
  refine lpA (i82b t f was ou C) ou.length [(0, 0), (1, 1)] _ ⟨0, by omega, rfl⟩ (wkA ?_) ?_
  · sym =>
    simp [Za2,Za3,Zez,Zfb,Zfc,Znr,Zn5,Zpa,Zpc,Zpd,Zpg,Zpr,Zpu,Zqb,Zqc,Zqf,Zqg,Zqh,Zqi,Zqj,Zqk,Zql,Zqm,Zqn,eq_self,true_and,and_true]
    tactic =>
    exact ⟨rfl, rfl⟩
  rintro k q ⟨i, hi, rfl⟩
  have hfl : ((ou.take i).filter fun a => !cmF f C a).length ≤ i := Nat.le_trans (List.length_filter_le _ _) (by simp; omega)
  by_cases h1 : i < ou.length
  · have hw := w64s i (by omega)
    have h0 := cJ_get ou i h1
    have et : (ou.take (i + 1)).filter (fun a => !cmF f C a) = (ou.take i).filter (fun a => !cmF f C a) ++ [ou[i]].filter (fun a => !cmF f C a) := by rw [take_one ou i h1, List.filter_append]
    generalize (ou.take i).filter (fun a => !cmF f C a) = F at *
    sym =>
    simp [Zaa,Zab,Zac,Zad,Zae,Zaf,Zag,Zal,Zam,Zaz,Za0,Za1,Za2,Za3,Za4,Za5,Za9,Zba,Zbb,Zbc,Zbf,Zbt,Zbu,Zbv,Zbw,Zb2,Zcn,Zc7,Zc8,Zdf,Zdg,Zdh,Zdp,Zdt,Zdu,Zdv,Zdw,Zdx,Zdy,Zdz,Zd0,Zd1,Zd2,Zd3,Zeb,Zec,Zee,Zek,Zen,Zeq,Zer,Zes,Zet,Zev,Zew,Zez,Ze0,Ze2,Ze5,Ze8,Zfc,Zfd,Zfe,Zfh,Zfn,Zf1,Zgr,Zgs,Zgt,Zgu,Zgv,Zgw,Zgx,Zg4,Zg6,Zho,Zh6,Zh7,Zla,Zlb,Zlc,Zld,Zle,Zlf,Zlh,Zlj,Zlk,Zlm,Zm5,Zm6,Zm7,Zm9,Zna,Znb,Zne,Znf,Zng,Zns,Znt,Znw,Zo7,Zo8,eq_self,true_and,and_true,not_false_eq_true,Nat.mul_one,h1,h0,cJ_length,callable_83]
    tactic =>
    and_intros <;> try (first | omega | rfl | assumption | exact cJ_okF _ | exact cJ_okI _ | exact cR_okI _ | simp only [IN]; omega)
    generalize ou[i] = a at *
    refine cl none (came_con t f C ou a (by omega)) trivial ?_
    by_cases h3 : cmF f C a = true
    · have e1 : [a].filter (fun a => !cmF f C a) = [] := by simp [h3]
      rw [e1, List.append_nil] at et
      sym =>
      simp [Zaa,Zab,Zae,Zaf,Zal,Zam,Zap,Zav,Zaz,Za0,Za1,Za2,Za3,Za4,Za5,Za9,Zba,Zbb,Zbf,Zbk,Zc7,Zc8,Zdj,Zdk,Zdo,Zdp,Zdt,Zdu,Zdv,Zd0,Zd1,Zd2,Zev,Zew,Zez,Ze0,Ze2,Zfd,Zfe,Zfh,Zfn,Zfq,Zgd,Zgg,Zjw,Zlz,Zna,Znb,Zne,Zo3,Zo7,eq_self,true_and,and_true,h3,hw,h1,h0,cJ_length]
      tactic =>
      unfold NextL; refine ⟨(k - 1), [(0, 0), (1, 1), (2, 2)], _, by omega, ⟨i + 1, by omega, rfl⟩, wkA ?_⟩
      rw [et]
      sym =>
      simp [Za2,Za3,Zez,Zfc,Znr,Zpa,Zpc,Zpd,Zpg,Zpo,Zpu,Zqb,Zqc,Zqf,Zqg,Zqh,Zqi,Zqk,Zql,Zqm,Zqn,eq_self,true_and,and_true]
      tactic =>
      exact rs_self (cJ_okI _)
    · have h3 : cmF f C a = false := by simpa using h3
      have e1 : [a].filter (fun a => !cmF f C a) = [a] := by simp [h3]
      rw [e1] at et
      sym =>
      simp [Zab,Zae,Zaf,Zal,Zam,Zap,Zav,Zaz,Za0,Za1,Za2,Za3,Za4,Za5,Za9,Zba,Zbb,Zbf,Zbk,Zbt,Zbv,Zb1,Zcz,Zc5,Zc7,Zc8,Zdj,Zdk,Zdo,Zdp,Zdt,Zdu,Zdv,Zd0,Zd1,Zd2,Zev,Zew,Zez,Ze0,Ze2,Ze3,Ze4,Ze5,Ze8,Zfc,Zfd,Zfe,Zff,Zfg,Zfh,Zfn,Zfq,Zgd,Zgg,Zgr,Zgs,Zgt,Zgu,Zgv,Zgw,Zgx,Zg4,Zg6,Zhf,Zhg,Zhh,Zho,Ziq,Zir,Zix,Ziz,Zi0,Zi2,Zi3,Zi7,Zjj,Zjk,Zjo,Zjw,Zlz,Zm6,Zm9,Zna,Znb,Zne,Znh,Znl,Znm,Znn,Zno,Znp,Zns,Znt,Znw,Zo4,Zo7,eq_self,true_and,and_true,Nat.mul_one,h3,hw,h1,h0,cJ_length]
      tactic =>
      refine ⟨by omega, by omega, ⟨by omega, by omega, by omega⟩, ?_⟩
      unfold NextL; refine ⟨(k - 1), [(0, 0), (1, 1), (2, 23)], _, by omega, ⟨i + 1, by omega, rfl⟩, wkA ?_⟩
      rw [et]
      sym =>
      simp [Za2,Za3,Zez,Zfc,Zna,Znb,Znr,Zpa,Zpc,Zpd,Zpg,Zpo,Zpu,Zqb,Zqc,Zqf,Zqg,Zqh,Zqi,Zqk,Zql,Zqm,Zqn,List.length_append,eq_self,true_and,and_true,cJ_append]
      tactic =>
      exact rs_self (show okI (cJ F ++ cJ [a]) from by rw [← cJ_append]; exact cJ_okI _)
  · have et : ou.take i = ou := List.take_of_length_le (by omega)
    rw [et] at hfl ⊢
    generalize hF : ou.filter (fun a => !cmF f C a) = F at *
    have hRF : RI t f C F := ⟨hR.ht, hR.hf, hR.hc, fun a ha => hR.ho a (by rw [← hF] at ha; exact (List.mem_filter.1 ha).1), hR.lc, by omega⟩
    sym =>
    simp [Zab,Zac,Zad,Zae,Zaf,Zai,Zam,Zan,Zaq,Zaw,Zaz,Za0,Za1,Za2,Za3,Za4,Za5,Za9,Zba,Zbb,Zbf,Zbt,Zbu,Zbv,Zcn,Zc3,Zc7,Zc8,Zdf,Zdg,Zdh,Zdp,Zdt,Zdu,Zdv,Zdw,Zdx,Zdy,Zdz,Zd0,Zd1,Zd3,Zec,Zei,Zek,Zen,Zeq,Zer,Zes,Zet,Zev,Zew,Zez,Ze0,Ze1,Ze2,Ze3,Ze5,Ze8,Zfc,Zfd,Zfe,Zfh,Zfn,Zf1,Zgr,Zgs,Zgt,Zgv,Zgw,Zgx,Zh6,Zh7,Ziu,Ziv,Ziw,Zje,Zjg,Zjh,Zji,Zkl,Zla,Zlb,Zlc,Zld,Zle,Zlf,Zlh,Zlk,Zlm,Zlv,Zlx,Zm5,Zm6,Zm7,Zm9,Zna,Znb,Znc,Zne,Znf,Zng,Znh,Znn,Zno,Znp,Znr,Znt,Zo7,Zo9,eq_self,true_and,and_true,Nat.zero_add,Nat.mul_one,h1,callable_44]
    tactic =>
    refine ⟨⟨by rw [cJ_length]; exact Nat.le_refl _, cJ_okI _⟩, ?_⟩
    rw [cJ_all]
    refine cl none (rleft_con t f C F hRF) trivial ?_
    sym =>
    simp [Zak,Zam,Zaz,Za0,Za1,Za2,Za3,Zbc,Zbg,Zc4,Zc7,Zc8,Zc9,Zdj,Zdk,Zdo,Zdp,Zdt,Zdu,Zdv,Zdw,Zdx,Zdy,Zdz,Zd0,Zd1,Zd2,Zd3,Zec,Zei,Zek,Zen,Zer,Zes,Zev,Zez,Ze0,Ze1,Ze2,Ze3,Ze5,Zfc,Zfd,Zfe,Zfh,Zfn,Zf1,Ziu,Ziv,Ziw,Zi6,Zjh,Zji,Zjn,Zjr,Zj7,Zkl,Zlz,Zmt,Zmv,Zmw,Zmx,Zmy,Zmz,Zm0,Zm1,Zm3,Zm5,Zm7,Zm9,Zna,Znb,Znc,Znd,Zne,Znn,Zno,Znp,Znr,Zo7,eq_self,true_and,and_true]
    tactic =>
    refine endA ?_
    sym =>
    simp [Zfc,Znh,Zpa,Zpb,Zpg,Zpy,Zp1,Zp2,Zp7,Zp9,Zqb,Zqc,Zqd,Zqe,eq_self,true_and,and_true,Nat.zero_add,Nat.mul_one]
    tactic =>
    exact ⟨(cJ_all F).symm, by rw [cJ_length]; exact Nat.le_refl _, cJ_okI _⟩
end Go.Proofs.Ytbmdahhhgpbchaa.OpD
