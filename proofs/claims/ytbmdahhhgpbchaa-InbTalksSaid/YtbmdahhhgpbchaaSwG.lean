import Derived.Test.YtbmdahhhgpbchaaSwF
namespace Go.Proofs.Ytbmdahhhgpbchaa.SwG
open Go Go.Sim Go.Sim.E Go.RowKit Go.Proofs Go.Proofs.Ytbmdahhhgpbchaa.Cod Go.Proofs.Ytbmdahhhgpbchaa.Tab Go.Proofs.Ytbmdahhhgpbchaa.Bse Go.Proofs.Ytbmdahhhgpbchaa.SpnP Go.Proofs.Ytbmdahhhgpbchaa.SwA Go.Proofs.Ytbmdahhhgpbchaa.SwB Go.Proofs.Ytbmdahhhgpbchaa.SwC Go.Proofs.Ytbmdahhhgpbchaa.SwS Go.Proofs.Ytbmdahhhgpbchaa.SwD Go.Proofs.Ytbmdahhhgpbchaa.SwF
set_option linter.unusedVariables false
set_option linter.unusedSimpArgs false
set_option maxRecDepth 100000
set_option maxHeartbeats 4000000
theorem done_con (t : Int) (s o : List Rg) (hs : s.length < 1000000) : Con Try.prog 76 [] [wV t s o] [] (Bo (decide (lfF t s = 0))) := by
  refine con_j b76 rfl ?_
  sym =>
  simp [Zab,Zad,Zam,Zaz,Za0,Za1,Za2,Za3,Za4,Za5,Za9,Zba,Zbb,Zbt,Zcx,Zdc,Zdd,Zde,Zev,Zew,Zez,Ze0,Ze2,Ze3,Ze5,Ze8,Zfc,Zfd,Zfe,Zfh,Zgr,Zgs,Zgt,Zio,Zip,Zi6,Zla,Zlb,Zlc,Zld,Zle,Zlf,Zlh,Zlk,Zlm,Zm5,Zm7,Zm9,Zna,Znb,Zne,Znf,Zng,Zos,Zot,Zo7,eq_self,true_and,and_true,callable_110]
  tactic =>
  refine cl none (left_con' t s o hs) trivial ?_
  sym =>
  simp [Zak,Zam,Zaz,Za0,Za1,Za2,Za3,Za4,Za5,Za9,Zba,Zbb,Zbf,Zdi,Zev,Zew,Zez,Ze0,Ze2,Zfd,Zfe,Zfh,Zfn,Zfz,Zjr,Zlz,Zmt,Zmv,Zmw,Zmx,Zmz,Zm2,Zo7,eq_self,true_and]
  tactic =>
  refine endA ?_
  sym =>
  simp [Zpc,eq_self]
theorem new_yes (t n : Int) (h1 : ¬ t < 0) (h2 : ¬ 1099511627776 < t) (h3 : plF t n = true) : Con Try.prog 66 [] [I t, I n] [] (.tu [wV t (addS [] 0 n) [], I 0]) := by
  refine con_j b66 rfl ?_
  sym =>
  simp [Zab,Zad,Zam,Zaz,Za0,Za1,Za2,Za3,Za4,Za5,Za6,Za7,Za9,Zba,Zbb,Zbd,Zbf,Zbt,Zb9,Zcv,Zc3,Zdc,Zdd,Zde,Zev,Zew,Zex,Zez,Ze0,Ze1,Ze2,Ze3,Ze5,Ze8,Zfc,Zfd,Zfe,Zfh,Zfi,Zfl,Zfn,Zf1,Zf3,Zgr,Zgs,Zgt,Zhd,Zhe,Zhf,Zhg,Zhh,Zin,Ziu,Ziv,Ziw,Zi6,Zi7,Zjh,Zji,Zjn,Zj2,Zla,Zlb,Zlc,Zld,Zle,Zlf,Zlh,Zlj,Zlk,Zls,Zm5,Zm7,Zm9,Zna,Znb,Zne,Znf,Zng,Znn,Zno,Znp,Zos,Zot,Zo7,Zo9,eq_self,true_and,and_true,h1,h2,callable_105]
  tactic =>
  refine cl none (place_con t n [] []) trivial ?_
  sym =>
  simp [Zaa,Zab,Zad,Zae,Zaf,Zal,Zam,Zaz,Za0,Za1,Za2,Za3,Za4,Za5,Za6,Za7,Za9,Zba,Zbb,Zbd,Zbj,Zbt,Zbv,Zdc,Zdd,Zde,Zdi,Zev,Zew,Zex,Zez,Ze0,Ze2,Ze5,Ze8,Zfc,Zfd,Zfe,Zfh,Zfi,Zfl,Zgd,Zgg,Zgr,Zgs,Zgt,Zgv,Zgw,Zgx,Zjw,Zla,Zlb,Zlc,Zld,Zle,Zlf,Zlh,Zlj,Zls,Zlz,Zm5,Zm7,Zm9,Zna,Znb,Zne,Znf,Zng,Zo3,Zo7,eq_self,true_and,and_true,h3,callable_104]
  tactic =>
  refine cl none (adds_con [] (by simp) 0 n) trivial ?_
  sym =>
  simp [Zab,Zad,Zak,Zam,Zaz,Za0,Za1,Za2,Za3,Za4,Za5,Za9,Zba,Zbb,Zbt,Zbv,Zc3,Zdi,Zev,Zew,Zez,Ze0,Ze1,Ze2,Ze3,Ze5,Ze8,Zfc,Zfd,Zfe,Zfh,Zgr,Zgs,Zgt,Zgv,Zgw,Zgx,Ziu,Ziv,Ziw,Zi6,Zjh,Zji,Zjn,Zj2,Zj7,Zka,Zkv,Zkx,Zlz,Zl2,Zmt,Zmv,Zmw,Zmx,Zmy,Zmz,Zm0,Zm1,Zm3,Zm5,Zm7,Zm9,Zna,Znb,Znn,Zno,Znp,Zo7,eq_self,true_and,and_true]
  tactic =>
  refine endA ?_
  sym =>
  simp [Zpa,Zpb,Zpg,Zpv,Zp7,Zp9,Zqb,Zqc,Zqd,Zqe,eq_self,true_and,and_true]
  tactic =>
  rfl
theorem lim_id {n : Int} (h : 0 ≤ n) (h2 : n ≤ 4611686018427387904) : lim n = n := by unfold lim; omega
theorem segG_from (t e : Int) : ∀ (k : Nat) (a : Int), ∀ r ∈ segG t e k a, a ≤ r.1 ∧ r.1 < e ∧ r.2 = min (r.1 + 256) t := by
  intro k
  induction k with
  | zero => intro a r hr; cases hr
  | succ k ih =>
    intro a r hr
    unfold segG at hr
    split at hr
    · rcases List.mem_cons.1 hr with rfl | hr
      · exact ⟨Int.le_refl _, by assumption, rfl⟩
      · have := ih _ r hr; omega
    · cases hr
end Go.Proofs.Ytbmdahhhgpbchaa.SwG
