import Derived.Test.YtnfgnafphfddhaaSwF
namespace Go.Proofs.Ytnfgnafphfddhaa.SwG
open Go Go.Sim Go.Sim.E Go.RowKit Go.Proofs Go.Proofs.Ytnfgnafphfddhaa.Cod Go.Proofs.Ytnfgnafphfddhaa.Tab Go.Proofs.Ytnfgnafphfddhaa.SpnP Go.Proofs.Ytnfgnafphfddhaa.SwA Go.Proofs.Ytnfgnafphfddhaa.SwB Go.Proofs.Ytnfgnafphfddhaa.SwC Go.Proofs.Ytnfgnafphfddhaa.SwS Go.Proofs.Ytnfgnafphfddhaa.SwD Go.Proofs.Ytnfgnafphfddhaa.SwF
set_option linter.unusedVariables false
set_option linter.unusedSimpArgs false
set_option maxRecDepth 100000
set_option maxHeartbeats 4000000
theorem done_con (t : Int) (s o : List Rg) (hs : s.length < 1000000) : Con Try.prog 55 [] [wV t s o] [] (Bo (decide (lfF t s = 0))) := by
  refine con_j b55 rfl ?_
  sym =>
  simp [Zab,Zad,Zak,Zam,Zaz,Za0,Za1,Za2,Za3,Za4,Za5,Za9,Zba,Zbb,Zbf,Zbt,Zcx,Zdc,Zdd,Zde,Zdi,Zev,Zew,Zez,Ze0,Ze2,Ze3,Ze5,Ze8,Zfc,Zfd,Zfe,Zfh,Zfn,Zfz,Zgr,Zgs,Zgt,Zio,Zip,Zi6,Zjr,Zla,Zlb,Zlc,Zld,Zle,Zlf,Zlh,Zlk,Zlm,Zlz,Zmt,Zmv,Zmw,Zmx,Zmz,Zm2,Zm5,Zm7,Zm9,Zna,Znb,Zne,Znf,Zng,Zos,Zot,Zo7,Zpc,eq_self,true_and,and_true,callable_59]
  tactic =>
  refine cl none (left_con' t s o hs) trivial ?_
  sym =>
  simp [Zab,Zad,Zak,Zam,Zaz,Za0,Za1,Za2,Za3,Za4,Za5,Za9,Zba,Zbb,Zbf,Zbt,Zcx,Zdc,Zdd,Zde,Zdi,Zev,Zew,Zez,Ze0,Ze2,Ze3,Ze5,Ze8,Zfc,Zfd,Zfe,Zfh,Zfn,Zfz,Zgr,Zgs,Zgt,Zio,Zip,Zi6,Zjr,Zla,Zlb,Zlc,Zld,Zle,Zlf,Zlh,Zlk,Zlm,Zlz,Zmt,Zmv,Zmw,Zmx,Zmz,Zm2,Zm5,Zm7,Zm9,Zna,Znb,Zne,Znf,Zng,Zos,Zot,Zo7,Zpc,eq_self,true_and,and_true]
  tactic =>
  refine endA ?_
  sym =>
  simp [Zab,Zad,Zak,Zam,Zaz,Za0,Za1,Za2,Za3,Za4,Za5,Za9,Zba,Zbb,Zbf,Zbt,Zcx,Zdc,Zdd,Zde,Zdi,Zev,Zew,Zez,Ze0,Ze2,Ze3,Ze5,Ze8,Zfc,Zfd,Zfe,Zfh,Zfn,Zfz,Zgr,Zgs,Zgt,Zio,Zip,Zi6,Zjr,Zla,Zlb,Zlc,Zld,Zle,Zlf,Zlh,Zlk,Zlm,Zlz,Zmt,Zmv,Zmw,Zmx,Zmz,Zm2,Zm5,Zm7,Zm9,Zna,Znb,Zne,Znf,Zng,Zos,Zot,Zo7,Zpc,eq_self,true_and,and_true]
theorem new_no (t n : Int) (h : t < 0 ∨ 1099511627776 < t ∨ plF t n = false) : Con Try.prog 51 [] [I t, I n] [] (.tu [wV 0 [] [], I 1]) := by
  refine con_j b51 rfl ?_
  by_cases h1 : t < 0
  · sym =>
    simp [Zab,Zad,Zae,Zaf,Zak,Zal,Zam,Zao,Zaz,Za0,Za1,Za2,Za3,Za4,Za5,Za6,Za7,Za8,Za9,Zba,Zbb,Zbd,Zbf,Zbj,Zbt,Zb9,Zcv,Zc3,Zdc,Zdd,Zde,Zdi,Zev,Zew,Zex,Zez,Ze0,Ze1,Ze2,Ze3,Ze5,Ze8,Zfc,Zfd,Zfe,Zfh,Zfi,Zfj,Zfl,Zfn,Zf1,Zf3,Zgd,Zgg,Zgr,Zgs,Zgt,Zhd,Zhe,Zhf,Zhg,Zhh,Zin,Ziu,Ziv,Ziw,Zi6,Zi7,Zjh,Zji,Zjn,Zjw,Zj2,Zla,Zlb,Zlc,Zld,Zle,Zlf,Zlh,Zlj,Zlk,Zls,Zlz,Zmt,Zmv,Zmw,Zmx,Zmy,Zmz,Zm0,Zm1,Zm3,Zm5,Zm7,Zm9,Zna,Znb,Zne,Znf,Zng,Znn,Zno,Znp,Zos,Zot,Zo4,Zo6,Zo7,Zo8,Zo9,Zpa,Zpb,Zpv,Zp7,Zp9,Zqb,Zqc,Zqd,Zqe,eq_self,true_and,and_true,h1]
    tactic =>
    refine endA ?_
    sym =>
    simp [Zab,Zad,Zae,Zaf,Zak,Zal,Zam,Zao,Zaz,Za0,Za1,Za2,Za3,Za4,Za5,Za6,Za7,Za8,Za9,Zba,Zbb,Zbd,Zbf,Zbj,Zbt,Zb9,Zcv,Zc3,Zdc,Zdd,Zde,Zdi,Zev,Zew,Zex,Zez,Ze0,Ze1,Ze2,Ze3,Ze5,Ze8,Zfc,Zfd,Zfe,Zfh,Zfi,Zfj,Zfl,Zfn,Zf1,Zf3,Zgd,Zgg,Zgr,Zgs,Zgt,Zhd,Zhe,Zhf,Zhg,Zhh,Zin,Ziu,Ziv,Ziw,Zi6,Zi7,Zjh,Zji,Zjn,Zjw,Zj2,Zla,Zlb,Zlc,Zld,Zle,Zlf,Zlh,Zlj,Zlk,Zls,Zlz,Zmt,Zmv,Zmw,Zmx,Zmy,Zmz,Zm0,Zm1,Zm3,Zm5,Zm7,Zm9,Zna,Znb,Zne,Znf,Zng,Znn,Zno,Znp,Zos,Zot,Zo4,Zo6,Zo7,Zo8,Zo9,Zpa,Zpb,Zpv,Zp7,Zp9,Zqb,Zqc,Zqd,Zqe,eq_self,true_and,and_true]
    tactic =>
    exact ⟨rfl, rfl⟩
  · by_cases h2 : 1099511627776 < t
    · sym =>
      simp [Zab,Zad,Zae,Zaf,Zak,Zal,Zam,Zao,Zaz,Za0,Za1,Za2,Za3,Za4,Za5,Za6,Za7,Za8,Za9,Zba,Zbb,Zbd,Zbf,Zbj,Zbt,Zb9,Zcv,Zc3,Zdc,Zdd,Zde,Zdi,Zev,Zew,Zex,Zez,Ze0,Ze1,Ze2,Ze3,Ze5,Ze8,Zfc,Zfd,Zfe,Zfh,Zfi,Zfj,Zfl,Zfn,Zf1,Zf3,Zgd,Zgg,Zgr,Zgs,Zgt,Zhd,Zhe,Zhf,Zhg,Zhh,Zin,Ziu,Ziv,Ziw,Zi6,Zi7,Zjh,Zji,Zjn,Zjw,Zj2,Zla,Zlb,Zlc,Zld,Zle,Zlf,Zlh,Zlj,Zlk,Zls,Zlz,Zmt,Zmv,Zmw,Zmx,Zmy,Zmz,Zm0,Zm1,Zm3,Zm5,Zm7,Zm9,Zna,Znb,Zne,Znf,Zng,Znn,Zno,Znp,Zos,Zot,Zo4,Zo6,Zo7,Zo8,Zo9,Zpa,Zpb,Zpv,Zp7,Zp9,Zqb,Zqc,Zqd,Zqe,eq_self,true_and,and_true,h1,h2]
      tactic =>
      refine endA ?_
      sym =>
      simp [Zab,Zad,Zae,Zaf,Zak,Zal,Zam,Zao,Zaz,Za0,Za1,Za2,Za3,Za4,Za5,Za6,Za7,Za8,Za9,Zba,Zbb,Zbd,Zbf,Zbj,Zbt,Zb9,Zcv,Zc3,Zdc,Zdd,Zde,Zdi,Zev,Zew,Zex,Zez,Ze0,Ze1,Ze2,Ze3,Ze5,Ze8,Zfc,Zfd,Zfe,Zfh,Zfi,Zfj,Zfl,Zfn,Zf1,Zf3,Zgd,Zgg,Zgr,Zgs,Zgt,Zhd,Zhe,Zhf,Zhg,Zhh,Zin,Ziu,Ziv,Ziw,Zi6,Zi7,Zjh,Zji,Zjn,Zjw,Zj2,Zla,Zlb,Zlc,Zld,Zle,Zlf,Zlh,Zlj,Zlk,Zls,Zlz,Zmt,Zmv,Zmw,Zmx,Zmy,Zmz,Zm0,Zm1,Zm3,Zm5,Zm7,Zm9,Zna,Znb,Zne,Znf,Zng,Znn,Zno,Znp,Zos,Zot,Zo4,Zo6,Zo7,Zo8,Zo9,Zpa,Zpb,Zpv,Zp7,Zp9,Zqb,Zqc,Zqd,Zqe,eq_self,true_and,and_true]
      tactic =>
      exact ⟨rfl, rfl⟩
    · have h3 : plF t n = false := by
        rcases h with h | h | h
        · exact absurd h h1
        · exact absurd h h2
        · exact h
      sym =>
      simp [Zab,Zad,Zae,Zaf,Zak,Zal,Zam,Zao,Zaz,Za0,Za1,Za2,Za3,Za4,Za5,Za6,Za7,Za8,Za9,Zba,Zbb,Zbd,Zbf,Zbj,Zbt,Zb9,Zcv,Zc3,Zdc,Zdd,Zde,Zdi,Zev,Zew,Zex,Zez,Ze0,Ze1,Ze2,Ze3,Ze5,Ze8,Zfc,Zfd,Zfe,Zfh,Zfi,Zfj,Zfl,Zfn,Zf1,Zf3,Zgd,Zgg,Zgr,Zgs,Zgt,Zhd,Zhe,Zhf,Zhg,Zhh,Zin,Ziu,Ziv,Ziw,Zi6,Zi7,Zjh,Zji,Zjn,Zjw,Zj2,Zla,Zlb,Zlc,Zld,Zle,Zlf,Zlh,Zlj,Zlk,Zls,Zlz,Zmt,Zmv,Zmw,Zmx,Zmy,Zmz,Zm0,Zm1,Zm3,Zm5,Zm7,Zm9,Zna,Znb,Zne,Znf,Zng,Znn,Zno,Znp,Zos,Zot,Zo4,Zo6,Zo7,Zo8,Zo9,Zpa,Zpb,Zpv,Zp7,Zp9,Zqb,Zqc,Zqd,Zqe,eq_self,true_and,and_true,h1,h2,callable_79]
      tactic =>
      refine cl none (place_con t n [] []) trivial ?_
      sym =>
      simp [Zab,Zad,Zae,Zaf,Zak,Zal,Zam,Zao,Zaz,Za0,Za1,Za2,Za3,Za4,Za5,Za6,Za7,Za8,Za9,Zba,Zbb,Zbd,Zbf,Zbj,Zbt,Zb9,Zcv,Zc3,Zdc,Zdd,Zde,Zdi,Zev,Zew,Zex,Zez,Ze0,Ze1,Ze2,Ze3,Ze5,Ze8,Zfc,Zfd,Zfe,Zfh,Zfi,Zfj,Zfl,Zfn,Zf1,Zf3,Zgd,Zgg,Zgr,Zgs,Zgt,Zhd,Zhe,Zhf,Zhg,Zhh,Zin,Ziu,Ziv,Ziw,Zi6,Zi7,Zjh,Zji,Zjn,Zjw,Zj2,Zla,Zlb,Zlc,Zld,Zle,Zlf,Zlh,Zlj,Zlk,Zls,Zlz,Zmt,Zmv,Zmw,Zmx,Zmy,Zmz,Zm0,Zm1,Zm3,Zm5,Zm7,Zm9,Zna,Znb,Zne,Znf,Zng,Znn,Zno,Znp,Zos,Zot,Zo4,Zo6,Zo7,Zo8,Zo9,Zpa,Zpb,Zpv,Zp7,Zp9,Zqb,Zqc,Zqd,Zqe,eq_self,true_and,and_true,h3]
      tactic =>
      refine endA ?_
      sym =>
      simp [Zab,Zad,Zae,Zaf,Zak,Zal,Zam,Zao,Zaz,Za0,Za1,Za2,Za3,Za4,Za5,Za6,Za7,Za8,Za9,Zba,Zbb,Zbd,Zbf,Zbj,Zbt,Zb9,Zcv,Zc3,Zdc,Zdd,Zde,Zdi,Zev,Zew,Zex,Zez,Ze0,Ze1,Ze2,Ze3,Ze5,Ze8,Zfc,Zfd,Zfe,Zfh,Zfi,Zfj,Zfl,Zfn,Zf1,Zf3,Zgd,Zgg,Zgr,Zgs,Zgt,Zhd,Zhe,Zhf,Zhg,Zhh,Zin,Ziu,Ziv,Ziw,Zi6,Zi7,Zjh,Zji,Zjn,Zjw,Zj2,Zla,Zlb,Zlc,Zld,Zle,Zlf,Zlh,Zlj,Zlk,Zls,Zlz,Zmt,Zmv,Zmw,Zmx,Zmy,Zmz,Zm0,Zm1,Zm3,Zm5,Zm7,Zm9,Zna,Znb,Zne,Znf,Zng,Znn,Zno,Znp,Zos,Zot,Zo4,Zo6,Zo7,Zo8,Zo9,Zpa,Zpb,Zpv,Zp7,Zp9,Zqb,Zqc,Zqd,Zqe,eq_self,true_and,and_true]
      tactic =>
      exact ⟨rfl, rfl⟩
theorem new_yes (t n : Int) (h1 : ¬ t < 0) (h2 : ¬ 1099511627776 < t) (h3 : plF t n = true) : Con Try.prog 51 [] [I t, I n] [] (.tu [wV t (addS [] 0 n) [], I 0]) := by
  refine con_j b51 rfl ?_
  sym =>
  simp [Zaa,Zab,Zad,Zae,Zaf,Zak,Zal,Zam,Zaz,Za0,Za1,Za2,Za3,Za4,Za5,Za6,Za7,Za9,Zba,Zbb,Zbd,Zbf,Zbj,Zbt,Zbv,Zb9,Zcv,Zc3,Zdc,Zdd,Zde,Zdi,Zev,Zew,Zex,Zez,Ze0,Ze1,Ze2,Ze3,Ze5,Ze8,Zfc,Zfd,Zfe,Zfh,Zfi,Zfl,Zfn,Zf1,Zf3,Zgd,Zgg,Zgr,Zgs,Zgt,Zgv,Zgw,Zgx,Zhd,Zhe,Zhf,Zhg,Zhh,Zin,Ziu,Ziv,Ziw,Zi6,Zi7,Zjh,Zji,Zjn,Zjw,Zj2,Zj7,Zka,Zkv,Zkx,Zla,Zlb,Zlc,Zld,Zle,Zlf,Zlh,Zlj,Zlk,Zls,Zlz,Zl2,Zmt,Zmv,Zmw,Zmx,Zmy,Zmz,Zm0,Zm1,Zm3,Zm5,Zm7,Zm9,Zna,Znb,Zne,Znf,Zng,Znn,Zno,Znp,Zos,Zot,Zo3,Zo7,Zo9,Zpa,Zpb,Zpg,Zpv,Zp7,Zp9,Zqb,Zqc,Zqd,Zqe,eq_self,true_and,and_true,h1,h2,callable_79]
  tactic =>
  refine cl none (place_con t n [] []) trivial ?_
  sym =>
  simp [Zaa,Zab,Zad,Zae,Zaf,Zak,Zal,Zam,Zaz,Za0,Za1,Za2,Za3,Za4,Za5,Za6,Za7,Za9,Zba,Zbb,Zbd,Zbf,Zbj,Zbt,Zbv,Zb9,Zcv,Zc3,Zdc,Zdd,Zde,Zdi,Zev,Zew,Zex,Zez,Ze0,Ze1,Ze2,Ze3,Ze5,Ze8,Zfc,Zfd,Zfe,Zfh,Zfi,Zfl,Zfn,Zf1,Zf3,Zgd,Zgg,Zgr,Zgs,Zgt,Zgv,Zgw,Zgx,Zhd,Zhe,Zhf,Zhg,Zhh,Zin,Ziu,Ziv,Ziw,Zi6,Zi7,Zjh,Zji,Zjn,Zjw,Zj2,Zj7,Zka,Zkv,Zkx,Zla,Zlb,Zlc,Zld,Zle,Zlf,Zlh,Zlj,Zlk,Zls,Zlz,Zl2,Zmt,Zmv,Zmw,Zmx,Zmy,Zmz,Zm0,Zm1,Zm3,Zm5,Zm7,Zm9,Zna,Znb,Zne,Znf,Zng,Znn,Zno,Znp,Zos,Zot,Zo3,Zo7,Zo9,Zpa,Zpb,Zpg,Zpv,Zp7,Zp9,Zqb,Zqc,Zqd,Zqe,eq_self,true_and,and_true,h3,callable_43]
  tactic =>
  refine cl none (adds_con [] (by simp) 0 n) trivial ?_
  sym =>
  simp [Zaa,Zab,Zad,Zae,Zaf,Zak,Zal,Zam,Zaz,Za0,Za1,Za2,Za3,Za4,Za5,Za6,Za7,Za9,Zba,Zbb,Zbd,Zbf,Zbj,Zbt,Zbv,Zb9,Zcv,Zc3,Zdc,Zdd,Zde,Zdi,Zev,Zew,Zex,Zez,Ze0,Ze1,Ze2,Ze3,Ze5,Ze8,Zfc,Zfd,Zfe,Zfh,Zfi,Zfl,Zfn,Zf1,Zf3,Zgd,Zgg,Zgr,Zgs,Zgt,Zgv,Zgw,Zgx,Zhd,Zhe,Zhf,Zhg,Zhh,Zin,Ziu,Ziv,Ziw,Zi6,Zi7,Zjh,Zji,Zjn,Zjw,Zj2,Zj7,Zka,Zkv,Zkx,Zla,Zlb,Zlc,Zld,Zle,Zlf,Zlh,Zlj,Zlk,Zls,Zlz,Zl2,Zmt,Zmv,Zmw,Zmx,Zmy,Zmz,Zm0,Zm1,Zm3,Zm5,Zm7,Zm9,Zna,Znb,Zne,Znf,Zng,Znn,Zno,Znp,Zos,Zot,Zo3,Zo7,Zo9,Zpa,Zpb,Zpg,Zpv,Zp7,Zp9,Zqb,Zqc,Zqd,Zqe,eq_self,true_and,and_true]
  tactic =>
  refine endA ?_
  sym =>
  simp [Zaa,Zab,Zad,Zae,Zaf,Zak,Zal,Zam,Zaz,Za0,Za1,Za2,Za3,Za4,Za5,Za6,Za7,Za9,Zba,Zbb,Zbd,Zbf,Zbj,Zbt,Zbv,Zb9,Zcv,Zc3,Zdc,Zdd,Zde,Zdi,Zev,Zew,Zex,Zez,Ze0,Ze1,Ze2,Ze3,Ze5,Ze8,Zfc,Zfd,Zfe,Zfh,Zfi,Zfl,Zfn,Zf1,Zf3,Zgd,Zgg,Zgr,Zgs,Zgt,Zgv,Zgw,Zgx,Zhd,Zhe,Zhf,Zhg,Zhh,Zin,Ziu,Ziv,Ziw,Zi6,Zi7,Zjh,Zji,Zjn,Zjw,Zj2,Zj7,Zka,Zkv,Zkx,Zla,Zlb,Zlc,Zld,Zle,Zlf,Zlh,Zlj,Zlk,Zls,Zlz,Zl2,Zmt,Zmv,Zmw,Zmx,Zmy,Zmz,Zm0,Zm1,Zm3,Zm5,Zm7,Zm9,Zna,Znb,Zne,Znf,Zng,Znn,Zno,Znp,Zos,Zot,Zo3,Zo7,Zo9,Zpa,Zpb,Zpg,Zpv,Zp7,Zp9,Zqb,Zqc,Zqd,Zqe,eq_self,true_and,and_true]
  tactic =>
  rfl
theorem lim_id {n : Int} (h : 0 ≤ n) (h2 : n ≤ 4611686018427387904) : lim n = n := by unfold lim; omega
theorem segG_from (t e : Int) : ∀ (k : Nat) (a : Int), ∀ r ∈ segG t e k a, a ≤ r.1 ∧ r.1 < e ∧ r.2 = min (r.1 + 256) t := by
  intro k
  induction k with
  | zero => intro a r hr; cases hr
  | succ k ih =>
    intro a r hr
    unfold segG at hr
    split at hr
    · rcases List.mem_cons.1 hr with rfl | hr
      · exact ⟨Int.le_refl _, by assumption, rfl⟩
      · have := ih _ r hr; omega
    · cases hr
abbrev w0 : AV := .ag [I 300, .fz 0 [], .fz 0 []]
abbrev w1 : AV := .ag [I 300, .fz 0 [], .fz 1 [I 0, I 256]]
abbrev w2 : AV := .ag [I 300, .fz 0 [], .fz 1 [I 0, I 300]]
abbrev w3 : AV := .ag [I 300, .fz 1 [I 0, I 256], .fz 1 [I 256, I 300]]
theorem a1 : Con Try.prog 51 [] [I 300, I 0] [] (.tu [w0, I 0]) := new_yes 300 0 (by omega) (by omega) (by decide)
theorem a2 : Con Try.prog 53 [] [w0] [] (.tu [w1, .ag [I 0, I 256], Bo true]) := by
  have := next_con 300 [] [] (by simp) (by simp) (by omega) 0 rfl (by omega) (some (0, 256)) (by decide)
  have e : addS [] 0 256 = [(0, 256)] := by decide
  simp only [nxR, e] at this
  exact this
theorem a3 : Con Try.prog 53 [] [w1] [] (.tu [w2, .ag [I 256, I 300], Bo true]) := by
  have := next_con 300 [] [(0, 256)] (by simp) (by simp) (by omega) 0 rfl (by omega) (some (256, 300)) (by decide)
  have e : addS [(0, 256)] 256 300 = [(0, 300)] := by decide
  simp only [nxR, e] at this
  exact this
theorem a4 : Con Try.prog 54 [] [w2, I 256, .fz 0 []] [] (.tu [w3, Bo true]) := by
  have := ack_yes 300 256 [] [(0, 300)] [] (by simp) (by simp) (by simp) (by omega) 0 rfl (by decide) (by omega) 256 (by decide) (by omega)
  have e : akF 300 256 [] [] = [(0, 256)] := by decide
  have e2 : stF [(0, 256)] [(0, 300)] (segs 300 256) = [(256, 300)] := by decide
  have e3 : decide (lfF 300 [(0, 256)] < lfF 300 []) = true := by decide
  rw [e, e2, e3] at this
  exact this
theorem a5 : Con Try.prog 56 [] [w2] [] (I 2) := by
  have := out_con 300 [] [(0, 300)] (by simp) (by simp) (by omega) 0 rfl (by omega)
  have e : cntF [(0, 300)] (segs 300 0) = 2 := by decide
  rw [e] at this
  exact this
theorem a6 : Con Try.prog 56 [] [w3] [] (I 1) := by
  have := out_con 300 [(0, 256)] [(256, 300)] (by simp) (by simp) (by omega) 256 (by decide) (by omega)
  have e : cntF [(256, 300)] (segs 300 256) = 1 := by decide
  rw [e] at this
  exact this
theorem a7 : Con Try.prog 58 [] [w3] [] (I 256) := by
  have := base_con 300 [(0, 256)] [(256, 300)] (by simp)
  have e : endF (lim 0) [(0, 256)] = 256 := by decide
  rw [e] at this
  exact this
theorem a8 : Con Try.prog 59 [] [w3] [] (I 44) := by
  have := left_con' 300 [(0, 256)] [(256, 300)] (by simp)
  have e : lfF 300 [(0, 256)] = 44 := by decide
  rw [e] at this
  exact this
theorem a9 : Con Try.prog 55 [] [w3] [] (Bo false) := by
  have := done_con 300 [(0, 256)] [(256, 300)] (by simp)
  have e : decide (lfF 300 [(0, 256)] = 0) = false := by decide
  rw [e] at this
  exact this
theorem alive_con : Con Try.prog 52 [] [] [] (Bo true) := by
  refine con_j b52 rfl ?_
  sym =>
  simp [Zab,Zad,Zak,Zam,Zaz,Za0,Za1,Za2,Za3,Za4,Za5,Za6,Za7,Za9,Zba,Zbb,Zbd,Zbf,Zbh,Zbj,Zbt,Zb7,Zb9,Zcv,Zc3,Zdc,Zdd,Zde,Zdi,Zev,Zew,Zex,Zez,Ze0,Ze1,Ze2,Ze3,Ze5,Ze8,Zfc,Zfd,Zfe,Zfh,Zfi,Zfl,Zfn,Zfz,Zga,Zgb,Zgd,Zgg,Zgr,Zgs,Zgt,Zhb,Zhc,Zhd,Zhe,Zhf,Zhg,Zhh,Zin,Ziu,Ziv,Ziw,Zi6,Zi7,Zjh,Zji,Zjn,Zjq,Zjr,Zjw,Zj7,Zka,Zkx,Zky,Zk0,Zk1,Zla,Zlb,Zlc,Zld,Zle,Zlf,Zlh,Zlj,Zlk,Zlm,Zlr,Zlz,Zl2,Zmt,Zmv,Zmw,Zmx,Zmz,Zm2,Zm5,Zm7,Zm9,Zna,Znb,Zne,Znf,Zng,Znn,Zno,Znp,Zok,Zol,Zom,Zor,Zos,Zo4,Zo7,Zo8,Zpc,eq_self,true_and,and_true,callable_51]
  tactic =>
  refine cl none (a1) trivial ?_
  sym =>
  simp [Zab,Zad,Zak,Zam,Zaz,Za0,Za1,Za2,Za3,Za4,Za5,Za6,Za7,Za9,Zba,Zbb,Zbd,Zbf,Zbh,Zbj,Zbt,Zb7,Zb9,Zcv,Zc3,Zdc,Zdd,Zde,Zdi,Zev,Zew,Zex,Zez,Ze0,Ze1,Ze2,Ze3,Ze5,Ze8,Zfc,Zfd,Zfe,Zfh,Zfi,Zfl,Zfn,Zfz,Zga,Zgb,Zgd,Zgg,Zgr,Zgs,Zgt,Zhb,Zhc,Zhd,Zhe,Zhf,Zhg,Zhh,Zin,Ziu,Ziv,Ziw,Zi6,Zi7,Zjh,Zji,Zjn,Zjq,Zjr,Zjw,Zj7,Zka,Zkx,Zky,Zk0,Zk1,Zla,Zlb,Zlc,Zld,Zle,Zlf,Zlh,Zlj,Zlk,Zlm,Zlr,Zlz,Zl2,Zmt,Zmv,Zmw,Zmx,Zmz,Zm2,Zm5,Zm7,Zm9,Zna,Znb,Zne,Znf,Zng,Znn,Zno,Znp,Zok,Zol,Zom,Zor,Zos,Zo4,Zo7,Zo8,Zpc,eq_self,true_and,and_true,callable_53]
  tactic =>
  refine cl none (a2) trivial ?_
  sym =>
  simp [Zab,Zad,Zak,Zam,Zaz,Za0,Za1,Za2,Za3,Za4,Za5,Za6,Za7,Za9,Zba,Zbb,Zbd,Zbf,Zbh,Zbj,Zbt,Zb7,Zb9,Zcv,Zc3,Zdc,Zdd,Zde,Zdi,Zev,Zew,Zex,Zez,Ze0,Ze1,Ze2,Ze3,Ze5,Ze8,Zfc,Zfd,Zfe,Zfh,Zfi,Zfl,Zfn,Zfz,Zga,Zgb,Zgd,Zgg,Zgr,Zgs,Zgt,Zhb,Zhc,Zhd,Zhe,Zhf,Zhg,Zhh,Zin,Ziu,Ziv,Ziw,Zi6,Zi7,Zjh,Zji,Zjn,Zjq,Zjr,Zjw,Zj7,Zka,Zkx,Zky,Zk0,Zk1,Zla,Zlb,Zlc,Zld,Zle,Zlf,Zlh,Zlj,Zlk,Zlm,Zlr,Zlz,Zl2,Zmt,Zmv,Zmw,Zmx,Zmz,Zm2,Zm5,Zm7,Zm9,Zna,Znb,Zne,Znf,Zng,Znn,Zno,Znp,Zok,Zol,Zom,Zor,Zos,Zo4,Zo7,Zo8,Zpc,eq_self,true_and,and_true,callable_53]
  tactic =>
  refine cl none (a3) trivial ?_
  sym =>
  simp [Zab,Zad,Zak,Zam,Zaz,Za0,Za1,Za2,Za3,Za4,Za5,Za6,Za7,Za9,Zba,Zbb,Zbd,Zbf,Zbh,Zbj,Zbt,Zb7,Zb9,Zcv,Zc3,Zdc,Zdd,Zde,Zdi,Zev,Zew,Zex,Zez,Ze0,Ze1,Ze2,Ze3,Ze5,Ze8,Zfc,Zfd,Zfe,Zfh,Zfi,Zfl,Zfn,Zfz,Zga,Zgb,Zgd,Zgg,Zgr,Zgs,Zgt,Zhb,Zhc,Zhd,Zhe,Zhf,Zhg,Zhh,Zin,Ziu,Ziv,Ziw,Zi6,Zi7,Zjh,Zji,Zjn,Zjq,Zjr,Zjw,Zj7,Zka,Zkx,Zky,Zk0,Zk1,Zla,Zlb,Zlc,Zld,Zle,Zlf,Zlh,Zlj,Zlk,Zlm,Zlr,Zlz,Zl2,Zmt,Zmv,Zmw,Zmx,Zmz,Zm2,Zm5,Zm7,Zm9,Zna,Znb,Zne,Znf,Zng,Znn,Zno,Znp,Zok,Zol,Zom,Zor,Zos,Zo4,Zo7,Zo8,Zpc,eq_self,true_and,and_true,callable_54]
  tactic =>
  refine cl none (a4) trivial ?_
  sym =>
  simp [Zab,Zad,Zak,Zam,Zaz,Za0,Za1,Za2,Za3,Za4,Za5,Za6,Za7,Za9,Zba,Zbb,Zbd,Zbf,Zbh,Zbj,Zbt,Zb7,Zb9,Zcv,Zc3,Zdc,Zdd,Zde,Zdi,Zev,Zew,Zex,Zez,Ze0,Ze1,Ze2,Ze3,Ze5,Ze8,Zfc,Zfd,Zfe,Zfh,Zfi,Zfl,Zfn,Zfz,Zga,Zgb,Zgd,Zgg,Zgr,Zgs,Zgt,Zhb,Zhc,Zhd,Zhe,Zhf,Zhg,Zhh,Zin,Ziu,Ziv,Ziw,Zi6,Zi7,Zjh,Zji,Zjn,Zjq,Zjr,Zjw,Zj7,Zka,Zkx,Zky,Zk0,Zk1,Zla,Zlb,Zlc,Zld,Zle,Zlf,Zlh,Zlj,Zlk,Zlm,Zlr,Zlz,Zl2,Zmt,Zmv,Zmw,Zmx,Zmz,Zm2,Zm5,Zm7,Zm9,Zna,Znb,Zne,Znf,Zng,Znn,Zno,Znp,Zok,Zol,Zom,Zor,Zos,Zo4,Zo7,Zo8,Zpc,eq_self,true_and,and_true,callable_56]
  tactic =>
  refine cl none (a5) trivial ?_
  sym =>
  simp [Zab,Zad,Zak,Zam,Zaz,Za0,Za1,Za2,Za3,Za4,Za5,Za6,Za7,Za9,Zba,Zbb,Zbd,Zbf,Zbh,Zbj,Zbt,Zb7,Zb9,Zcv,Zc3,Zdc,Zdd,Zde,Zdi,Zev,Zew,Zex,Zez,Ze0,Ze1,Ze2,Ze3,Ze5,Ze8,Zfc,Zfd,Zfe,Zfh,Zfi,Zfl,Zfn,Zfz,Zga,Zgb,Zgd,Zgg,Zgr,Zgs,Zgt,Zhb,Zhc,Zhd,Zhe,Zhf,Zhg,Zhh,Zin,Ziu,Ziv,Ziw,Zi6,Zi7,Zjh,Zji,Zjn,Zjq,Zjr,Zjw,Zj7,Zka,Zkx,Zky,Zk0,Zk1,Zla,Zlb,Zlc,Zld,Zle,Zlf,Zlh,Zlj,Zlk,Zlm,Zlr,Zlz,Zl2,Zmt,Zmv,Zmw,Zmx,Zmz,Zm2,Zm5,Zm7,Zm9,Zna,Znb,Zne,Znf,Zng,Znn,Zno,Znp,Zok,Zol,Zom,Zor,Zos,Zo4,Zo7,Zo8,Zpc,eq_self,true_and,and_true,callable_56]
  tactic =>
  refine cl none (a6) trivial ?_
  sym =>
  simp [Zab,Zad,Zak,Zam,Zaz,Za0,Za1,Za2,Za3,Za4,Za5,Za6,Za7,Za9,Zba,Zbb,Zbd,Zbf,Zbh,Zbj,Zbt,Zb7,Zb9,Zcv,Zc3,Zdc,Zdd,Zde,Zdi,Zev,Zew,Zex,Zez,Ze0,Ze1,Ze2,Ze3,Ze5,Ze8,Zfc,Zfd,Zfe,Zfh,Zfi,Zfl,Zfn,Zfz,Zga,Zgb,Zgd,Zgg,Zgr,Zgs,Zgt,Zhb,Zhc,Zhd,Zhe,Zhf,Zhg,Zhh,Zin,Ziu,Ziv,Ziw,Zi6,Zi7,Zjh,Zji,Zjn,Zjq,Zjr,Zjw,Zj7,Zka,Zkx,Zky,Zk0,Zk1,Zla,Zlb,Zlc,Zld,Zle,Zlf,Zlh,Zlj,Zlk,Zlm,Zlr,Zlz,Zl2,Zmt,Zmv,Zmw,Zmx,Zmz,Zm2,Zm5,Zm7,Zm9,Zna,Znb,Zne,Znf,Zng,Znn,Zno,Znp,Zok,Zol,Zom,Zor,Zos,Zo4,Zo7,Zo8,Zpc,eq_self,true_and,and_true,callable_58]
  tactic =>
  refine cl none (a7) trivial ?_
  sym =>
  simp [Zab,Zad,Zak,Zam,Zaz,Za0,Za1,Za2,Za3,Za4,Za5,Za6,Za7,Za9,Zba,Zbb,Zbd,Zbf,Zbh,Zbj,Zbt,Zb7,Zb9,Zcv,Zc3,Zdc,Zdd,Zde,Zdi,Zev,Zew,Zex,Zez,Ze0,Ze1,Ze2,Ze3,Ze5,Ze8,Zfc,Zfd,Zfe,Zfh,Zfi,Zfl,Zfn,Zfz,Zga,Zgb,Zgd,Zgg,Zgr,Zgs,Zgt,Zhb,Zhc,Zhd,Zhe,Zhf,Zhg,Zhh,Zin,Ziu,Ziv,Ziw,Zi6,Zi7,Zjh,Zji,Zjn,Zjq,Zjr,Zjw,Zj7,Zka,Zkx,Zky,Zk0,Zk1,Zla,Zlb,Zlc,Zld,Zle,Zlf,Zlh,Zlj,Zlk,Zlm,Zlr,Zlz,Zl2,Zmt,Zmv,Zmw,Zmx,Zmz,Zm2,Zm5,Zm7,Zm9,Zna,Znb,Zne,Znf,Zng,Znn,Zno,Znp,Zok,Zol,Zom,Zor,Zos,Zo4,Zo7,Zo8,Zpc,eq_self,true_and,and_true,callable_59]
  tactic =>
  refine cl none (a8) trivial ?_
  sym =>
  simp [Zab,Zad,Zak,Zam,Zaz,Za0,Za1,Za2,Za3,Za4,Za5,Za6,Za7,Za9,Zba,Zbb,Zbd,Zbf,Zbh,Zbj,Zbt,Zb7,Zb9,Zcv,Zc3,Zdc,Zdd,Zde,Zdi,Zev,Zew,Zex,Zez,Ze0,Ze1,Ze2,Ze3,Ze5,Ze8,Zfc,Zfd,Zfe,Zfh,Zfi,Zfl,Zfn,Zfz,Zga,Zgb,Zgd,Zgg,Zgr,Zgs,Zgt,Zhb,Zhc,Zhd,Zhe,Zhf,Zhg,Zhh,Zin,Ziu,Ziv,Ziw,Zi6,Zi7,Zjh,Zji,Zjn,Zjq,Zjr,Zjw,Zj7,Zka,Zkx,Zky,Zk0,Zk1,Zla,Zlb,Zlc,Zld,Zle,Zlf,Zlh,Zlj,Zlk,Zlm,Zlr,Zlz,Zl2,Zmt,Zmv,Zmw,Zmx,Zmz,Zm2,Zm5,Zm7,Zm9,Zna,Znb,Zne,Znf,Zng,Znn,Zno,Znp,Zok,Zol,Zom,Zor,Zos,Zo4,Zo7,Zo8,Zpc,eq_self,true_and,and_true,callable_55]
  tactic =>
  refine cl none (a9) trivial ?_
  sym =>
  simp [Zab,Zad,Zak,Zam,Zaz,Za0,Za1,Za2,Za3,Za4,Za5,Za6,Za7,Za9,Zba,Zbb,Zbd,Zbf,Zbh,Zbj,Zbt,Zb7,Zb9,Zcv,Zc3,Zdc,Zdd,Zde,Zdi,Zev,Zew,Zex,Zez,Ze0,Ze1,Ze2,Ze3,Ze5,Ze8,Zfc,Zfd,Zfe,Zfh,Zfi,Zfl,Zfn,Zfz,Zga,Zgb,Zgd,Zgg,Zgr,Zgs,Zgt,Zhb,Zhc,Zhd,Zhe,Zhf,Zhg,Zhh,Zin,Ziu,Ziv,Ziw,Zi6,Zi7,Zjh,Zji,Zjn,Zjq,Zjr,Zjw,Zj7,Zka,Zkx,Zky,Zk0,Zk1,Zla,Zlb,Zlc,Zld,Zle,Zlf,Zlh,Zlj,Zlk,Zlm,Zlr,Zlz,Zl2,Zmt,Zmv,Zmw,Zmx,Zmz,Zm2,Zm5,Zm7,Zm9,Zna,Znb,Zne,Znf,Zng,Znn,Zno,Znp,Zok,Zol,Zom,Zor,Zos,Zo4,Zo7,Zo8,Zpc,eq_self,true_and,and_true]
  tactic =>
  refine endA ?_
  sym =>
  simp [Zab,Zad,Zak,Zam,Zaz,Za0,Za1,Za2,Za3,Za4,Za5,Za6,Za7,Za9,Zba,Zbb,Zbd,Zbf,Zbh,Zbj,Zbt,Zb7,Zb9,Zcv,Zc3,Zdc,Zdd,Zde,Zdi,Zev,Zew,Zex,Zez,Ze0,Ze1,Ze2,Ze3,Ze5,Ze8,Zfc,Zfd,Zfe,Zfh,Zfi,Zfl,Zfn,Zfz,Zga,Zgb,Zgd,Zgg,Zgr,Zgs,Zgt,Zhb,Zhc,Zhd,Zhe,Zhf,Zhg,Zhh,Zin,Ziu,Ziv,Ziw,Zi6,Zi7,Zjh,Zji,Zjn,Zjq,Zjr,Zjw,Zj7,Zka,Zkx,Zky,Zk0,Zk1,Zla,Zlb,Zlc,Zld,Zle,Zlf,Zlh,Zlj,Zlk,Zlm,Zlr,Zlz,Zl2,Zmt,Zmv,Zmw,Zmx,Zmz,Zm2,Zm5,Zm7,Zm9,Zna,Znb,Zne,Znf,Zng,Znn,Zno,Znp,Zok,Zol,Zom,Zor,Zos,Zo4,Zo7,Zo8,Zpc,eq_self,true_and,and_true]
end Go.Proofs.Ytnfgnafphfddhaa.SwG
