import Derived.Test.YtbmdahhhgpbchaaSwD
namespace Go.Proofs.Ytbmdahhhgpbchaa.SwF
open Go Go.Sim Go.Sim.E Go.RowKit Go.Proofs Go.Proofs.Ytbmdahhhgpbchaa.Cod Go.Proofs.Ytbmdahhhgpbchaa.Tab Go.Proofs.Ytbmdahhhgpbchaa.Bse Go.Proofs.Ytbmdahhhgpbchaa.SpnP Go.Proofs.Ytbmdahhhgpbchaa.SwA Go.Proofs.Ytbmdahhhgpbchaa.SwB Go.Proofs.Ytbmdahhhgpbchaa.SwC Go.Proofs.Ytbmdahhhgpbchaa.SwS Go.Proofs.Ytbmdahhhgpbchaa.SwD
set_option linter.unusedVariables false
set_option linter.unusedSimpArgs false
set_option maxRecDepth 100000
set_option maxHeartbeats 4000000
def lfF (t : Int) (s : List Rg) : Int := IntKind.i64.wrap (t - sumR s)
theorem left_con' (t : Int) (s o : List Rg) (hs : s.length < 1000000) : Con Try.prog 110 [] [wV t s o] [] (I (lfF t s)) := left_con t s o hs
def ak1 (t off : Int) (acc : List Rg) (r : Rg) : List Rg := if plF t r.1 && (plF t r.2 && decide (off ≤ r.1)) then addS acc r.1 r.2 else acc
def akF (t off : Int) (s l : List Rg) : List Rg := l.foldl (ak1 t off) (addS s 0 off)
theorem ak_length (t off : Int) : ∀ l acc : List Rg, (l.foldl (ak1 t off) acc).length ≤ acc.length + l.length := by
  intro xs
  induction xs with
  | nil => intro acc; simp
  | cons x xs ih =>
    intro acc
    have h1 := ih (ak1 t off acc x)
    have h2 : (ak1 t off acc x).length ≤ acc.length + 1 := by
      unfold ak1
      split
      · exact addS_length _ _ _
      · omega
    simp only [List.foldl_cons, List.length_cons]
    omega
def i54 (t off : Int) (s o l : List Rg) (k : Nat) (q : St) : Prop := ∃ i : Nat, i + k = l.length ∧
  q = ⟨[(1, I off), (3, .pt 0 0), (6, .pt 1 0), (8, I (lfF t s)), (29, fR l), (30, I (IN l.length)), (31, I (IN i))], [(0, ⟨wC t (akF t off s (l.take i)) o, 1, 0⟩), (1, ⟨[I 0, .nl, .nl], 1, 0⟩)], 2⟩
theorem ack_no (t off : Int) (s o l : List Rg) (hs : s.length < 100000) (b : Int) (hb : endF (lim 0) s = b) (h : plF t off = false ∨ off < b) :
    Con Try.prog 71 [] [wV t s o, I off, fR l] [] (.tu [wV t s o, Bo false]) := by
  refine con_j b71 rfl ?_
  sym =>
  simp [Zab,Zad,Zae,Zaf,Zak,Zal,Zam,Zao,Zaz,Za0,Za1,Za2,Za3,Za4,Za5,Za6,Za7,Za8,Za9,Zba,Zbb,Zbd,Zbf,Zbj,Zbt,Zcv,Zcx,Zc3,Zdc,Zdd,Zde,Zdi,Zev,Zew,Zex,Zez,Ze0,Ze1,Ze2,Ze3,Ze5,Ze8,Zfc,Zfd,Zfe,Zfh,Zfi,Zfj,Zfl,Zfn,Zf1,Zgd,Zgg,Zgr,Zgs,Zgt,Zin,Zio,Zip,Ziu,Ziv,Ziw,Zi6,Zjh,Zji,Zjn,Zjr,Zjw,Zj7,Zla,Zlb,Zlc,Zld,Zle,Zlf,Zlh,Zlj,Zlk,Zlm,Zlz,Zmt,Zmv,Zmw,Zmx,Zmy,Zmz,Zm0,Zm1,Zm3,Zm5,Zm7,Zm9,Zna,Znb,Zne,Znf,Zng,Znn,Zno,Znp,Zos,Zot,Zo3,Zo4,Zo6,Zo7,Zo8,Zpa,Zpb,Zpg,Zp7,Zp9,Zqb,Zqc,Zqd,Zqe,eq_self,true_and,and_true,callable_105]
  tactic =>
  refine cl none (place_con t off s o) trivial ?_
  by_cases hp : plF t off = true
  · sym =>
    simp [Zab,Zad,Zae,Zaf,Zak,Zal,Zam,Zao,Zaz,Za0,Za1,Za2,Za3,Za4,Za5,Za6,Za7,Za8,Za9,Zba,Zbb,Zbd,Zbf,Zbj,Zbt,Zcv,Zcx,Zc3,Zdc,Zdd,Zde,Zdi,Zev,Zew,Zex,Zez,Ze0,Ze1,Ze2,Ze3,Ze5,Ze8,Zfc,Zfd,Zfe,Zfh,Zfi,Zfj,Zfl,Zfn,Zf1,Zgd,Zgg,Zgr,Zgs,Zgt,Zin,Zio,Zip,Ziu,Ziv,Ziw,Zi6,Zjh,Zji,Zjn,Zjr,Zjw,Zj7,Zla,Zlb,Zlc,Zld,Zle,Zlf,Zlh,Zlj,Zlk,Zlm,Zlz,Zmt,Zmv,Zmw,Zmx,Zmy,Zmz,Zm0,Zm1,Zm3,Zm5,Zm7,Zm9,Zna,Znb,Zne,Znf,Zng,Znn,Zno,Znp,Zos,Zot,Zo3,Zo4,Zo6,Zo7,Zo8,Zpa,Zpb,Zpg,Zp7,Zp9,Zqb,Zqc,Zqd,Zqe,eq_self,true_and,and_true,hp,callable_73]
    tactic =>
    refine cl none (base_con t s o (by omega)) trivial ?_
    rw [hb]
    have h2 : off < b := by
      rcases h with h | h
      · rw [hp] at h; cases h
      · exact h
    sym =>
    simp [Zab,Zad,Zae,Zaf,Zak,Zal,Zam,Zao,Zaz,Za0,Za1,Za2,Za3,Za4,Za5,Za6,Za7,Za8,Za9,Zba,Zbb,Zbd,Zbf,Zbj,Zbt,Zcv,Zcx,Zc3,Zdc,Zdd,Zde,Zdi,Zev,Zew,Zex,Zez,Ze0,Ze1,Ze2,Ze3,Ze5,Ze8,Zfc,Zfd,Zfe,Zfh,Zfi,Zfj,Zfl,Zfn,Zf1,Zgd,Zgg,Zgr,Zgs,Zgt,Zin,Zio,Zip,Ziu,Ziv,Ziw,Zi6,Zjh,Zji,Zjn,Zjr,Zjw,Zj7,Zla,Zlb,Zlc,Zld,Zle,Zlf,Zlh,Zlj,Zlk,Zlm,Zlz,Zmt,Zmv,Zmw,Zmx,Zmy,Zmz,Zm0,Zm1,Zm3,Zm5,Zm7,Zm9,Zna,Znb,Zne,Znf,Zng,Znn,Zno,Znp,Zos,Zot,Zo3,Zo4,Zo6,Zo7,Zo8,Zpa,Zpb,Zpg,Zp7,Zp9,Zqb,Zqc,Zqd,Zqe,eq_self,true_and,and_true,h2]
    tactic =>
    refine endA ?_
    sym =>
    simp [Zab,Zad,Zae,Zaf,Zak,Zal,Zam,Zao,Zaz,Za0,Za1,Za2,Za3,Za4,Za5,Za6,Za7,Za8,Za9,Zba,Zbb,Zbd,Zbf,Zbj,Zbt,Zcv,Zcx,Zc3,Zdc,Zdd,Zde,Zdi,Zev,Zew,Zex,Zez,Ze0,Ze1,Ze2,Ze3,Ze5,Ze8,Zfc,Zfd,Zfe,Zfh,Zfi,Zfj,Zfl,Zfn,Zf1,Zgd,Zgg,Zgr,Zgs,Zgt,Zin,Zio,Zip,Ziu,Ziv,Ziw,Zi6,Zjh,Zji,Zjn,Zjr,Zjw,Zj7,Zla,Zlb,Zlc,Zld,Zle,Zlf,Zlh,Zlj,Zlk,Zlm,Zlz,Zmt,Zmv,Zmw,Zmx,Zmy,Zmz,Zm0,Zm1,Zm3,Zm5,Zm7,Zm9,Zna,Znb,Zne,Znf,Zng,Znn,Zno,Znp,Zos,Zot,Zo3,Zo4,Zo6,Zo7,Zo8,Zpa,Zpb,Zpg,Zp7,Zp9,Zqb,Zqc,Zqd,Zqe,eq_self,true_and,and_true]
  · simp only [Bool.not_eq_true] at hp
    sym =>
    simp [Zab,Zad,Zae,Zaf,Zak,Zal,Zam,Zao,Zaz,Za0,Za1,Za2,Za3,Za4,Za5,Za6,Za7,Za8,Za9,Zba,Zbb,Zbd,Zbf,Zbj,Zbt,Zcv,Zcx,Zc3,Zdc,Zdd,Zde,Zdi,Zev,Zew,Zex,Zez,Ze0,Ze1,Ze2,Ze3,Ze5,Ze8,Zfc,Zfd,Zfe,Zfh,Zfi,Zfj,Zfl,Zfn,Zf1,Zgd,Zgg,Zgr,Zgs,Zgt,Zin,Zio,Zip,Ziu,Ziv,Ziw,Zi6,Zjh,Zji,Zjn,Zjr,Zjw,Zj7,Zla,Zlb,Zlc,Zld,Zle,Zlf,Zlh,Zlj,Zlk,Zlm,Zlz,Zmt,Zmv,Zmw,Zmx,Zmy,Zmz,Zm0,Zm1,Zm3,Zm5,Zm7,Zm9,Zna,Znb,Zne,Znf,Zng,Znn,Zno,Znp,Zos,Zot,Zo3,Zo4,Zo6,Zo7,Zo8,Zpa,Zpb,Zpg,Zp7,Zp9,Zqb,Zqc,Zqd,Zqe,eq_self,true_and,and_true,hp]
    tactic =>
    refine endA ?_
    sym =>
    simp [Zab,Zad,Zae,Zaf,Zak,Zal,Zam,Zao,Zaz,Za0,Za1,Za2,Za3,Za4,Za5,Za6,Za7,Za8,Za9,Zba,Zbb,Zbd,Zbf,Zbj,Zbt,Zcv,Zcx,Zc3,Zdc,Zdd,Zde,Zdi,Zev,Zew,Zex,Zez,Ze0,Ze1,Ze2,Ze3,Ze5,Ze8,Zfc,Zfd,Zfe,Zfh,Zfi,Zfj,Zfl,Zfn,Zf1,Zgd,Zgg,Zgr,Zgs,Zgt,Zin,Zio,Zip,Ziu,Ziv,Ziw,Zi6,Zjh,Zji,Zjn,Zjr,Zjw,Zj7,Zla,Zlb,Zlc,Zld,Zle,Zlf,Zlh,Zlj,Zlk,Zlm,Zlz,Zmt,Zmv,Zmw,Zmx,Zmy,Zmz,Zm0,Zm1,Zm3,Zm5,Zm7,Zm9,Zna,Znb,Zne,Znf,Zng,Znn,Zno,Znp,Zos,Zot,Zo3,Zo4,Zo6,Zo7,Zo8,Zpa,Zpb,Zpg,Zp7,Zp9,Zqb,Zqc,Zqd,Zqe,eq_self,true_and,and_true]
theorem ack_yes (t off : Int) (s o l : List Rg) (hs : s.length < 100000) (ho : o.length < 100000) (hl : l.length < 100000) (ht : 0 ≤ t ∧ t ≤ 1099511627776) (b : Int) (hb : endF (lim 0) s = b) (hp : plF t off = true) (h2 : ¬ off < b)
    (b2 : Int) (hb2 : endF (lim 0) (akF t off s l) = b2) (hb0 : 0 ≤ b2 ∧ b2 ≤ 4611686018427387904) :
    Con Try.prog 71 [] [wV t s o, I off, fR l] [] (.tu [wV t (akF t off s l) (stF (akF t off s l) o (segs t b2)), Bo (decide (lfF t (akF t off s l) < lfF t s))]) := by
  refine con_j b71 rfl ?_
  sym =>
  simp [Zaa,Zab,Zac,Zad,Zae,Zaf,Zag,Zah,Zai,Zak,Zal,Zam,Zan,Zap,Zaq,Zav,Zaw,Zay,Zaz,Za0,Za1,Za2,Za3,Za4,Za5,Za6,Za7,Za8,Za9,Zba,Zbb,Zbc,Zbd,Zbf,Zbg,Zbj,Zbt,Zbu,Zbv,Zb1,Zcn,Zcv,Zcx,Zc3,Zc4,Zc7,Zc8,Zc9,Zdc,Zdd,Zde,Zdf,Zdg,Zdh,Zdi,Zdj,Zdk,Zdo,Zdp,Zdt,Zdu,Zdv,Zdw,Zdx,Zdy,Zdz,Zd0,Zd1,Zd2,Zd3,Zec,Zek,Zen,Zeq,Zer,Zes,Zet,Zev,Zew,Zex,Zez,Ze0,Ze1,Ze2,Ze3,Ze5,Ze8,Zfc,Zfd,Zfe,Zfh,Zfi,Zfk,Zfl,Zfn,Zfq,Zf1,Zf4,Zgd,Zgg,Zgr,Zgs,Zgt,Zgu,Zgv,Zgw,Zgx,Zg4,Zg6,Zho,Zh6,Zh7,Zin,Zio,Zip,Ziu,Ziv,Ziw,Zi6,Zjh,Zji,Zjn,Zjr,Zjw,Zj7,Zka,Zkv,Zkx,Zla,Zlb,Zlc,Zld,Zle,Zlf,Zlh,Zlj,Zlk,Zlm,Zlz,Zl2,Zmt,Zmv,Zmw,Zmx,Zmy,Zmz,Zm0,Zm1,Zm3,Zm5,Zm6,Zm7,Zm9,Zna,Znb,Zne,Znf,Zng,Znn,Zno,Znp,Znr,Zns,Znt,Znw,Zn5,Zos,Zot,Zou,Zo3,Zo7,Zo8,Zo9,Zpa,Zpb,Zpc,Zpd,Zpg,Zpi,Zpu,Zp7,Zp9,Zqb,Zqc,Zqd,Zqe,Zqf,Zqg,Zqh,Zqi,Zqk,Zql,Zqm,Zqn,eq_self,true_and,and_true,Bool.and_false,Bool.false_and,callable_105]
  tactic =>
  refine cl none (place_con t off s o) trivial ?_
  sym =>
  simp [Zaa,Zab,Zac,Zad,Zae,Zaf,Zag,Zah,Zai,Zak,Zal,Zam,Zan,Zap,Zaq,Zav,Zaw,Zay,Zaz,Za0,Za1,Za2,Za3,Za4,Za5,Za6,Za7,Za8,Za9,Zba,Zbb,Zbc,Zbd,Zbf,Zbg,Zbj,Zbt,Zbu,Zbv,Zb1,Zcn,Zcv,Zcx,Zc3,Zc4,Zc7,Zc8,Zc9,Zdc,Zdd,Zde,Zdf,Zdg,Zdh,Zdi,Zdj,Zdk,Zdo,Zdp,Zdt,Zdu,Zdv,Zdw,Zdx,Zdy,Zdz,Zd0,Zd1,Zd2,Zd3,Zec,Zek,Zen,Zeq,Zer,Zes,Zet,Zev,Zew,Zex,Zez,Ze0,Ze1,Ze2,Ze3,Ze5,Ze8,Zfc,Zfd,Zfe,Zfh,Zfi,Zfk,Zfl,Zfn,Zfq,Zf1,Zf4,Zgd,Zgg,Zgr,Zgs,Zgt,Zgu,Zgv,Zgw,Zgx,Zg4,Zg6,Zho,Zh6,Zh7,Zin,Zio,Zip,Ziu,Ziv,Ziw,Zi6,Zjh,Zji,Zjn,Zjr,Zjw,Zj7,Zka,Zkv,Zkx,Zla,Zlb,Zlc,Zld,Zle,Zlf,Zlh,Zlj,Zlk,Zlm,Zlz,Zl2,Zmt,Zmv,Zmw,Zmx,Zmy,Zmz,Zm0,Zm1,Zm3,Zm5,Zm6,Zm7,Zm9,Zna,Znb,Zne,Znf,Zng,Znn,Zno,Znp,Znr,Zns,Znt,Znw,Zn5,Zos,Zot,Zou,Zo3,Zo7,Zo8,Zo9,Zpa,Zpb,Zpc,Zpd,Zpg,Zpi,Zpu,Zp7,Zp9,Zqb,Zqc,Zqd,Zqe,Zqf,Zqg,Zqh,Zqi,Zqk,Zql,Zqm,Zqn,eq_self,true_and,and_true,Bool.and_false,Bool.false_and,hp,callable_73]
  tactic =>
  refine cl none (base_con t s o (by omega)) trivial ?_
  rw [hb]
  sym =>
  simp [Zaa,Zab,Zac,Zad,Zae,Zaf,Zag,Zah,Zai,Zak,Zal,Zam,Zan,Zap,Zaq,Zav,Zaw,Zay,Zaz,Za0,Za1,Za2,Za3,Za4,Za5,Za6,Za7,Za8,Za9,Zba,Zbb,Zbc,Zbd,Zbf,Zbg,Zbj,Zbt,Zbu,Zbv,Zb1,Zcn,Zcv,Zcx,Zc3,Zc4,Zc7,Zc8,Zc9,Zdc,Zdd,Zde,Zdf,Zdg,Zdh,Zdi,Zdj,Zdk,Zdo,Zdp,Zdt,Zdu,Zdv,Zdw,Zdx,Zdy,Zdz,Zd0,Zd1,Zd2,Zd3,Zec,Zek,Zen,Zeq,Zer,Zes,Zet,Zev,Zew,Zex,Zez,Ze0,Ze1,Ze2,Ze3,Ze5,Ze8,Zfc,Zfd,Zfe,Zfh,Zfi,Zfk,Zfl,Zfn,Zfq,Zf1,Zf4,Zgd,Zgg,Zgr,Zgs,Zgt,Zgu,Zgv,Zgw,Zgx,Zg4,Zg6,Zho,Zh6,Zh7,Zin,Zio,Zip,Ziu,Ziv,Ziw,Zi6,Zjh,Zji,Zjn,Zjr,Zjw,Zj7,Zka,Zkv,Zkx,Zla,Zlb,Zlc,Zld,Zle,Zlf,Zlh,Zlj,Zlk,Zlm,Zlz,Zl2,Zmt,Zmv,Zmw,Zmx,Zmy,Zmz,Zm0,Zm1,Zm3,Zm5,Zm6,Zm7,Zm9,Zna,Znb,Zne,Znf,Zng,Znn,Zno,Znp,Znr,Zns,Znt,Znw,Zn5,Zos,Zot,Zou,Zo3,Zo7,Zo8,Zo9,Zpa,Zpb,Zpc,Zpd,Zpg,Zpi,Zpu,Zp7,Zp9,Zqb,Zqc,Zqd,Zqe,Zqf,Zqg,Zqh,Zqi,Zqk,Zql,Zqm,Zqn,eq_self,true_and,and_true,Bool.and_false,Bool.false_and,h2,callable_110]
  tactic =>
  refine cl none (left_con' t s o (by omega)) trivial ?_
  sym =>
  simp [Zaa,Zab,Zac,Zad,Zae,Zaf,Zag,Zah,Zai,Zak,Zal,Zam,Zan,Zap,Zaq,Zav,Zaw,Zay,Zaz,Za0,Za1,Za2,Za3,Za4,Za5,Za6,Za7,Za8,Za9,Zba,Zbb,Zbc,Zbd,Zbf,Zbg,Zbj,Zbt,Zbu,Zbv,Zb1,Zcn,Zcv,Zcx,Zc3,Zc4,Zc7,Zc8,Zc9,Zdc,Zdd,Zde,Zdf,Zdg,Zdh,Zdi,Zdj,Zdk,Zdo,Zdp,Zdt,Zdu,Zdv,Zdw,Zdx,Zdy,Zdz,Zd0,Zd1,Zd2,Zd3,Zec,Zek,Zen,Zeq,Zer,Zes,Zet,Zev,Zew,Zex,Zez,Ze0,Ze1,Ze2,Ze3,Ze5,Ze8,Zfc,Zfd,Zfe,Zfh,Zfi,Zfk,Zfl,Zfn,Zfq,Zf1,Zf4,Zgd,Zgg,Zgr,Zgs,Zgt,Zgu,Zgv,Zgw,Zgx,Zg4,Zg6,Zho,Zh6,Zh7,Zin,Zio,Zip,Ziu,Ziv,Ziw,Zi6,Zjh,Zji,Zjn,Zjr,Zjw,Zj7,Zka,Zkv,Zkx,Zla,Zlb,Zlc,Zld,Zle,Zlf,Zlh,Zlj,Zlk,Zlm,Zlz,Zl2,Zmt,Zmv,Zmw,Zmx,Zmy,Zmz,Zm0,Zm1,Zm3,Zm5,Zm6,Zm7,Zm9,Zna,Znb,Zne,Znf,Zng,Znn,Zno,Znp,Znr,Zns,Znt,Znw,Zn5,Zos,Zot,Zou,Zo3,Zo7,Zo8,Zo9,Zpa,Zpb,Zpc,Zpd,Zpg,Zpi,Zpu,Zp7,Zp9,Zqb,Zqc,Zqd,Zqe,Zqf,Zqg,Zqh,Zqi,Zqk,Zql,Zqm,Zqn,eq_self,true_and,and_true,Bool.and_false,Bool.false_and,callable_104]
  tactic =>
  refine cl none (adds_con s (by omega) 0 off) trivial ?_
  sym =>
  simp [Zaa,Zab,Zac,Zad,Zae,Zaf,Zag,Zah,Zai,Zak,Zal,Zam,Zan,Zap,Zaq,Zav,Zaw,Zay,Zaz,Za0,Za1,Za2,Za3,Za4,Za5,Za6,Za7,Za8,Za9,Zba,Zbb,Zbc,Zbd,Zbf,Zbg,Zbj,Zbt,Zbu,Zbv,Zb1,Zcn,Zcv,Zcx,Zc3,Zc4,Zc7,Zc8,Zc9,Zdc,Zdd,Zde,Zdf,Zdg,Zdh,Zdi,Zdj,Zdk,Zdo,Zdp,Zdt,Zdu,Zdv,Zdw,Zdx,Zdy,Zdz,Zd0,Zd1,Zd2,Zd3,Zec,Zek,Zen,Zeq,Zer,Zes,Zet,Zev,Zew,Zex,Zez,Ze0,Ze1,Ze2,Ze3,Ze5,Ze8,Zfc,Zfd,Zfe,Zfh,Zfi,Zfk,Zfl,Zfn,Zfq,Zf1,Zf4,Zgd,Zgg,Zgr,Zgs,Zgt,Zgu,Zgv,Zgw,Zgx,Zg4,Zg6,Zho,Zh6,Zh7,Zin,Zio,Zip,Ziu,Ziv,Ziw,Zi6,Zjh,Zji,Zjn,Zjr,Zjw,Zj7,Zka,Zkv,Zkx,Zla,Zlb,Zlc,Zld,Zle,Zlf,Zlh,Zlj,Zlk,Zlm,Zlz,Zl2,Zmt,Zmv,Zmw,Zmx,Zmy,Zmz,Zm0,Zm1,Zm3,Zm5,Zm6,Zm7,Zm9,Zna,Znb,Zne,Znf,Zng,Znn,Zno,Znp,Znr,Zns,Znt,Znw,Zn5,Zos,Zot,Zou,Zo3,Zo7,Zo8,Zo9,Zpa,Zpb,Zpc,Zpd,Zpg,Zpi,Zpu,Zp7,Zp9,Zqb,Zqc,Zqd,Zqe,Zqf,Zqg,Zqh,Zqi,Zqk,Zql,Zqm,Zqn,eq_self,true_and,and_true,Bool.and_false,Bool.false_and]
  tactic =>
  have z0 : (0 : Int) = IN 0 := rfl
  refine lpA (i54 t off s o l) l.length [(0, 0), (1, 1)] _ ⟨0, by omega, rfl⟩ (wkA ?_) ?_
  · sym =>
    simp [Zaa,Zab,Zac,Zad,Zae,Zaf,Zag,Zah,Zai,Zak,Zal,Zam,Zan,Zap,Zaq,Zav,Zaw,Zay,Zaz,Za0,Za1,Za2,Za3,Za4,Za5,Za6,Za7,Za8,Za9,Zba,Zbb,Zbc,Zbd,Zbf,Zbg,Zbj,Zbt,Zbu,Zbv,Zb1,Zcn,Zcv,Zcx,Zc3,Zc4,Zc7,Zc8,Zc9,Zdc,Zdd,Zde,Zdf,Zdg,Zdh,Zdi,Zdj,Zdk,Zdo,Zdp,Zdt,Zdu,Zdv,Zdw,Zdx,Zdy,Zdz,Zd0,Zd1,Zd2,Zd3,Zec,Zek,Zen,Zeq,Zer,Zes,Zet,Zev,Zew,Zex,Zez,Ze0,Ze1,Ze2,Ze3,Ze5,Ze8,Zfc,Zfd,Zfe,Zfh,Zfi,Zfk,Zfl,Zfn,Zfq,Zf1,Zf4,Zgd,Zgg,Zgr,Zgs,Zgt,Zgu,Zgv,Zgw,Zgx,Zg4,Zg6,Zho,Zh6,Zh7,Zin,Zio,Zip,Ziu,Ziv,Ziw,Zi6,Zjh,Zji,Zjn,Zjr,Zjw,Zj7,Zka,Zkv,Zkx,Zla,Zlb,Zlc,Zld,Zle,Zlf,Zlh,Zlj,Zlk,Zlm,Zlz,Zl2,Zmt,Zmv,Zmw,Zmx,Zmy,Zmz,Zm0,Zm1,Zm3,Zm5,Zm6,Zm7,Zm9,Zna,Znb,Zne,Znf,Zng,Znn,Zno,Znp,Znr,Zns,Znt,Znw,Zn5,Zos,Zot,Zou,Zo3,Zo7,Zo8,Zo9,Zpa,Zpb,Zpc,Zpd,Zpg,Zpi,Zpu,Zp7,Zp9,Zqb,Zqc,Zqd,Zqe,Zqf,Zqg,Zqh,Zqi,Zqk,Zql,Zqm,Zqn,eq_self,true_and,and_true,Bool.and_false,Bool.false_and]
    tactic =>
    and_intros <;> try (first | omega | rfl | assumption)
  rintro k q ⟨i, hi, rfl⟩
  have hal : (akF t off s (l.take i)).length ≤ s.length + 1 + i := by
    have h1 := ak_length t off (l.take i) (addS s 0 off)
    have h3 := addS_length s 0 off
    simp only [List.length_take] at h1
    unfold akF; omega
  by_cases h : i < l.length
  · have hi' := h
    have hw := w64s i (by omega)
    have h0 := cR_q0 l i hi'
    have h1 := cR_q1 l i hi'
    have e0 : akF t off s (l.take (i + 1)) = ak1 t off (akF t off s (l.take i)) l[i] := by rw [take_one l i hi', akF, List.foldl_append]; rfl
    sym =>
    simp [Zaa,Zab,Zac,Zad,Zae,Zaf,Zag,Zah,Zai,Zak,Zal,Zam,Zan,Zap,Zaq,Zav,Zaw,Zay,Zaz,Za0,Za1,Za2,Za3,Za4,Za5,Za6,Za7,Za8,Za9,Zba,Zbb,Zbc,Zbd,Zbf,Zbg,Zbj,Zbt,Zbu,Zbv,Zb1,Zcn,Zcv,Zcx,Zc3,Zc4,Zc7,Zc8,Zc9,Zdc,Zdd,Zde,Zdf,Zdg,Zdh,Zdi,Zdj,Zdk,Zdo,Zdp,Zdt,Zdu,Zdv,Zdw,Zdx,Zdy,Zdz,Zd0,Zd1,Zd2,Zd3,Zec,Zek,Zen,Zeq,Zer,Zes,Zet,Zev,Zew,Zex,Zez,Ze0,Ze1,Ze2,Ze3,Ze5,Ze8,Zfc,Zfd,Zfe,Zfh,Zfi,Zfk,Zfl,Zfn,Zfq,Zf1,Zf4,Zgd,Zgg,Zgr,Zgs,Zgt,Zgu,Zgv,Zgw,Zgx,Zg4,Zg6,Zho,Zh6,Zh7,Zin,Zio,Zip,Ziu,Ziv,Ziw,Zi6,Zjh,Zji,Zjn,Zjr,Zjw,Zj7,Zka,Zkv,Zkx,Zla,Zlb,Zlc,Zld,Zle,Zlf,Zlh,Zlj,Zlk,Zlm,Zlz,Zl2,Zmt,Zmv,Zmw,Zmx,Zmy,Zmz,Zm0,Zm1,Zm3,Zm5,Zm6,Zm7,Zm9,Zna,Znb,Zne,Znf,Zng,Znn,Zno,Znp,Znr,Zns,Znt,Znw,Zn5,Zos,Zot,Zou,Zo3,Zo7,Zo8,Zo9,Zpa,Zpb,Zpc,Zpd,Zpg,Zpi,Zpu,Zp7,Zp9,Zqb,Zqc,Zqd,Zqe,Zqf,Zqg,Zqh,Zqi,Zqk,Zql,Zqm,Zqn,eq_self,true_and,and_true,Bool.and_false,Bool.false_and,h,h0,h1,cR_length,callable_105]
    tactic =>
    and_intros <;> try (first | omega | rfl | assumption)
    refine cl none (place_con t l[i].1 (akF t off s (l.take i)) o) trivial ?_
    by_cases p1 : plF t l[i].1 = true
    · sym =>
      simp [Zaa,Zab,Zac,Zad,Zae,Zaf,Zag,Zah,Zai,Zak,Zal,Zam,Zan,Zap,Zaq,Zav,Zaw,Zay,Zaz,Za0,Za1,Za2,Za3,Za4,Za5,Za6,Za7,Za8,Za9,Zba,Zbb,Zbc,Zbd,Zbf,Zbg,Zbj,Zbt,Zbu,Zbv,Zb1,Zcn,Zcv,Zcx,Zc3,Zc4,Zc7,Zc8,Zc9,Zdc,Zdd,Zde,Zdf,Zdg,Zdh,Zdi,Zdj,Zdk,Zdo,Zdp,Zdt,Zdu,Zdv,Zdw,Zdx,Zdy,Zdz,Zd0,Zd1,Zd2,Zd3,Zec,Zek,Zen,Zeq,Zer,Zes,Zet,Zev,Zew,Zex,Zez,Ze0,Ze1,Ze2,Ze3,Ze5,Ze8,Zfc,Zfd,Zfe,Zfh,Zfi,Zfk,Zfl,Zfn,Zfq,Zf1,Zf4,Zgd,Zgg,Zgr,Zgs,Zgt,Zgu,Zgv,Zgw,Zgx,Zg4,Zg6,Zho,Zh6,Zh7,Zin,Zio,Zip,Ziu,Ziv,Ziw,Zi6,Zjh,Zji,Zjn,Zjr,Zjw,Zj7,Zka,Zkv,Zkx,Zla,Zlb,Zlc,Zld,Zle,Zlf,Zlh,Zlj,Zlk,Zlm,Zlz,Zl2,Zmt,Zmv,Zmw,Zmx,Zmy,Zmz,Zm0,Zm1,Zm3,Zm5,Zm6,Zm7,Zm9,Zna,Znb,Zne,Znf,Zng,Znn,Zno,Znp,Znr,Zns,Znt,Znw,Zn5,Zos,Zot,Zou,Zo3,Zo7,Zo8,Zo9,Zpa,Zpb,Zpc,Zpd,Zpg,Zpi,Zpu,Zp7,Zp9,Zqb,Zqc,Zqd,Zqe,Zqf,Zqg,Zqh,Zqi,Zqk,Zql,Zqm,Zqn,eq_self,true_and,and_true,Bool.and_false,Bool.false_and,p1,callable_105]
      tactic =>
      refine cl none (place_con t l[i].2 (akF t off s (l.take i)) o) trivial ?_
      by_cases p2 : plF t l[i].2 = true
      · sym =>
        simp [Zaa,Zab,Zac,Zad,Zae,Zaf,Zag,Zah,Zai,Zak,Zal,Zam,Zan,Zap,Zaq,Zav,Zaw,Zay,Zaz,Za0,Za1,Za2,Za3,Za4,Za5,Za6,Za7,Za8,Za9,Zba,Zbb,Zbc,Zbd,Zbf,Zbg,Zbj,Zbt,Zbu,Zbv,Zb1,Zcn,Zcv,Zcx,Zc3,Zc4,Zc7,Zc8,Zc9,Zdc,Zdd,Zde,Zdf,Zdg,Zdh,Zdi,Zdj,Zdk,Zdo,Zdp,Zdt,Zdu,Zdv,Zdw,Zdx,Zdy,Zdz,Zd0,Zd1,Zd2,Zd3,Zec,Zek,Zen,Zeq,Zer,Zes,Zet,Zev,Zew,Zex,Zez,Ze0,Ze1,Ze2,Ze3,Ze5,Ze8,Zfc,Zfd,Zfe,Zfh,Zfi,Zfk,Zfl,Zfn,Zfq,Zf1,Zf4,Zgd,Zgg,Zgr,Zgs,Zgt,Zgu,Zgv,Zgw,Zgx,Zg4,Zg6,Zho,Zh6,Zh7,Zin,Zio,Zip,Ziu,Ziv,Ziw,Zi6,Zjh,Zji,Zjn,Zjr,Zjw,Zj7,Zka,Zkv,Zkx,Zla,Zlb,Zlc,Zld,Zle,Zlf,Zlh,Zlj,Zlk,Zlm,Zlz,Zl2,Zmt,Zmv,Zmw,Zmx,Zmy,Zmz,Zm0,Zm1,Zm3,Zm5,Zm6,Zm7,Zm9,Zna,Znb,Zne,Znf,Zng,Znn,Zno,Znp,Znr,Zns,Znt,Znw,Zn5,Zos,Zot,Zou,Zo3,Zo7,Zo8,Zo9,Zpa,Zpb,Zpc,Zpd,Zpg,Zpi,Zpu,Zp7,Zp9,Zqb,Zqc,Zqd,Zqe,Zqf,Zqg,Zqh,Zqi,Zqk,Zql,Zqm,Zqn,eq_self,true_and,and_true,Bool.and_false,Bool.false_and,p2]
        tactic =>
        by_cases p3 : off ≤ l[i].1
        · sym =>
          simp [Zaa,Zab,Zac,Zad,Zae,Zaf,Zag,Zah,Zai,Zak,Zal,Zam,Zan,Zap,Zaq,Zav,Zaw,Zay,Zaz,Za0,Za1,Za2,Za3,Za4,Za5,Za6,Za7,Za8,Za9,Zba,Zbb,Zbc,Zbd,Zbf,Zbg,Zbj,Zbt,Zbu,Zbv,Zb1,Zcn,Zcv,Zcx,Zc3,Zc4,Zc7,Zc8,Zc9,Zdc,Zdd,Zde,Zdf,Zdg,Zdh,Zdi,Zdj,Zdk,Zdo,Zdp,Zdt,Zdu,Zdv,Zdw,Zdx,Zdy,Zdz,Zd0,Zd1,Zd2,Zd3,Zec,Zek,Zen,Zeq,Zer,Zes,Zet,Zev,Zew,Zex,Zez,Ze0,Ze1,Ze2,Ze3,Ze5,Ze8,Zfc,Zfd,Zfe,Zfh,Zfi,Zfk,Zfl,Zfn,Zfq,Zf1,Zf4,Zgd,Zgg,Zgr,Zgs,Zgt,Zgu,Zgv,Zgw,Zgx,Zg4,Zg6,Zho,Zh6,Zh7,Zin,Zio,Zip,Ziu,Ziv,Ziw,Zi6,Zjh,Zji,Zjn,Zjr,Zjw,Zj7,Zka,Zkv,Zkx,Zla,Zlb,Zlc,Zld,Zle,Zlf,Zlh,Zlj,Zlk,Zlm,Zlz,Zl2,Zmt,Zmv,Zmw,Zmx,Zmy,Zmz,Zm0,Zm1,Zm3,Zm5,Zm6,Zm7,Zm9,Zna,Znb,Zne,Znf,Zng,Znn,Zno,Znp,Znr,Zns,Znt,Znw,Zn5,Zos,Zot,Zou,Zo3,Zo7,Zo8,Zo9,Zpa,Zpb,Zpc,Zpd,Zpg,Zpi,Zpu,Zp7,Zp9,Zqb,Zqc,Zqd,Zqe,Zqf,Zqg,Zqh,Zqi,Zqk,Zql,Zqm,Zqn,eq_self,true_and,and_true,Bool.and_false,Bool.false_and,p3,callable_104]
          tactic =>
          refine cl none (adds_con (akF t off s (l.take i)) (by omega) l[i].1 l[i].2) trivial ?_
          sym =>
          simp [Zaa,Zab,Zac,Zad,Zae,Zaf,Zag,Zah,Zai,Zak,Zal,Zam,Zan,Zap,Zaq,Zav,Zaw,Zay,Zaz,Za0,Za1,Za2,Za3,Za4,Za5,Za6,Za7,Za8,Za9,Zba,Zbb,Zbc,Zbd,Zbf,Zbg,Zbj,Zbt,Zbu,Zbv,Zb1,Zcn,Zcv,Zcx,Zc3,Zc4,Zc7,Zc8,Zc9,Zdc,Zdd,Zde,Zdf,Zdg,Zdh,Zdi,Zdj,Zdk,Zdo,Zdp,Zdt,Zdu,Zdv,Zdw,Zdx,Zdy,Zdz,Zd0,Zd1,Zd2,Zd3,Zec,Zek,Zen,Zeq,Zer,Zes,Zet,Zev,Zew,Zex,Zez,Ze0,Ze1,Ze2,Ze3,Ze5,Ze8,Zfc,Zfd,Zfe,Zfh,Zfi,Zfk,Zfl,Zfn,Zfq,Zf1,Zf4,Zgd,Zgg,Zgr,Zgs,Zgt,Zgu,Zgv,Zgw,Zgx,Zg4,Zg6,Zho,Zh6,Zh7,Zin,Zio,Zip,Ziu,Ziv,Ziw,Zi6,Zjh,Zji,Zjn,Zjr,Zjw,Zj7,Zka,Zkv,Zkx,Zla,Zlb,Zlc,Zld,Zle,Zlf,Zlh,Zlj,Zlk,Zlm,Zlz,Zl2,Zmt,Zmv,Zmw,Zmx,Zmy,Zmz,Zm0,Zm1,Zm3,Zm5,Zm6,Zm7,Zm9,Zna,Znb,Zne,Znf,Zng,Znn,Zno,Znp,Znr,Zns,Znt,Znw,Zn5,Zos,Zot,Zou,Zo3,Zo7,Zo8,Zo9,Zpa,Zpb,Zpc,Zpd,Zpg,Zpi,Zpu,Zp7,Zp9,Zqb,Zqc,Zqd,Zqe,Zqf,Zqg,Zqh,Zqi,Zqk,Zql,Zqm,Zqn,eq_self,true_and,and_true,Bool.and_false,Bool.false_and,hw]
          tactic =>
          have e1 : ak1 t off (akF t off s (l.take i)) l[i] = addS (akF t off s (l.take i)) l[i].1 l[i].2 := by simp [ak1, p1, p2, p3]
          unfold NextL; refine ⟨(k - 1), [(0, 0), (1, 1)], _, by omega, ⟨i + 1, by omega, rfl⟩, wkA ?_⟩
          rw [e0, e1]
          sym =>
          simp [Zaa,Zab,Zac,Zad,Zae,Zaf,Zag,Zah,Zai,Zak,Zal,Zam,Zan,Zap,Zaq,Zav,Zaw,Zay,Zaz,Za0,Za1,Za2,Za3,Za4,Za5,Za6,Za7,Za8,Za9,Zba,Zbb,Zbc,Zbd,Zbf,Zbg,Zbj,Zbt,Zbu,Zbv,Zb1,Zcn,Zcv,Zcx,Zc3,Zc4,Zc7,Zc8,Zc9,Zdc,Zdd,Zde,Zdf,Zdg,Zdh,Zdi,Zdj,Zdk,Zdo,Zdp,Zdt,Zdu,Zdv,Zdw,Zdx,Zdy,Zdz,Zd0,Zd1,Zd2,Zd3,Zec,Zek,Zen,Zeq,Zer,Zes,Zet,Zev,Zew,Zex,Zez,Ze0,Ze1,Ze2,Ze3,Ze5,Ze8,Zfc,Zfd,Zfe,Zfh,Zfi,Zfk,Zfl,Zfn,Zfq,Zf1,Zf4,Zgd,Zgg,Zgr,Zgs,Zgt,Zgu,Zgv,Zgw,Zgx,Zg4,Zg6,Zho,Zh6,Zh7,Zin,Zio,Zip,Ziu,Ziv,Ziw,Zi6,Zjh,Zji,Zjn,Zjr,Zjw,Zj7,Zka,Zkv,Zkx,Zla,Zlb,Zlc,Zld,Zle,Zlf,Zlh,Zlj,Zlk,Zlm,Zlz,Zl2,Zmt,Zmv,Zmw,Zmx,Zmy,Zmz,Zm0,Zm1,Zm3,Zm5,Zm6,Zm7,Zm9,Zna,Znb,Zne,Znf,Zng,Znn,Zno,Znp,Znr,Zns,Znt,Znw,Zn5,Zos,Zot,Zou,Zo3,Zo7,Zo8,Zo9,Zpa,Zpb,Zpc,Zpd,Zpg,Zpi,Zpu,Zp7,Zp9,Zqb,Zqc,Zqd,Zqe,Zqf,Zqg,Zqh,Zqi,Zqk,Zql,Zqm,Zqn,eq_self,true_and,and_true,Bool.and_false,Bool.false_and]
        · sym =>
          simp [Zaa,Zab,Zac,Zad,Zae,Zaf,Zag,Zah,Zai,Zak,Zal,Zam,Zan,Zap,Zaq,Zav,Zaw,Zay,Zaz,Za0,Za1,Za2,Za3,Za4,Za5,Za6,Za7,Za8,Za9,Zba,Zbb,Zbc,Zbd,Zbf,Zbg,Zbj,Zbt,Zbu,Zbv,Zb1,Zcn,Zcv,Zcx,Zc3,Zc4,Zc7,Zc8,Zc9,Zdc,Zdd,Zde,Zdf,Zdg,Zdh,Zdi,Zdj,Zdk,Zdo,Zdp,Zdt,Zdu,Zdv,Zdw,Zdx,Zdy,Zdz,Zd0,Zd1,Zd2,Zd3,Zec,Zek,Zen,Zeq,Zer,Zes,Zet,Zev,Zew,Zex,Zez,Ze0,Ze1,Ze2,Ze3,Ze5,Ze8,Zfc,Zfd,Zfe,Zfh,Zfi,Zfk,Zfl,Zfn,Zfq,Zf1,Zf4,Zgd,Zgg,Zgr,Zgs,Zgt,Zgu,Zgv,Zgw,Zgx,Zg4,Zg6,Zho,Zh6,Zh7,Zin,Zio,Zip,Ziu,Ziv,Ziw,Zi6,Zjh,Zji,Zjn,Zjr,Zjw,Zj7,Zka,Zkv,Zkx,Zla,Zlb,Zlc,Zld,Zle,Zlf,Zlh,Zlj,Zlk,Zlm,Zlz,Zl2,Zmt,Zmv,Zmw,Zmx,Zmy,Zmz,Zm0,Zm1,Zm3,Zm5,Zm6,Zm7,Zm9,Zna,Znb,Zne,Znf,Zng,Znn,Zno,Znp,Znr,Zns,Znt,Znw,Zn5,Zos,Zot,Zou,Zo3,Zo7,Zo8,Zo9,Zpa,Zpb,Zpc,Zpd,Zpg,Zpi,Zpu,Zp7,Zp9,Zqb,Zqc,Zqd,Zqe,Zqf,Zqg,Zqh,Zqi,Zqk,Zql,Zqm,Zqn,eq_self,true_and,and_true,Bool.and_false,Bool.false_and,p3,hw]
          tactic =>
          have e1 : ak1 t off (akF t off s (l.take i)) l[i] = akF t off s (l.take i) := by simp [ak1, p3]
          unfold NextL; refine ⟨(k - 1), [(0, 0), (1, 1)], _, by omega, ⟨i + 1, by omega, rfl⟩, wkA ?_⟩
          rw [e0, e1]
          sym =>
          simp [Zaa,Zab,Zac,Zad,Zae,Zaf,Zag,Zah,Zai,Zak,Zal,Zam,Zan,Zap,Zaq,Zav,Zaw,Zay,Zaz,Za0,Za1,Za2,Za3,Za4,Za5,Za6,Za7,Za8,Za9,Zba,Zbb,Zbc,Zbd,Zbf,Zbg,Zbj,Zbt,Zbu,Zbv,Zb1,Zcn,Zcv,Zcx,Zc3,Zc4,Zc7,Zc8,Zc9,Zdc,Zdd,Zde,Zdf,Zdg,Zdh,Zdi,Zdj,Zdk,Zdo,Zdp,Zdt,Zdu,Zdv,Zdw,Zdx,Zdy,Zdz,Zd0,Zd1,Zd2,Zd3,Zec,Zek,Zen,Zeq,Zer,Zes,Zet,Zev,Zew,Zex,Zez,Ze0,Ze1,Ze2,Ze3,Ze5,Ze8,Zfc,Zfd,Zfe,Zfh,Zfi,Zfk,Zfl,Zfn,Zfq,Zf1,Zf4,Zgd,Zgg,Zgr,Zgs,Zgt,Zgu,Zgv,Zgw,Zgx,Zg4,Zg6,Zho,Zh6,Zh7,Zin,Zio,Zip,Ziu,Ziv,Ziw,Zi6,Zjh,Zji,Zjn,Zjr,Zjw,Zj7,Zka,Zkv,Zkx,Zla,Zlb,Zlc,Zld,Zle,Zlf,Zlh,Zlj,Zlk,Zlm,Zlz,Zl2,Zmt,Zmv,Zmw,Zmx,Zmy,Zmz,Zm0,Zm1,Zm3,Zm5,Zm6,Zm7,Zm9,Zna,Znb,Zne,Znf,Zng,Znn,Zno,Znp,Znr,Zns,Znt,Znw,Zn5,Zos,Zot,Zou,Zo3,Zo7,Zo8,Zo9,Zpa,Zpb,Zpc,Zpd,Zpg,Zpi,Zpu,Zp7,Zp9,Zqb,Zqc,Zqd,Zqe,Zqf,Zqg,Zqh,Zqi,Zqk,Zql,Zqm,Zqn,eq_self,true_and,and_true,Bool.and_false,Bool.false_and]
      · simp only [Bool.not_eq_true] at p2
        sym =>
        simp [Zaa,Zab,Zac,Zad,Zae,Zaf,Zag,Zah,Zai,Zak,Zal,Zam,Zan,Zap,Zaq,Zav,Zaw,Zay,Zaz,Za0,Za1,Za2,Za3,Za4,Za5,Za6,Za7,Za8,Za9,Zba,Zbb,Zbc,Zbd,Zbf,Zbg,Zbj,Zbt,Zbu,Zbv,Zb1,Zcn,Zcv,Zcx,Zc3,Zc4,Zc7,Zc8,Zc9,Zdc,Zdd,Zde,Zdf,Zdg,Zdh,Zdi,Zdj,Zdk,Zdo,Zdp,Zdt,Zdu,Zdv,Zdw,Zdx,Zdy,Zdz,Zd0,Zd1,Zd2,Zd3,Zec,Zek,Zen,Zeq,Zer,Zes,Zet,Zev,Zew,Zex,Zez,Ze0,Ze1,Ze2,Ze3,Ze5,Ze8,Zfc,Zfd,Zfe,Zfh,Zfi,Zfk,Zfl,Zfn,Zfq,Zf1,Zf4,Zgd,Zgg,Zgr,Zgs,Zgt,Zgu,Zgv,Zgw,Zgx,Zg4,Zg6,Zho,Zh6,Zh7,Zin,Zio,Zip,Ziu,Ziv,Ziw,Zi6,Zjh,Zji,Zjn,Zjr,Zjw,Zj7,Zka,Zkv,Zkx,Zla,Zlb,Zlc,Zld,Zle,Zlf,Zlh,Zlj,Zlk,Zlm,Zlz,Zl2,Zmt,Zmv,Zmw,Zmx,Zmy,Zmz,Zm0,Zm1,Zm3,Zm5,Zm6,Zm7,Zm9,Zna,Znb,Zne,Znf,Zng,Znn,Zno,Znp,Znr,Zns,Znt,Znw,Zn5,Zos,Zot,Zou,Zo3,Zo7,Zo8,Zo9,Zpa,Zpb,Zpc,Zpd,Zpg,Zpi,Zpu,Zp7,Zp9,Zqb,Zqc,Zqd,Zqe,Zqf,Zqg,Zqh,Zqi,Zqk,Zql,Zqm,Zqn,eq_self,true_and,and_true,Bool.and_false,Bool.false_and,p2,hw]
        tactic =>
        have e1 : ak1 t off (akF t off s (l.take i)) l[i] = akF t off s (l.take i) := by simp [ak1, p2]
        unfold NextL; refine ⟨(k - 1), [(0, 0), (1, 1)], _, by omega, ⟨i + 1, by omega, rfl⟩, wkA ?_⟩
        rw [e0, e1]
        sym =>
        simp [Zaa,Zab,Zac,Zad,Zae,Zaf,Zag,Zah,Zai,Zak,Zal,Zam,Zan,Zap,Zaq,Zav,Zaw,Zay,Zaz,Za0,Za1,Za2,Za3,Za4,Za5,Za6,Za7,Za8,Za9,Zba,Zbb,Zbc,Zbd,Zbf,Zbg,Zbj,Zbt,Zbu,Zbv,Zb1,Zcn,Zcv,Zcx,Zc3,Zc4,Zc7,Zc8,Zc9,Zdc,Zdd,Zde,Zdf,Zdg,Zdh,Zdi,Zdj,Zdk,Zdo,Zdp,Zdt,Zdu,Zdv,Zdw,Zdx,Zdy,Zdz,Zd0,Zd1,Zd2,Zd3,Zec,Zek,Zen,Zeq,Zer,Zes,Zet,Zev,Zew,Zex,Zez,Ze0,Ze1,Ze2,Ze3,Ze5,Ze8,Zfc,Zfd,Zfe,Zfh,Zfi,Zfk,Zfl,Zfn,Zfq,Zf1,Zf4,Zgd,Zgg,Zgr,Zgs,Zgt,Zgu,Zgv,Zgw,Zgx,Zg4,Zg6,Zho,Zh6,Zh7,Zin,Zio,Zip,Ziu,Ziv,Ziw,Zi6,Zjh,Zji,Zjn,Zjr,Zjw,Zj7,Zka,Zkv,Zkx,Zla,Zlb,Zlc,Zld,Zle,Zlf,Zlh,Zlj,Zlk,Zlm,Zlz,Zl2,Zmt,Zmv,Zmw,Zmx,Zmy,Zmz,Zm0,Zm1,Zm3,Zm5,Zm6,Zm7,Zm9,Zna,Znb,Zne,Znf,Zng,Znn,Zno,Znp,Znr,Zns,Znt,Znw,Zn5,Zos,Zot,Zou,Zo3,Zo7,Zo8,Zo9,Zpa,Zpb,Zpc,Zpd,Zpg,Zpi,Zpu,Zp7,Zp9,Zqb,Zqc,Zqd,Zqe,Zqf,Zqg,Zqh,Zqi,Zqk,Zql,Zqm,Zqn,eq_self,true_and,and_true,Bool.and_false,Bool.false_and]
    · simp only [Bool.not_eq_true] at p1
      sym =>
      simp [Zaa,Zab,Zac,Zad,Zae,Zaf,Zag,Zah,Zai,Zak,Zal,Zam,Zan,Zap,Zaq,Zav,Zaw,Zay,Zaz,Za0,Za1,Za2,Za3,Za4,Za5,Za6,Za7,Za8,Za9,Zba,Zbb,Zbc,Zbd,Zbf,Zbg,Zbj,Zbt,Zbu,Zbv,Zb1,Zcn,Zcv,Zcx,Zc3,Zc4,Zc7,Zc8,Zc9,Zdc,Zdd,Zde,Zdf,Zdg,Zdh,Zdi,Zdj,Zdk,Zdo,Zdp,Zdt,Zdu,Zdv,Zdw,Zdx,Zdy,Zdz,Zd0,Zd1,Zd2,Zd3,Zec,Zek,Zen,Zeq,Zer,Zes,Zet,Zev,Zew,Zex,Zez,Ze0,Ze1,Ze2,Ze3,Ze5,Ze8,Zfc,Zfd,Zfe,Zfh,Zfi,Zfk,Zfl,Zfn,Zfq,Zf1,Zf4,Zgd,Zgg,Zgr,Zgs,Zgt,Zgu,Zgv,Zgw,Zgx,Zg4,Zg6,Zho,Zh6,Zh7,Zin,Zio,Zip,Ziu,Ziv,Ziw,Zi6,Zjh,Zji,Zjn,Zjr,Zjw,Zj7,Zka,Zkv,Zkx,Zla,Zlb,Zlc,Zld,Zle,Zlf,Zlh,Zlj,Zlk,Zlm,Zlz,Zl2,Zmt,Zmv,Zmw,Zmx,Zmy,Zmz,Zm0,Zm1,Zm3,Zm5,Zm6,Zm7,Zm9,Zna,Znb,Zne,Znf,Zng,Znn,Zno,Znp,Znr,Zns,Znt,Znw,Zn5,Zos,Zot,Zou,Zo3,Zo7,Zo8,Zo9,Zpa,Zpb,Zpc,Zpd,Zpg,Zpi,Zpu,Zp7,Zp9,Zqb,Zqc,Zqd,Zqe,Zqf,Zqg,Zqh,Zqi,Zqk,Zql,Zqm,Zqn,eq_self,true_and,and_true,Bool.and_false,Bool.false_and,p1,hw]
      tactic =>
      have e1 : ak1 t off (akF t off s (l.take i)) l[i] = akF t off s (l.take i) := by simp [ak1, p1]
      unfold NextL; refine ⟨(k - 1), [(0, 0), (1, 1)], _, by omega, ⟨i + 1, by omega, rfl⟩, wkA ?_⟩
      rw [e0, e1]
      sym =>
      simp [Zaa,Zab,Zac,Zad,Zae,Zaf,Zag,Zah,Zai,Zak,Zal,Zam,Zan,Zap,Zaq,Zav,Zaw,Zay,Zaz,Za0,Za1,Za2,Za3,Za4,Za5,Za6,Za7,Za8,Za9,Zba,Zbb,Zbc,Zbd,Zbf,Zbg,Zbj,Zbt,Zbu,Zbv,Zb1,Zcn,Zcv,Zcx,Zc3,Zc4,Zc7,Zc8,Zc9,Zdc,Zdd,Zde,Zdf,Zdg,Zdh,Zdi,Zdj,Zdk,Zdo,Zdp,Zdt,Zdu,Zdv,Zdw,Zdx,Zdy,Zdz,Zd0,Zd1,Zd2,Zd3,Zec,Zek,Zen,Zeq,Zer,Zes,Zet,Zev,Zew,Zex,Zez,Ze0,Ze1,Ze2,Ze3,Ze5,Ze8,Zfc,Zfd,Zfe,Zfh,Zfi,Zfk,Zfl,Zfn,Zfq,Zf1,Zf4,Zgd,Zgg,Zgr,Zgs,Zgt,Zgu,Zgv,Zgw,Zgx,Zg4,Zg6,Zho,Zh6,Zh7,Zin,Zio,Zip,Ziu,Ziv,Ziw,Zi6,Zjh,Zji,Zjn,Zjr,Zjw,Zj7,Zka,Zkv,Zkx,Zla,Zlb,Zlc,Zld,Zle,Zlf,Zlh,Zlj,Zlk,Zlm,Zlz,Zl2,Zmt,Zmv,Zmw,Zmx,Zmy,Zmz,Zm0,Zm1,Zm3,Zm5,Zm6,Zm7,Zm9,Zna,Znb,Zne,Znf,Zng,Znn,Zno,Znp,Znr,Zns,Znt,Znw,Zn5,Zos,Zot,Zou,Zo3,Zo7,Zo8,Zo9,Zpa,Zpb,Zpc,Zpd,Zpg,Zpi,Zpu,Zp7,Zp9,Zqb,Zqc,Zqd,Zqe,Zqf,Zqg,Zqh,Zqi,Zqk,Zql,Zqm,Zqn,eq_self,true_and,and_true,Bool.and_false,Bool.false_and]
  · have et : l.take i = l := List.take_of_length_le (by omega)
    rw [et] at hal ⊢
    sym =>
    simp [Zaa,Zab,Zac,Zad,Zae,Zaf,Zag,Zah,Zai,Zak,Zal,Zam,Zan,Zap,Zaq,Zav,Zaw,Zay,Zaz,Za0,Za1,Za2,Za3,Za4,Za5,Za6,Za7,Za8,Za9,Zba,Zbb,Zbc,Zbd,Zbf,Zbg,Zbj,Zbt,Zbu,Zbv,Zb1,Zcn,Zcv,Zcx,Zc3,Zc4,Zc7,Zc8,Zc9,Zdc,Zdd,Zde,Zdf,Zdg,Zdh,Zdi,Zdj,Zdk,Zdo,Zdp,Zdt,Zdu,Zdv,Zdw,Zdx,Zdy,Zdz,Zd0,Zd1,Zd2,Zd3,Zec,Zek,Zen,Zeq,Zer,Zes,Zet,Zev,Zew,Zex,Zez,Ze0,Ze1,Ze2,Ze3,Ze5,Ze8,Zfc,Zfd,Zfe,Zfh,Zfi,Zfk,Zfl,Zfn,Zfq,Zf1,Zf4,Zgd,Zgg,Zgr,Zgs,Zgt,Zgu,Zgv,Zgw,Zgx,Zg4,Zg6,Zho,Zh6,Zh7,Zin,Zio,Zip,Ziu,Ziv,Ziw,Zi6,Zjh,Zji,Zjn,Zjr,Zjw,Zj7,Zka,Zkv,Zkx,Zla,Zlb,Zlc,Zld,Zle,Zlf,Zlh,Zlj,Zlk,Zlm,Zlz,Zl2,Zmt,Zmv,Zmw,Zmx,Zmy,Zmz,Zm0,Zm1,Zm3,Zm5,Zm6,Zm7,Zm9,Zna,Znb,Zne,Znf,Zng,Znn,Zno,Znp,Znr,Zns,Znt,Znw,Zn5,Zos,Zot,Zou,Zo3,Zo7,Zo8,Zo9,Zpa,Zpb,Zpc,Zpd,Zpg,Zpi,Zpu,Zp7,Zp9,Zqb,Zqc,Zqd,Zqe,Zqf,Zqg,Zqh,Zqi,Zqk,Zql,Zqm,Zqn,eq_self,true_and,and_true,Bool.and_false,Bool.false_and,h,callable_111]
    tactic =>
    refine cl none (still_con t (akF t off s l) o (by omega) (by omega) ht b2 hb2 hb0) trivial ?_
    sym =>
    simp [Zaa,Zab,Zac,Zad,Zae,Zaf,Zag,Zah,Zai,Zak,Zal,Zam,Zan,Zap,Zaq,Zav,Zaw,Zay,Zaz,Za0,Za1,Za2,Za3,Za4,Za5,Za6,Za7,Za8,Za9,Zba,Zbb,Zbc,Zbd,Zbf,Zbg,Zbj,Zbt,Zbu,Zbv,Zb1,Zcn,Zcv,Zcx,Zc3,Zc4,Zc7,Zc8,Zc9,Zdc,Zdd,Zde,Zdf,Zdg,Zdh,Zdi,Zdj,Zdk,Zdo,Zdp,Zdt,Zdu,Zdv,Zdw,Zdx,Zdy,Zdz,Zd0,Zd1,Zd2,Zd3,Zec,Zek,Zen,Zeq,Zer,Zes,Zet,Zev,Zew,Zex,Zez,Ze0,Ze1,Ze2,Ze3,Ze5,Ze8,Zfc,Zfd,Zfe,Zfh,Zfi,Zfk,Zfl,Zfn,Zfq,Zf1,Zf4,Zgd,Zgg,Zgr,Zgs,Zgt,Zgu,Zgv,Zgw,Zgx,Zg4,Zg6,Zho,Zh6,Zh7,Zin,Zio,Zip,Ziu,Ziv,Ziw,Zi6,Zjh,Zji,Zjn,Zjr,Zjw,Zj7,Zka,Zkv,Zkx,Zla,Zlb,Zlc,Zld,Zle,Zlf,Zlh,Zlj,Zlk,Zlm,Zlz,Zl2,Zmt,Zmv,Zmw,Zmx,Zmy,Zmz,Zm0,Zm1,Zm3,Zm5,Zm6,Zm7,Zm9,Zna,Znb,Zne,Znf,Zng,Znn,Zno,Znp,Znr,Zns,Znt,Znw,Zn5,Zos,Zot,Zou,Zo3,Zo7,Zo8,Zo9,Zpa,Zpb,Zpc,Zpd,Zpg,Zpi,Zpu,Zp7,Zp9,Zqb,Zqc,Zqd,Zqe,Zqf,Zqg,Zqh,Zqi,Zqk,Zql,Zqm,Zqn,eq_self,true_and,and_true,Bool.and_false,Bool.false_and,callable_110]
    tactic =>
    refine cl none (left_con' t (akF t off s l) (stF (akF t off s l) o (segs t b2)) (by omega)) trivial ?_
    sym =>
    simp [Zaa,Zab,Zac,Zad,Zae,Zaf,Zag,Zah,Zai,Zak,Zal,Zam,Zan,Zap,Zaq,Zav,Zaw,Zay,Zaz,Za0,Za1,Za2,Za3,Za4,Za5,Za6,Za7,Za8,Za9,Zba,Zbb,Zbc,Zbd,Zbf,Zbg,Zbj,Zbt,Zbu,Zbv,Zb1,Zcn,Zcv,Zcx,Zc3,Zc4,Zc7,Zc8,Zc9,Zdc,Zdd,Zde,Zdf,Zdg,Zdh,Zdi,Zdj,Zdk,Zdo,Zdp,Zdt,Zdu,Zdv,Zdw,Zdx,Zdy,Zdz,Zd0,Zd1,Zd2,Zd3,Zec,Zek,Zen,Zeq,Zer,Zes,Zet,Zev,Zew,Zex,Zez,Ze0,Ze1,Ze2,Ze3,Ze5,Ze8,Zfc,Zfd,Zfe,Zfh,Zfi,Zfk,Zfl,Zfn,Zfq,Zf1,Zf4,Zgd,Zgg,Zgr,Zgs,Zgt,Zgu,Zgv,Zgw,Zgx,Zg4,Zg6,Zho,Zh6,Zh7,Zin,Zio,Zip,Ziu,Ziv,Ziw,Zi6,Zjh,Zji,Zjn,Zjr,Zjw,Zj7,Zka,Zkv,Zkx,Zla,Zlb,Zlc,Zld,Zle,Zlf,Zlh,Zlj,Zlk,Zlm,Zlz,Zl2,Zmt,Zmv,Zmw,Zmx,Zmy,Zmz,Zm0,Zm1,Zm3,Zm5,Zm6,Zm7,Zm9,Zna,Znb,Zne,Znf,Zng,Znn,Zno,Znp,Znr,Zns,Znt,Znw,Zn5,Zos,Zot,Zou,Zo3,Zo7,Zo8,Zo9,Zpa,Zpb,Zpc,Zpd,Zpg,Zpi,Zpu,Zp7,Zp9,Zqb,Zqc,Zqd,Zqe,Zqf,Zqg,Zqh,Zqi,Zqk,Zql,Zqm,Zqn,eq_self,true_and,and_true,Bool.and_false,Bool.false_and]
    tactic =>
    refine endA ?_
    sym =>
    simp [Zaa,Zab,Zac,Zad,Zae,Zaf,Zag,Zah,Zai,Zak,Zal,Zam,Zan,Zap,Zaq,Zav,Zaw,Zay,Zaz,Za0,Za1,Za2,Za3,Za4,Za5,Za6,Za7,Za8,Za9,Zba,Zbb,Zbc,Zbd,Zbf,Zbg,Zbj,Zbt,Zbu,Zbv,Zb1,Zcn,Zcv,Zcx,Zc3,Zc4,Zc7,Zc8,Zc9,Zdc,Zdd,Zde,Zdf,Zdg,Zdh,Zdi,Zdj,Zdk,Zdo,Zdp,Zdt,Zdu,Zdv,Zdw,Zdx,Zdy,Zdz,Zd0,Zd1,Zd2,Zd3,Zec,Zek,Zen,Zeq,Zer,Zes,Zet,Zev,Zew,Zex,Zez,Ze0,Ze1,Ze2,Ze3,Ze5,Ze8,Zfc,Zfd,Zfe,Zfh,Zfi,Zfk,Zfl,Zfn,Zfq,Zf1,Zf4,Zgd,Zgg,Zgr,Zgs,Zgt,Zgu,Zgv,Zgw,Zgx,Zg4,Zg6,Zho,Zh6,Zh7,Zin,Zio,Zip,Ziu,Ziv,Ziw,Zi6,Zjh,Zji,Zjn,Zjr,Zjw,Zj7,Zka,Zkv,Zkx,Zla,Zlb,Zlc,Zld,Zle,Zlf,Zlh,Zlj,Zlk,Zlm,Zlz,Zl2,Zmt,Zmv,Zmw,Zmx,Zmy,Zmz,Zm0,Zm1,Zm3,Zm5,Zm6,Zm7,Zm9,Zna,Znb,Zne,Znf,Zng,Znn,Zno,Znp,Znr,Zns,Znt,Znw,Zn5,Zos,Zot,Zou,Zo3,Zo7,Zo8,Zo9,Zpa,Zpb,Zpc,Zpd,Zpg,Zpi,Zpu,Zp7,Zp9,Zqb,Zqc,Zqd,Zqe,Zqf,Zqg,Zqh,Zqi,Zqk,Zql,Zqm,Zqn,eq_self,true_and,and_true,Bool.and_false,Bool.false_and]
end Go.Proofs.Ytbmdahhhgpbchaa.SwF
