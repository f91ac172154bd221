import Derived.Test.YtbmdahhhgpbchaaObA
namespace Go.Proofs.Ytbmdahhhgpbchaa.ObB
open Go Go.Sim Go.Sim.E Go.RowKit Go.Proofs Go.Proofs.Ytbmdahhhgpbchaa.Cod Go.Proofs.Ytbmdahhhgpbchaa.Tab Go.Proofs.Ytbmdahhhgpbchaa.Bse Go.Proofs.Ytbmdahhhgpbchaa.SpnP Go.Proofs.Ytbmdahhhgpbchaa.SwA Go.Proofs.Ytbmdahhhgpbchaa.SwB Go.Proofs.Ytbmdahhhgpbchaa.SwC Go.Proofs.Ytbmdahhhgpbchaa.SwS Go.Proofs.Ytbmdahhhgpbchaa.SwD Go.Proofs.Ytbmdahhhgpbchaa.SwF Go.Proofs.Ytbmdahhhgpbchaa.SwG Go.Proofs.Ytbmdahhhgpbchaa.SwL Go.Proofs.Ytbmdahhhgpbchaa.ObA
set_option linter.unusedVariables false
set_option linter.unusedSimpArgs false
set_option maxRecDepth 100000
set_option maxHeartbeats 4000000
theorem clone_con (l : List Int) (hl : l.length ≤ 140737488355328) : Con Try.prog 68 [] [fB l] [] (fB l) := by
  refine con_j b68 rfl ?_
  sym =>
  simp [Zab,Zad,Zam,Zaz,Za0,Za1,Za2,Za3,Za4,Za5,Za9,Zba,Zbb,Zda,Zdb,Zev,Zew,Zez,Ze0,Ze2,Zfd,Zfe,Zfh,Zna,Znb,Zos,Zot,Zo7,eq_self,true_and]
  tactic =>
  refine nilQ (fun h => ?_) ?_
  · sym =>
    simp [Zab,Zad,Zae,Zaf,Zak,Zal,Zam,Zao,Zay,Zaz,Za0,Za1,Za2,Za3,Za4,Za5,Za9,Zba,Zbb,Zev,Zew,Zez,Ze0,Ze2,Zfd,Zfe,Zfh,Zmt,Zmv,Zmw,Zmx,Zmz,Zm2,Zna,Znb,Zo7,eq_self,true_and]
    tactic =>
    obtain rfl := List.length_eq_zero_iff.1 h
    refine endA ?_
    sym =>
    simp [Zna,Zpx,eq_self,true_and]
    tactic =>
    rfl
  · have h0 := cB_length l
    have h1 := cB_all l
    have h2 := cB_okI l
    sym =>
    simp [Zaa,Zab,Zad,Zae,Zaf,Zak,Zal,Zam,Zaz,Za0,Za1,Za2,Za3,Za4,Za5,Za9,Zba,Zbb,Zcz,Zc5,Zev,Zez,Ze0,Ze2,Ze3,Ze4,Ze5,Zfc,Zfd,Zfe,Zff,Zfg,Zfh,Zhf,Ziq,Zir,Zix,Ziz,Zi0,Zi1,Zmt,Zmv,Zmw,Zmx,Zmz,Zm2,Zna,Znb,Znc,Zo3,Zo7,eq_self,true_and,and_true,Nat.zero_add,Nat.mul_one,h0]
    tactic =>
    refine ⟨⟨cB_okF l, hl, by omega⟩, ?_⟩
    refine endA ?_
    sym =>
    simp [Zfc,Znh,Zp0,Zp1,Zp2,eq_self,true_and,and_true,Nat.zero_add,Nat.mul_one,h0,h1]
    tactic =>
    exact ⟨Nat.le_refl _, h2⟩
/-- A stream going out. -/
abbrev oV (src : List Int) (t : Int) (s o : List Rg) (T : Tm) : AV := .ag [fB src, I t, fR s, fR o, Bo T.1, I T.2.1, I T.2.2]
def tmF (t : Int) (s : List Rg) (T : Tm) : Tm := if lfF t s = 0 then offT else T
theorem TOk.timed {t : Int} {s : List Rg} {T : Tm} (h : TOk T) : TOk (tmF t s T) := by
  unfold tmF
  split
  · exact TOk.off
  · exact h
theorem timed_con (src : List Int) (t : Int) (s o : List Rg) (T : Tm) (hs : s.length < 1000000) : Con Try.prog 69 [] [oV src t s o T] [] (oV src t s o (tmF t s T)) := by
  refine con_j b69 rfl ?_
  sym =>
  simp [Zab,Zad,Zam,Zaz,Za0,Za1,Za2,Za3,Za4,Za5,Za9,Zba,Zbt,Zbv,Zcv,Zcx,Zdc,Zdd,Zde,Zev,Zew,Zez,Ze0,Ze2,Ze3,Ze5,Ze8,Zfc,Zfd,Zfe,Zgr,Zgs,Zgt,Zgv,Zgw,Zgx,Zin,Zio,Zip,Zi6,Zla,Zlb,Zlc,Zld,Zle,Zlf,Zlh,Zlk,Zlm,Zm5,Zm7,Zm9,Zna,Znb,Zne,Znf,Zng,Zos,Zot,Zo7,eq_self,true_and,and_true,callable_76]
  tactic =>
  refine cl none (done_con t s o hs) trivial ?_
  by_cases h : lfF t s = 0
  · have e : tmF t s T = offT := if_pos h
    rw [e]
    sym =>
    simp [Zab,Zae,Zaf,Zal,Zam,Zaz,Za0,Za1,Za2,Za3,Za4,Za5,Za9,Zba,Zbt,Zbv,Zdc,Zdd,Zde,Zdi,Zev,Zew,Zez,Ze0,Ze2,Ze5,Ze8,Zfc,Zfd,Zfe,Zgr,Zgs,Zgt,Zgv,Zgw,Zgx,Zjw,Zla,Zlb,Zlc,Zld,Zle,Zlf,Zlh,Zlk,Zlz,Zm5,Zm7,Zm9,Zna,Znb,Zne,Znf,Zng,Zo7,Zo8,eq_self,true_and,and_true,h,callable_107]
    tactic =>
    refine cl none (stop_con T) trivial ?_
    unfold offT
    sym =>
    simp [Zab,Zad,Zak,Zam,Zaz,Za0,Za1,Za2,Za3,Za4,Za5,Za9,Zba,Zbt,Zbv,Zc3,Zdi,Zev,Zez,Ze0,Ze1,Ze2,Ze3,Ze5,Ze8,Zfc,Zfd,Zfe,Zgr,Zgs,Zgt,Zgv,Zgw,Zgx,Ziu,Ziv,Ziw,Zi6,Zjh,Zji,Zjn,Zjq,Zjs,Zjv,Zj7,Zkv,Zkw,Zkx,Zlz,Zmt,Zmv,Zmw,Zmy,Zm0,Zm1,Zm2,Zm5,Zm7,Zm9,Zna,Znb,Znn,Zno,Znp,Zof,Zog,Zo7,eq_self,true_and,and_true]
    tactic =>
    refine endA ?_
    sym =>
    simp [Zpa,Zpg,Zp8,Zqb,Zqc,eq_self,and_true]
  · have e : tmF t s T = T := if_neg h
    rw [e]
    sym =>
    simp [Zaa,Zab,Zad,Zae,Zaf,Zak,Zal,Zam,Zaz,Za0,Za1,Za2,Za3,Za4,Za5,Za9,Zba,Zbt,Zc3,Zdi,Zev,Zez,Ze0,Ze1,Ze2,Ze3,Ze5,Ze8,Zfc,Zfd,Zfe,Zgr,Zgs,Zgt,Ziu,Ziv,Ziw,Zi6,Zjh,Zji,Zjn,Zjs,Zjw,Zj7,Zlz,Zmt,Zmv,Zmw,Zmy,Zm0,Zm1,Zm2,Zm5,Zm7,Zm9,Zna,Znb,Znn,Zno,Znp,Zo7,Zo9,eq_self,true_and,and_true,h]
    tactic =>
    refine endA ?_
    sym =>
    simp [Zpa,Zpg,Zp8,Zqb,Zqc,eq_self,and_true]
theorem bnew_con (src : List Int) (b : Int) (hl : src.length ≤ 16777216) (hp : plF (IN src.length) b = true) :
    Con Try.prog 31 [] [fB src, I b] [] (.tu [oV src (IN src.length) (addS [] 0 b) [] (tmF (IN src.length) (addS [] 0 b) oneT), I 0]) := by
  have h1 : ¬ IN src.length < 0 := by simp only [IN]; omega
  have h2 : ¬ (1099511627776 : Int) < IN src.length := by simp only [IN]; omega
  have h3 := addS_length [] 0 b
  simp only [List.length_nil] at h3
  refine con_j b31 rfl ?_
  sym =>
  simp [Zab,Zad,Zam,Zaz,Za0,Za1,Za2,Za3,Za4,Za5,Za9,Zba,Zbb,Zcn,Zcv,Zdc,Zdd,Zde,Zev,Zew,Zez,Ze0,Ze2,Ze3,Ze5,Zfd,Zfe,Zfh,Zh6,Zh7,Zin,Zla,Zlb,Zle,Zlj,Zna,Znb,Zne,Znf,Zng,Zos,Zot,Zo7,eq_self,true_and,and_true,callable_66]
  tactic =>
  refine cl none (new_yes (IN src.length) b h1 h2 hp) trivial ?_
  sym =>
  simp [Zaa,Zab,Zad,Zae,Zaf,Zal,Zam,Zaz,Za0,Za1,Za2,Za3,Za4,Za5,Za9,Zba,Zbb,Zbf,Zb7,Zcv,Zc3,Zdc,Zdd,Zde,Zdi,Zev,Zew,Zez,Ze0,Ze1,Ze2,Ze3,Ze5,Zfc,Zfd,Zfe,Zfh,Zfn,Zf0,Zhb,Zhc,Zin,Ziu,Ziv,Ziw,Zi6,Zjh,Zji,Zjn,Zjq,Zj7,Zka,Zkx,Zky,Zk0,Zk1,Zla,Zlb,Zle,Zlj,Zlz,Zl2,Zm9,Zna,Znb,Zne,Znf,Zng,Znn,Zno,Znp,Zo3,Zo7,Zo8,eq_self,true_and,and_true,callable_67]
  tactic =>
  refine cl none (start_con) trivial ?_
  sym =>
  simp [Zac,Zad,Zam,Zaz,Za0,Za1,Za2,Za3,Za4,Za5,Za9,Zba,Zbb,Zbc,Zb7,Zcv,Zc3,Zc7,Zc8,Zdi,Zdm,Zrk,Zrl,Zrm,Zrn,Zro,Zrq,Zrr,Zva,Zru,Zrx,Zry,Zrz,Zr5,Zsf,Zsh,Zsj,Zdp,Zdt,Zdu,Zd0,Zd1,Zeb,Zeq,Zet,Zev,Zew,Zez,Ze0,Ze1,Ze2,Ze3,Ze5,Zfc,Zfd,Zfe,Zfh,Zhb,Zhc,Zin,Ziu,Ziv,Ziw,Zi6,Zjh,Zji,Zjn,Zjq,Zjs,Zjv,Zkw,Zkx,Zky,Zkz,Zk0,Zk1,Zk2,Zll,Zlz,Zm9,Zna,Znb,Zne,Znf,Zng,Znn,Zno,Znp,Zo7,eq_self,true_and,and_true,callable_68]
  tactic =>
  refine clG [] none (clone_con src (by omega)) rfl ⟨trivial, trivial, rfl⟩ ?_
  unfold oneT
  sym =>
  simp [Za2,Za3,Zbu,Zca,Zc7,Zc8,Zdf,Zdg,Zdh,Zsm,Zsn,Zso,Zsr,Zsw,Zdp,Zdt,Zdu,Zdv,Zdw,Zdx,Zdy,Zdz,Zd0,Zd1,Zd3,Zeb,Zec,Zek,Zen,Zeq,Zer,Zes,Zet,Zev,Zew,Zez,Ze0,Ze2,Ze5,Ze8,Zfc,Zfd,Zfe,Zgr,Zgs,Zgt,Zhd,Zhe,Zhf,Zhg,Zhh,Zi6,Zjb,Zla,Zlb,Zlc,Zld,Zle,Zlf,Zlh,Zlk,Zlm,Zl2,Zm5,Zm7,Zm9,Zna,Znb,Zne,Znf,Zng,Znn,Zno,Znp,Zof,Zog,Zo7,eq_self,true_and,and_true,callable_69]
  tactic =>
  refine cl none (timed_con src (IN src.length) (addS [] 0 b) [] (true, 1, 1) (by omega)) trivial ?_
  sym =>
  simp [Zak,Zam,Zaz,Za0,Za1,Za2,Za3,Zbc,Zc4,Zc7,Zc8,Zc9,Zdj,Zdk,Zdm,Zdo,Zdp,Zdt,Zdu,Zdv,Zdw,Zdx,Zdy,Zdz,Zd0,Zd1,Zd2,Zd3,Zec,Zek,Zen,Zer,Zes,Zev,Zez,Ze0,Ze1,Ze2,Ze3,Ze5,Zfc,Zfd,Zfe,Zfh,Ziu,Ziv,Ziw,Zi6,Zjh,Zji,Zjn,Zjs,Zj7,Zka,Zkv,Zkx,Zlz,Zl2,Zmt,Zmv,Zmw,Zmx,Zmy,Zmz,Zm0,Zm1,Zm3,Zm5,Zm7,Zm9,Zna,Znb,Zne,Znn,Zno,Znp,Zo7,eq_self,true_and,and_true]
  tactic =>
  refine endA ?_
  sym =>
  simp [Zpa,Zpb,Zpg,Zp7,Zp9,Zqb,Zqc,Zqd,Zqe,eq_self,and_true]
theorem base_con' (src : List Int) (t : Int) (s o : List Rg) (T : Tm) (hs : s.length < 1000000) : Con Try.prog 34 [] [oV src t s o T] [] (I (endF (lim 0) s)) := by
  refine con_j b34 rfl ?_
  sym =>
  simp [Zab,Zad,Zam,Zaz,Za0,Za1,Za2,Za3,Za4,Za5,Za9,Zba,Zbb,Zbt,Zbv,Zcx,Zdc,Zdd,Zde,Zev,Zew,Zez,Ze0,Ze2,Ze3,Ze5,Ze8,Zfc,Zfd,Zfe,Zfh,Zgr,Zgs,Zgt,Zgv,Zgw,Zgx,Zio,Zip,Zi6,Zla,Zlb,Zlc,Zld,Zle,Zlf,Zlh,Zlk,Zlm,Zm5,Zm7,Zm9,Zna,Znb,Zne,Znf,Zng,Zos,Zot,Zo7,eq_self,true_and,and_true,callable_73]
  tactic =>
  refine cl none (base_con t s o hs) trivial ?_
  sym =>
  simp [Zak,Zam,Zaz,Za0,Za1,Za2,Za3,Za4,Za5,Za9,Zba,Zbb,Zdi,Zev,Zez,Ze0,Ze2,Zfd,Zfe,Zfh,Zjr,Zlz,Zmt,Zmv,Zmw,Zmx,Zmz,Zm2,Zo7,eq_self,true_and]
  tactic =>
  refine endA ?_
  sym =>
  simp [Zpc,eq_self]
theorem bdone_con (src : List Int) (t : Int) (s o : List Rg) (T : Tm) (hs : s.length < 1000000) : Con Try.prog 36 [] [oV src t s o T] [] (Bo (decide (lfF t s = 0))) := by
  refine con_j b36 rfl ?_
  sym =>
  simp [Zab,Zad,Zam,Zaz,Za0,Za1,Za2,Za3,Za4,Za5,Za9,Zba,Zbb,Zbt,Zbv,Zcx,Zdc,Zdd,Zde,Zev,Zew,Zez,Ze0,Ze2,Ze3,Ze5,Ze8,Zfc,Zfd,Zfe,Zfh,Zgr,Zgs,Zgt,Zgv,Zgw,Zgx,Zio,Zip,Zi6,Zla,Zlb,Zlc,Zld,Zle,Zlf,Zlh,Zlk,Zlm,Zm5,Zm7,Zm9,Zna,Znb,Zne,Znf,Zng,Zos,Zot,Zo7,eq_self,true_and,and_true,callable_76]
  tactic =>
  refine cl none (done_con t s o hs) trivial ?_
  sym =>
  simp [Zak,Zam,Zaz,Za0,Za1,Za2,Za3,Za4,Za5,Za9,Zba,Zbb,Zdi,Zev,Zez,Ze0,Ze2,Zfd,Zfe,Zfh,Zjw,Zlz,Zmt,Zmv,Zmw,Zmx,Zmz,Zm2,Zo7,eq_self,true_and]
  tactic =>
  refine endA ?_
  sym =>
  simp [Zpc,eq_self]
def otF (t : Int) (s o : List Rg) (T : Tm) : List Rg := if (tkF T).2 = true then [] else o
theorem btick_con (src : List Int) (t : Int) (s o : List Rg) (T : Tm) (hT : TOk T) : Con Try.prog 35 [] [oV src t s o T] [] (.tu [oV src t s (otF t s o T) (tkF T).1, Bo (tkF T).2]) := by
  refine con_j b35 rfl ?_
  sym =>
  simp [Zab,Zad,Zam,Zaz,Za0,Za1,Za2,Za3,Za4,Za5,Za9,Zba,Zbb,Zbt,Zbv,Zcv,Zcx,Zdc,Zdd,Zde,Zev,Zew,Zez,Ze0,Ze2,Ze3,Ze5,Ze8,Zfc,Zfd,Zfe,Zfh,Zgr,Zgs,Zgt,Zgv,Zgw,Zgx,Zin,Zio,Zip,Zi6,Zla,Zlb,Zlc,Zld,Zle,Zlf,Zlh,Zlk,Zm5,Zm7,Zm9,Zna,Znb,Zne,Znf,Zng,Zos,Zot,Zo7,eq_self,true_and,and_true,callable_74]
  tactic =>
  refine cl none (ttick_con T hT) trivial ?_
  by_cases h : (tkF T).2 = true
  · have e : otF t s o T = [] := if_pos h
    rw [e]
    sym =>
    simp [Zab,Zad,Zae,Zaf,Zal,Zam,Zay,Zaz,Za0,Za1,Za2,Za3,Za4,Za5,Za9,Zba,Zbb,Zbt,Zbv,Zb7,Zcv,Zc3,Zdc,Zdd,Zde,Zdi,Zev,Zew,Zez,Ze0,Ze1,Ze2,Ze3,Ze5,Ze8,Zfc,Zfd,Zfe,Zfh,Zgr,Zgs,Zgt,Zgv,Zgw,Zgx,Zhb,Zhc,Zin,Ziu,Ziv,Ziw,Zi6,Zjh,Zji,Zjn,Zjq,Zjs,Zjv,Zkw,Zkx,Zky,Zkz,Zk0,Zk1,Zk2,Zla,Zlb,Zlc,Zld,Zle,Zlf,Zlh,Zlk,Zlm,Zlz,Zm5,Zm7,Zm9,Zna,Znb,Zne,Znf,Zng,Znn,Zno,Znp,Zo7,eq_self,true_and,and_true,h,callable_75]
    tactic =>
    refine cl none (lose_con t s o) trivial ?_
    sym =>
    simp [Zab,Zad,Zak,Zam,Zaz,Za0,Za1,Za2,Za3,Za4,Za5,Za9,Zba,Zbb,Zbt,Zbv,Zc3,Zdi,Zev,Zez,Ze0,Ze1,Ze2,Ze3,Ze5,Ze8,Zfc,Zfd,Zfe,Zfh,Zgr,Zgs,Zgt,Zgv,Zgw,Zgx,Ziu,Ziv,Ziw,Zi6,Zjh,Zji,Zjn,Zjq,Zjs,Zj7,Zka,Zkv,Zkx,Zlz,Zl2,Zmt,Zmv,Zmw,Zmx,Zmy,Zmz,Zm0,Zm1,Zm3,Zm5,Zm7,Zm9,Zna,Znb,Znn,Zno,Znp,Zo7,eq_self,true_and,and_true]
    tactic =>
    refine endA ?_
    sym =>
    simp [Zpa,Zpb,Zpg,Zp7,Zp9,Zqb,Zqc,Zqd,Zqe,eq_self,and_true]
  · have e : otF t s o T = o := if_neg h
    have h : (tkF T).2 = false := by cases hh : (tkF T).2; rfl; exact absurd hh h
    rw [e]
    sym =>
    simp [Zaa,Zab,Zad,Zae,Zaf,Zak,Zal,Zam,Zay,Zaz,Za0,Za1,Za2,Za3,Za4,Za5,Za9,Zba,Zbb,Zbt,Zbv,Zb7,Zcv,Zc3,Zdi,Zev,Zez,Ze0,Ze1,Ze2,Ze3,Ze5,Ze8,Zfc,Zfd,Zfe,Zfh,Zgr,Zgs,Zgt,Zgv,Zgw,Zgx,Zhb,Zhc,Zin,Ziu,Ziv,Ziw,Zi6,Zjh,Zji,Zjn,Zjq,Zjs,Zjv,Zj7,Zkw,Zkx,Zky,Zkz,Zk0,Zk1,Zk2,Zlz,Zmt,Zmv,Zmw,Zmx,Zmy,Zmz,Zm0,Zm1,Zm3,Zm5,Zm7,Zm9,Zna,Znb,Znn,Zno,Znp,Zo7,eq_self,true_and,and_true,h]
    tactic =>
    refine endA ?_
    sym =>
    simp [Zpa,Zpb,Zpg,Zp7,Zp9,Zqb,Zqc,Zqd,Zqe,eq_self,and_true]
/-- What the acknowledgement makes of what came and what is out. -/
def acB (t : Int) (s : List Rg) (off : Int) : Bool := plF t off && !decide (off < endF (lim 0) s)
def acS (t : Int) (s : List Rg) (off : Int) (l : List Rg) : List Rg := if acB t s off = true then akF t off s l else s
def acO (t : Int) (s o : List Rg) (off : Int) (l : List Rg) : List Rg := if acB t s off = true then stF (akF t off s l) o (segs t (endF (lim 0) (akF t off s l))) else o
def acM (t : Int) (s : List Rg) (off : Int) (l : List Rg) : Bool := acB t s off && decide (lfF t (akF t off s l) < lfF t s)
def acT (t : Int) (s : List Rg) (off : Int) (l : List Rg) (T : Tm) : Tm := tmF t (acS t s off l) (if acM t s off l = true then agF T else T)
theorem ack_con (t : Int) (s o : List Rg) (off : Int) (l : List Rg) (ht : 0 ≤ t ∧ t ≤ 20000) (hs : Ok t s) (ho : Ok t o) (hl : l.length < 100000) :
    Con Try.prog 71 [] [wV t s o, I off, fR l] [] (.tu [wV t (acS t s off l) (acO t s o off l), Bo (acM t s off l)]) := by
  have ls := hs.len ht
  have lo := ho.len ht
  by_cases h : acB t s off = true
  · have h1 : plF t off = true ∧ ¬ off < endF (lim 0) s := by simpa [acB] using h
    have e1 : acS t s off l = akF t off s l := if_pos h
    have e2 : acO t s o off l = stF (akF t off s l) o (segs t (endF (lim 0) (akF t off s l))) := if_pos h
    have e3 : acM t s off l = decide (lfF t (akF t off s l) < lfF t s) := by simp [acM, h]
    have hS := (ak_ok (off := off) (by omega : 0 ≤ t ∧ t ≤ 1099511627776) hs ((plF_iff t off).1 h1.1).2.1 l).1
    have bS := hS.base ht.1
    rw [e1, e2, e3]
    exact ack_yes t off s o l (by omega) (by omega) hl (by omega) _ rfl h1.1 h1.2 _ rfl (by omega)
  · have e1 : acS t s off l = s := if_neg h
    have e2 : acO t s o off l = o := if_neg h
    have e3 : acM t s off l = false := by simp [acM, h]
    rw [e1, e2, e3]
    refine ack_no t off s o l (by omega) _ rfl ?_
    cases hp : plF t off
    · exact .inl rfl
    · right
      apply Decidable.byContradiction
      intro hn
      exact h (by simp [acB, hp, hn])
theorem ac_ok {t : Int} {s o : List Rg} (off : Int) (l : List Rg) (ht : 0 ≤ t ∧ t ≤ 1099511627776) (hs : Ok t s) (ho : Ok t o) :
    Ok t (acS t s off l) ∧ Ok t (acO t s o off l) ∧ (∀ p, mem s p → mem (acS t s off l) p) ∧ sz s ≤ sz (acS t s off l) := by
  unfold acS acO
  split
  · rename_i h
    have h1 : plF t off = true ∧ ¬ off < endF (lim 0) s := by simpa [acB] using h
    obtain ⟨a, b, c⟩ := ak_ok (off := off) ht hs ((plF_iff t off).1 h1.1).2.1 l
    exact ⟨a, stF_ok ht, b, c⟩
  · exact ⟨hs, ho, fun _ h => h, Int.le_refl _⟩
theorem back_con (src : List Int) (t : Int) (s o : List Rg) (T : Tm) (off : Int) (l : List Rg) (ht : 0 ≤ t ∧ t ≤ 20000) (hs : Ok t s) (ho : Ok t o) (hl : l.length < 100000) :
    Con Try.prog 33 [] [oV src t s o T, I off, fR l] [] (.tu [oV src t (acS t s off l) (acO t s o off l) (acT t s off l T), Bo (acM t s off l)]) := by
  have hok := (ac_ok off l (by omega : 0 ≤ t ∧ t ≤ 1099511627776) hs ho).1
  have hlen := hok.len ht
  refine con_j b33 rfl ?_
  sym =>
  simp [Zab,Zad,Zam,Zaz,Za0,Za1,Za2,Za3,Za4,Za5,Za9,Zba,Zbb,Zbt,Zbv,Zcv,Zcx,Zdc,Zdd,Zde,Zev,Zew,Zez,Ze0,Ze2,Ze3,Ze5,Ze8,Zfc,Zfd,Zfe,Zfh,Zgr,Zgs,Zgt,Zgv,Zgw,Zgx,Zin,Zio,Zip,Zi6,Zla,Zlb,Zlc,Zld,Zle,Zlf,Zlh,Zlj,Zlk,Zll,Zlm,Zm5,Zm7,Zm9,Zna,Znb,Zne,Znf,Zng,Zos,Zot,Zo7,eq_self,true_and,and_true,callable_71]
  tactic =>
  refine cl none (ack_con t s o off l ht hs ho hl) trivial ?_
  unfold acT
  by_cases h : acM t s off l = true
  · rw [if_pos h]
    sym =>
    simp [Zab,Zad,Zae,Zaf,Zal,Zam,Zay,Zaz,Za0,Za1,Za2,Za3,Za4,Za5,Za9,Zba,Zbb,Zbt,Zbv,Zb7,Zcv,Zc3,Zdc,Zdd,Zde,Zdi,Zev,Zew,Zez,Ze0,Ze1,Ze2,Ze3,Ze5,Ze8,Zfc,Zfd,Zfe,Zfh,Zgr,Zgs,Zgt,Zgv,Zgw,Zgx,Zhb,Zhc,Zin,Ziu,Ziv,Ziw,Zi6,Zjh,Zji,Zjn,Zjq,Zj7,Zka,Zkx,Zky,Zk0,Zk1,Zla,Zlb,Zlc,Zld,Zle,Zlf,Zlh,Zlk,Zlz,Zl2,Zm5,Zm7,Zm9,Zna,Znb,Zne,Znf,Zng,Znn,Zno,Znp,Zo7,eq_self,true_and,and_true,h,callable_72]
    tactic =>
    refine cl none (again_con T) trivial ?_
    sym =>
    simp [Zab,Zad,Zam,Zaz,Za0,Za1,Za2,Za3,Za4,Za5,Za9,Zba,Zbt,Zbv,Zc3,Zdc,Zdd,Zde,Zdi,Zev,Zew,Zez,Ze0,Ze1,Ze2,Ze3,Ze5,Ze8,Zfc,Zfd,Zfe,Zgr,Zgs,Zgt,Zgv,Zgw,Zgx,Ziu,Ziv,Ziw,Zi6,Zjh,Zji,Zjn,Zjq,Zjs,Zjv,Zkv,Zkw,Zkx,Zla,Zlb,Zlc,Zld,Zle,Zlf,Zlh,Zlk,Zlm,Zlz,Zm5,Zm7,Zm9,Zna,Znb,Zne,Znf,Zng,Znn,Zno,Znp,Zo7,eq_self,true_and,and_true,callable_69]
    tactic =>
    refine cl none (timed_con src t (acS t s off l) (acO t s o off l) (agF T) (by omega)) trivial ?_
    sym =>
    simp [Zak,Zam,Zaz,Za0,Za1,Za2,Za3,Za4,Za5,Za9,Zba,Zbb,Zc3,Zdi,Zev,Zez,Ze0,Ze1,Ze2,Ze3,Ze5,Zfc,Zfd,Zfe,Zfh,Ziu,Ziv,Ziw,Zi6,Zjh,Zji,Zjn,Zjs,Zj7,Zka,Zkv,Zkx,Zlz,Zl2,Zmt,Zmv,Zmw,Zmx,Zmy,Zmz,Zm0,Zm1,Zm3,Zm5,Zm7,Zm9,Zna,Znb,Znn,Zno,Znp,Zo7,eq_self,true_and,and_true]
    tactic =>
    refine endA ?_
    sym =>
    simp [Zpa,Zpb,Zpg,Zp7,Zp9,Zqb,Zqc,Zqd,Zqe,eq_self,and_true]
  · rw [if_neg h]
    have h : acM t s off l = false := by cases hh : acM t s off l; rfl; exact absurd hh h
    sym =>
    simp [Zaa,Zab,Zad,Zae,Zaf,Zal,Zam,Zay,Zaz,Za0,Za1,Za2,Za3,Za4,Za5,Za9,Zba,Zbb,Zbt,Zbv,Zb7,Zcv,Zc3,Zdc,Zdd,Zde,Zdi,Zev,Zew,Zez,Ze0,Ze1,Ze2,Ze3,Ze5,Ze8,Zfc,Zfd,Zfe,Zfh,Zgr,Zgs,Zgt,Zgv,Zgw,Zgx,Zhb,Zhc,Zin,Ziu,Ziv,Ziw,Zi6,Zjh,Zji,Zjn,Zjq,Zj7,Zka,Zkx,Zky,Zk0,Zk1,Zla,Zlb,Zlc,Zld,Zle,Zlf,Zlh,Zlk,Zlm,Zlz,Zl2,Zm5,Zm7,Zm9,Zna,Znb,Zne,Znf,Zng,Znn,Zno,Znp,Zo7,eq_self,true_and,and_true,h,callable_69]
    tactic =>
    refine cl none (timed_con src t (acS t s off l) (acO t s o off l) T (by omega)) trivial ?_
    sym =>
    simp [Zak,Zam,Zaz,Za0,Za1,Za2,Za3,Za4,Za5,Za9,Zba,Zbb,Zc3,Zdi,Zev,Zez,Ze0,Ze1,Ze2,Ze3,Ze5,Zfc,Zfd,Zfe,Zfh,Ziu,Ziv,Ziw,Zi6,Zjh,Zji,Zjn,Zjs,Zj7,Zka,Zkv,Zkx,Zlz,Zl2,Zmt,Zmv,Zmw,Zmx,Zmy,Zmz,Zm0,Zm1,Zm3,Zm5,Zm7,Zm9,Zna,Znb,Znn,Zno,Znp,Zo7,eq_self,true_and,and_true]
    tactic =>
    refine endA ?_
    sym =>
    simp [Zpa,Zpb,Zpg,Zp7,Zp9,Zqb,Zqc,Zqd,Zqe,eq_self,and_true]
end Go.Proofs.Ytbmdahhhgpbchaa.ObB
