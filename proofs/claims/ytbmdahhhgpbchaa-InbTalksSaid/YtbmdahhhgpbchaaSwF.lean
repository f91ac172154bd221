import Derived.Test.YtbmdahhhgpbchaaSwD
namespace Go.Proofs.Ytbmdahhhgpbchaa.SwF
open Go Go.Sim Go.Sim.E Go.RowKit Go.Proofs Go.Proofs.Ytbmdahhhgpbchaa.Cod Go.Proofs.Ytbmdahhhgpbchaa.Tab Go.Proofs.Ytbmdahhhgpbchaa.Bse Go.Proofs.Ytbmdahhhgpbchaa.SpnP Go.Proofs.Ytbmdahhhgpbchaa.SwA Go.Proofs.Ytbmdahhhgpbchaa.SwB Go.Proofs.Ytbmdahhhgpbchaa.SwC Go.Proofs.Ytbmdahhhgpbchaa.SwS Go.Proofs.Ytbmdahhhgpbchaa.SwD
set_option linter.unusedVariables false
set_option linter.unusedSimpArgs false
set_option maxRecDepth 100000
set_option maxHeartbeats 4000000
def lfF (t : Int) (s : List Rg) : Int := IntKind.i64.wrap (t - sumR s)
theorem left_con' (t : Int) (s o : List Rg) (hs : s.length < 1000000) : Con Try.prog 110 [] [wV t s o] [] (I (lfF t s)) := left_con t s o hs
def ak1 (t off : Int) (acc : List Rg) (r : Rg) : List Rg := if plF t r.1 && (plF t r.2 && decide (off ≤ r.1)) then addS acc r.1 r.2 else acc
def akF (t off : Int) (s l : List Rg) : List Rg := l.foldl (ak1 t off) (addS s 0 off)
theorem ak_length (t off : Int) : ∀ l acc : List Rg, (l.foldl (ak1 t off) acc).length ≤ acc.length + l.length := by
  intro xs
  induction xs with
  | nil => intro acc; simp
  | cons x xs ih =>
    intro acc
    have h1 := ih (ak1 t off acc x)
    have h2 : (ak1 t off acc x).length ≤ acc.length + 1 := by
      unfold ak1
      split
      · exact addS_length _ _ _
      · omega
    simp only [List.foldl_cons, List.length_cons]
    omega
def i54 (t off : Int) (s o l : List Rg) (k : Nat) (q : St) : Prop := ∃ i : Nat, i + k = l.length ∧
  q = ⟨[(1, I off), (3, .pt 0 0), (6, .pt 1 0), (8, I (lfF t s)), (29, fR l), (30, I (IN l.length)), (31, I (IN i))], [(0, ⟨wC t (akF t off s (l.take i)) o, 1, 0⟩), (1, ⟨[I 0, .nl, .nl], 1, 0⟩)], 2⟩
theorem ack_no (t off : Int) (s o l : List Rg) (hs : s.length < 100000) (b : Int) (hb : endF (lim 0) s = b) (h : plF t off = false ∨ off < b) :
    Con Try.prog 71 [] [wV t s o, I off, fR l] [] (.tu [wV t s o, Bo false]) := by
  refine con_j b71 rfl ?_
  sym =>
  simp [Zab,Zad,Zam,Zaz,Za0,Za1,Za2,Za3,Za4,Za5,Za9,Zba,Zbb,Zbt,Zcv,Zcx,Zdc,Zdd,Zde,Zev,Zew,Zez,Ze0,Ze2,Ze3,Ze5,Ze8,Zfc,Zfd,Zfe,Zfh,Zgr,Zgs,Zgt,Zin,Zio,Zip,Zi6,Zla,Zlb,Zlc,Zld,Zle,Zlf,Zlh,Zlj,Zlk,Zlm,Zm5,Zm7,Zm9,Zna,Znb,Zne,Znf,Zng,Zos,Zot,Zo7,eq_self,true_and,and_true,callable_105]
  tactic =>
  refine cl none (place_con t off s o) trivial ?_
  by_cases hp : plF t off = true
  · sym =>
    simp [Za5,Za6,Za7,Za9,Zba,Zbb,Zbj,Zbt,Zdc,Zdd,Zde,Zdi,Zev,Zew,Zex,Zez,Ze0,Ze2,Ze5,Ze8,Zfc,Zfd,Zfe,Zfh,Zgd,Zgg,Zgr,Zgs,Zgt,Zjw,Zla,Zlb,Zlc,Zld,Zle,Zlf,Zlh,Zlk,Zlm,Zlz,Zm5,Zm7,Zm9,Zna,Znb,Zne,Znf,Zng,Zo3,eq_self,true_and,and_true,hp,callable_73]
    tactic =>
    refine cl none (base_con t s o (by omega)) trivial ?_
    rw [hb]
    have h2 : off < b := by
      rcases h with h | h
      · rw [hp] at h; cases h
      · exact h
    sym =>
    simp [Zab,Zad,Zae,Zaf,Zak,Zal,Zam,Zao,Zaz,Za0,Za1,Za2,Za3,Za4,Za5,Za6,Za7,Za9,Zba,Zbb,Zbd,Zbf,Zbt,Zc3,Zdi,Zev,Zew,Zex,Zez,Ze0,Ze1,Ze2,Ze3,Ze5,Ze8,Zfc,Zfd,Zfe,Zfh,Zfi,Zfl,Zfn,Zf1,Zgr,Zgs,Zgt,Ziu,Ziv,Ziw,Zi6,Zjh,Zji,Zjn,Zjr,Zj7,Zlz,Zmt,Zmv,Zmw,Zmx,Zmy,Zmz,Zm0,Zm1,Zm3,Zm5,Zm7,Zm9,Zna,Znb,Znn,Zno,Znp,Zo7,Zo8,eq_self,true_and,and_true,h2]
    tactic =>
    refine endA ?_
    sym =>
    simp [Zpa,Zpb,Zpg,Zp7,Zp9,Zqb,Zqc,Zqd,Zqe,eq_self,and_true]
  · simp only [Bool.not_eq_true] at hp
    sym =>
    simp [Zab,Zad,Zae,Zaf,Zak,Zal,Zam,Zao,Zaz,Za0,Za1,Za2,Za3,Za4,Za5,Za6,Za7,Za8,Za9,Zba,Zbb,Zbd,Zbj,Zbt,Zc3,Zdi,Zev,Zew,Zex,Zez,Ze0,Ze1,Ze2,Ze3,Ze5,Ze8,Zfc,Zfd,Zfe,Zfh,Zfi,Zfj,Zgd,Zgg,Zgr,Zgs,Zgt,Ziu,Ziv,Ziw,Zi6,Zjh,Zji,Zjn,Zjw,Zj7,Zlz,Zmt,Zmv,Zmw,Zmx,Zmy,Zmz,Zm0,Zm1,Zm3,Zm5,Zm7,Zm9,Zna,Znb,Znn,Zno,Znp,Zo4,Zo6,Zo7,eq_self,true_and,and_true,hp]
    tactic =>
    refine endA ?_
    sym =>
    simp [Zpa,Zpb,Zpg,Zp7,Zp9,Zqb,Zqc,Zqd,Zqe,eq_self,and_true]
theorem ack_yes (t off : Int) (s o l : List Rg) (hs : s.length < 100000) (ho : o.length < 100000) (hl : l.length < 100000) (ht : 0 ≤ t ∧ t ≤ 1099511627776) (b : Int) (hb : endF (lim 0) s = b) (hp : plF t off = true) (h2 : ¬ off < b)
    (b2 : Int) (hb2 : endF (lim 0) (akF t off s l) = b2) (hb0 : 0 ≤ b2 ∧ b2 ≤ 4611686018427387904) :
    Con Try.prog 71 [] [wV t s o, I off, fR l] [] (.tu [wV t (akF t off s l) (stF (akF t off s l) o (segs t b2)), Bo (decide (lfF t (akF t off s l) < lfF t s))]) := by
  refine con_j b71 rfl ?_
  sym =>
  simp [Zab,Zad,Zam,Zaz,Za0,Za1,Za2,Za3,Za4,Za5,Za9,Zba,Zbb,Zbt,Zcv,Zcx,Zdc,Zdd,Zde,Zev,Zew,Zez,Ze0,Ze2,Ze3,Ze5,Ze8,Zfc,Zfd,Zfe,Zfh,Zgr,Zgs,Zgt,Zin,Zio,Zip,Zi6,Zla,Zlb,Zlc,Zld,Zle,Zlf,Zlh,Zlj,Zlk,Zlm,Zm5,Zm7,Zm9,Zna,Znb,Zne,Znf,Zng,Zos,Zot,Zo7,eq_self,true_and,and_true,callable_105]
  tactic =>
  refine cl none (place_con t off s o) trivial ?_
  sym =>
  simp [Za5,Za6,Za7,Za9,Zba,Zbb,Zbj,Zbt,Zdc,Zdd,Zde,Zdi,Zev,Zew,Zex,Zez,Ze0,Ze2,Ze5,Ze8,Zfc,Zfd,Zfe,Zfh,Zgd,Zgg,Zgr,Zgs,Zgt,Zjw,Zla,Zlb,Zlc,Zld,Zle,Zlf,Zlh,Zlk,Zlm,Zlz,Zm5,Zm7,Zm9,Zna,Znb,Zne,Znf,Zng,Zo3,eq_self,true_and,and_true,hp,callable_73]
  tactic =>
  refine cl none (base_con t s o (by omega)) trivial ?_
  rw [hb]
  sym =>
  simp [Zaa,Zab,Zad,Zae,Zaf,Zal,Zam,Zaz,Za0,Za1,Za2,Za3,Za4,Za5,Za6,Za7,Za9,Zba,Zbd,Zbf,Zbt,Zdc,Zdd,Zde,Zdi,Zev,Zew,Zex,Zez,Ze0,Ze2,Ze5,Ze8,Zfc,Zfd,Zfe,Zfi,Zfl,Zfn,Zf1,Zgr,Zgs,Zgt,Zjr,Zla,Zlb,Zlc,Zld,Zle,Zlf,Zlh,Zlk,Zlm,Zlz,Zm5,Zm7,Zm9,Zna,Znb,Zne,Znf,Zng,Zo7,Zo9,eq_self,true_and,and_true,h2,callable_110]
  tactic =>
  refine cl none (left_con' t s o (by omega)) trivial ?_
  sym =>
  simp [Zab,Zad,Zam,Zaz,Za0,Za1,Za2,Za3,Za4,Za5,Za9,Zba,Zbb,Zbt,Zbv,Zdc,Zdd,Zde,Zdi,Zev,Zew,Zez,Ze0,Ze2,Ze5,Ze8,Zfc,Zfd,Zfe,Zfh,Zgr,Zgs,Zgt,Zgv,Zgw,Zgx,Zjr,Zla,Zlb,Zlc,Zld,Zle,Zlf,Zlh,Zlj,Zlm,Zlz,Zm5,Zm7,Zm9,Zna,Znb,Zne,Znf,Zng,Zo7,eq_self,true_and,and_true,callable_104]
  tactic =>
  refine cl none (adds_con s (by omega) 0 off) trivial ?_
  sym =>
  simp [Zab,Zad,Zag,Zah,Zam,Zaz,Za0,Za1,Za2,Za3,Za4,Za5,Za9,Zba,Zbb,Zbv,Zcn,Zc3,Zdi,Zev,Zew,Zez,Ze0,Ze1,Ze2,Ze3,Ze5,Zfc,Zfd,Zfe,Zfh,Zgv,Zgw,Zgx,Zh6,Zh7,Ziu,Ziv,Ziw,Zi6,Zjh,Zji,Zj7,Zka,Zkv,Zkx,Zlz,Zl2,Zna,Znb,Znn,Zno,Znp,Zo7,eq_self,true_and,and_true]
  tactic =>
  have z0 : (0 : Int) = IN 0 := rfl
  refine lpA (i54 t off s o l) l.length [(0, 0), (1, 1)] _ ⟨0, by omega, rfl⟩ (wkA ?_) ?_
  · sym =>
    simp [Za2,Za3,Zez,Zfc,Znr,Zn5,Zpa,Zpc,Zpd,Zpg,Zpi,Zpu,Zqb,Zqc,Zqf,Zqg,Zqh,Zqi,Zqk,Zql,Zqm,Zqn,eq_self,true_and,and_true]
    tactic =>
    and_intros <;> try (first | omega | rfl | assumption)
  rintro k q ⟨i, hi, rfl⟩
  have hal : (akF t off s (l.take i)).length ≤ s.length + 1 + i := by
    have h1 := ak_length t off (l.take i) (addS s 0 off)
    have h3 := addS_length s 0 off
    simp only [List.length_take] at h1
    unfold akF; omega
  by_cases h : i < l.length
  · have hi' := h
    have hw := w64s i (by omega)
    have h0 := cR_q0 l i hi'
    have h1 := cR_q1 l i hi'
    have e0 : akF t off s (l.take (i + 1)) = ak1 t off (akF t off s (l.take i)) l[i] := by rw [take_one l i hi', akF, List.foldl_append]; rfl
    sym =>
    simp [Zaa,Zab,Zad,Zae,Zaf,Zag,Zal,Zam,Zay,Zaz,Za0,Za1,Za2,Za3,Za4,Za5,Za9,Zba,Zbf,Zbt,Zbv,Zb1,Zcv,Zc3,Zdc,Zdd,Zde,Zev,Zew,Zez,Ze0,Ze1,Ze2,Ze3,Ze5,Ze8,Zfc,Zfd,Zfe,Zfn,Zf1,Zgr,Zgs,Zgt,Zgu,Zgv,Zgw,Zgx,Zg4,Zg6,Zho,Zin,Ziu,Ziv,Ziw,Zi6,Zjh,Zji,Zjn,Zla,Zlb,Zlc,Zld,Zle,Zlf,Zlh,Zlj,Zlk,Zlm,Zm5,Zm6,Zm7,Zm9,Zna,Znb,Zne,Znf,Zng,Znn,Zno,Znp,Zns,Znt,Znw,Zo7,Zo8,eq_self,true_and,and_true,h,h0,h1,cR_length,callable_105]
    tactic =>
    and_intros <;> try (first | omega | rfl | assumption)
    refine cl none (place_con t l[i].1 (akF t off s (l.take i)) o) trivial ?_
    by_cases p1 : plF t l[i].1 = true
    · sym =>
      simp [Za5,Za6,Za7,Za9,Zba,Zbb,Zbt,Zbv,Zdc,Zdd,Zde,Zdi,Zev,Zew,Zex,Zez,Ze0,Ze2,Ze5,Ze8,Zfc,Zfd,Zfe,Zfh,Zgr,Zgs,Zgt,Zgv,Zgw,Zgx,Zjw,Zla,Zlb,Zlc,Zld,Zle,Zlf,Zlh,Zlj,Zlk,Zlm,Zlz,Zm5,Zm6,Zm7,Zm9,Zna,Znb,Zne,Znf,Zng,eq_self,true_and,and_true,p1,callable_105]
      tactic =>
      refine cl none (place_con t l[i].2 (akF t off s (l.take i)) o) trivial ?_
      by_cases p2 : plF t l[i].2 = true
      · sym =>
        simp [Zae,Zaf,Zam,Zaz,Za0,Za1,Za2,Za3,Za4,Za5,Za6,Za7,Za9,Zba,Zbb,Zbd,Zbf,Zbt,Zbv,Zdi,Zev,Zew,Zex,Zez,Ze0,Ze2,Ze5,Ze8,Zfc,Zfd,Zfe,Zfh,Zfi,Zfl,Zfn,Zf4,Zgr,Zgs,Zgt,Zgv,Zgw,Zgx,Zjw,Zlz,Zm6,Zm9,Zna,Znb,Zou,Zo7,eq_self,true_and,p2]
        tactic =>
        by_cases p3 : off ≤ l[i].1
        · sym =>
          simp [Zab,Zal,Za0,Za1,Za2,Za3,Za5,Za9,Zba,Zbt,Zbv,Zdc,Zdd,Zde,Zev,Zew,Zez,Ze0,Ze2,Ze5,Ze8,Zfc,Zfd,Zfe,Zgr,Zgs,Zgt,Zgv,Zgw,Zgx,Zla,Zlb,Zlc,Zld,Zle,Zlf,Zlh,Zlj,Zlm,Zm5,Zm6,Zm7,Zm9,Zna,Znb,Zne,Znf,Zng,Zo7,Zo8,eq_self,true_and,and_true,p3,callable_104]
          tactic =>
          refine cl none (adds_con (akF t off s (l.take i)) (by omega) l[i].1 l[i].2) trivial ?_
          sym =>
          simp [Zab,Zam,Zap,Zav,Zaz,Za0,Za1,Za2,Za3,Za4,Za5,Za9,Zba,Zbb,Zbf,Zbv,Zc3,Zdi,Zev,Zew,Zez,Ze0,Ze1,Ze2,Ze3,Ze5,Zfc,Zfd,Zfe,Zfh,Zfn,Zfq,Zgv,Zgw,Zgx,Ziu,Ziv,Ziw,Zi6,Zjh,Zji,Zj7,Zka,Zkv,Zkx,Zlz,Zl2,Zna,Znb,Znn,Zno,Znp,Zo7,eq_self,true_and,and_true,hw]
          tactic =>
          have e1 : ak1 t off (akF t off s (l.take i)) l[i] = addS (akF t off s (l.take i)) l[i].1 l[i].2 := by simp [ak1, p1, p2, p3]
          unfold NextL; refine ⟨(k - 1), [(0, 0), (1, 1)], _, by omega, ⟨i + 1, by omega, rfl⟩, wkA ?_⟩
          rw [e0, e1]
          sym =>
          simp [Za2,Za3,Zez,Zfc,Znr,Zpa,Zpc,Zpd,Zpg,Zpi,Zpu,Zqb,Zqc,Zqf,Zqg,Zqh,Zqi,Zqk,Zql,Zqm,Zqn,eq_self,and_true]
        · sym =>
          simp [Zaa,Zab,Zal,Zam,Zap,Zav,Zaz,Za0,Za1,Za2,Za3,Za4,Za5,Za9,Zba,Zbb,Zbf,Zev,Zew,Zez,Ze0,Ze2,Zfd,Zfe,Zfh,Zfn,Zfq,Zna,Znb,Zo7,Zo9,eq_self,true_and,Bool.and_false,p3,hw]
          tactic =>
          have e1 : ak1 t off (akF t off s (l.take i)) l[i] = akF t off s (l.take i) := by simp [ak1, p3]
          unfold NextL; refine ⟨(k - 1), [(0, 0), (1, 1)], _, by omega, ⟨i + 1, by omega, rfl⟩, wkA ?_⟩
          rw [e0, e1]
          sym =>
          simp [Za2,Za3,Zez,Zfc,Znr,Zpa,Zpc,Zpd,Zpg,Zpi,Zpu,Zqb,Zqc,Zqf,Zqg,Zqh,Zqi,Zqk,Zql,Zqm,Zqn,eq_self,and_true]
      · simp only [Bool.not_eq_true] at p2
        sym =>
        simp [Zaa,Zab,Zae,Zaf,Zal,Zam,Zap,Zav,Zaz,Za0,Za1,Za2,Za3,Za4,Za5,Za6,Za7,Za8,Za9,Zba,Zbb,Zbd,Zbf,Zdi,Zev,Zew,Zex,Zez,Ze0,Ze2,Zfd,Zfe,Zfh,Zfi,Zfk,Zfl,Zfn,Zfq,Zjw,Zlz,Zna,Znb,Zo7,eq_self,true_and,Bool.and_false,Bool.false_and,p2,hw]
        tactic =>
        have e1 : ak1 t off (akF t off s (l.take i)) l[i] = akF t off s (l.take i) := by simp [ak1, p2]
        unfold NextL; refine ⟨(k - 1), [(0, 0), (1, 1)], _, by omega, ⟨i + 1, by omega, rfl⟩, wkA ?_⟩
        rw [e0, e1]
        sym =>
        simp [Za2,Za3,Zez,Zfc,Znr,Zpa,Zpc,Zpd,Zpg,Zpi,Zpu,Zqb,Zqc,Zqf,Zqg,Zqh,Zqi,Zqk,Zql,Zqm,Zqn,eq_self,and_true]
    · simp only [Bool.not_eq_true] at p1
      sym =>
      simp [Zaa,Zab,Zae,Zaf,Zal,Zam,Zap,Zav,Zaz,Za0,Za1,Za2,Za3,Za4,Za5,Za6,Za7,Za8,Za9,Zba,Zbb,Zbd,Zbf,Zdi,Zev,Zew,Zex,Zez,Ze0,Ze2,Zfd,Zfe,Zfh,Zfi,Zfk,Zfn,Zfq,Zjw,Zlz,Zna,Znb,Zo7,eq_self,true_and,Bool.false_and,p1,hw]
      tactic =>
      have e1 : ak1 t off (akF t off s (l.take i)) l[i] = akF t off s (l.take i) := by simp [ak1, p1]
      unfold NextL; refine ⟨(k - 1), [(0, 0), (1, 1)], _, by omega, ⟨i + 1, by omega, rfl⟩, wkA ?_⟩
      rw [e0, e1]
      sym =>
      simp [Za2,Za3,Zez,Zfc,Znr,Zpa,Zpc,Zpd,Zpg,Zpi,Zpu,Zqb,Zqc,Zqf,Zqg,Zqh,Zqi,Zqk,Zql,Zqm,Zqn,eq_self,and_true]
  · have et : l.take i = l := List.take_of_length_le (by omega)
    rw [et] at hal ⊢
    sym =>
    simp [Zab,Zad,Zae,Zaf,Zai,Zam,Zan,Zaq,Zaw,Zay,Za4,Za5,Za9,Zba,Zbf,Zbt,Zdc,Zdd,Zde,Zev,Zew,Zez,Ze0,Ze2,Ze5,Ze8,Zfc,Zfd,Zfe,Zfn,Zf1,Zgr,Zgs,Zgt,Zla,Zlb,Zlc,Zld,Zle,Zlf,Zlh,Zlk,Zlm,Zm5,Zm7,Zm9,Zna,Znb,Zne,Znf,Zng,Znt,Zo7,Zo9,eq_self,true_and,and_true,h,callable_111]
    tactic =>
    refine cl none (still_con t (akF t off s l) o (by omega) (by omega) ht b2 hb2 hb0) trivial ?_
    sym =>
    simp [Zac,Zad,Zam,Zaz,Za0,Za1,Za2,Za3,Za4,Za5,Za9,Zba,Zbu,Zbv,Zc3,Zc7,Zc8,Zdf,Zdg,Zdh,Zdi,Zdp,Zdt,Zdu,Zdv,Zdw,Zdx,Zdy,Zdz,Zd0,Zd1,Zd3,Zec,Zek,Zen,Zeq,Zer,Zes,Zet,Zev,Zew,Zez,Ze0,Ze1,Ze2,Ze3,Ze5,Ze8,Zfc,Zfd,Zfe,Zgr,Zgs,Zgt,Zgv,Zgw,Zgx,Ziu,Ziv,Ziw,Zi6,Zjh,Zji,Zj7,Zka,Zkv,Zkx,Zla,Zlb,Zlc,Zld,Zle,Zlf,Zlh,Zlk,Zlm,Zlz,Zl2,Zm5,Zm7,Zm9,Zna,Znb,Zne,Znf,Zng,Znn,Zno,Znp,Zo7,eq_self,true_and,and_true,callable_110]
    tactic =>
    refine cl none (left_con' t (akF t off s l) (stF (akF t off s l) o (segs t b2)) (by omega)) trivial ?_
    sym =>
    simp [Zak,Zam,Zaz,Za0,Za1,Za2,Za3,Zbc,Zbg,Zc4,Zc7,Zc8,Zc9,Zdj,Zdk,Zdo,Zdp,Zdt,Zdu,Zdv,Zdw,Zdx,Zdy,Zdz,Zd0,Zd1,Zd2,Zd3,Zec,Zek,Zen,Zer,Zes,Zev,Zez,Ze0,Ze1,Ze2,Ze3,Ze5,Zfc,Zfd,Zfe,Zfh,Zfn,Zf1,Ziu,Ziv,Ziw,Zi6,Zjh,Zji,Zjn,Zjr,Zj7,Zlz,Zmt,Zmv,Zmw,Zmx,Zmy,Zmz,Zm0,Zm1,Zm3,Zm5,Zm7,Zm9,Zna,Znb,Zne,Znn,Zno,Znp,Zo7,eq_self,true_and,and_true]
    tactic =>
    refine endA ?_
    sym =>
    simp [Zpa,Zpb,Zpg,Zp7,Zp9,Zqb,Zqc,Zqd,Zqe,eq_self,and_true]
end Go.Proofs.Ytbmdahhhgpbchaa.SwF
