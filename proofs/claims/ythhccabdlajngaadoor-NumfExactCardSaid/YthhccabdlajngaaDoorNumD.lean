import Derived.Test.YthhccabdlajngaaDoorNumC
namespace Go.Proofs.YthhccabdlajngaaDoor.NumD
open Go Go.Sim Go.Sim.E Go.RowKit Go.Proofs Go.Proofs.YthhccabdlajngaaDoor.Cod Go.Proofs.YthhccabdlajngaaDoor.Tab Go.Proofs.YthhccabdlajngaaDoor.Bse Go.Proofs.YthhccabdlajngaaDoor.NumA Go.Proofs.YthhccabdlajngaaDoor.NumB Go.Proofs.YthhccabdlajngaaDoor.NumC
set_option linter.unusedVariables false
set_option linter.unusedSimpArgs false
set_option maxRecDepth 100000
set_option maxHeartbeats 4000000
def vB (below : Bool) : Int := if below = true then -1 else 0
def fB8 (below : Bool) : Int := if below = true then 255 else 0
theorem ubG_no (f : Int) : ∀ (r : List Int) (n : Int), (ubG f n r).2 ≠ 0 → ubG f n r = (0, 10)
  | [], n, h => absurd rfl h
  | x :: r, n, h => by
    have ih := ubG_no f r (256 * n + x)
    rw [ubG] at h ⊢
    by_cases h1 : 8 < r.length + 1
    · rw [if_pos h1] at h ⊢
      by_cases h2 : x = f
      · rw [if_pos h2] at h ⊢; exact ih h
      · rw [if_neg h2]
    · rw [if_neg h1] at h ⊢
      by_cases h3 : r.length + 1 = 8
      · rw [if_pos h3] at h ⊢
        by_cases h2 : (x < 128 ↔ f < 128)
        · rw [if_pos h2] at h ⊢; exact ih h
        · rw [if_neg h2]
      · rw [if_neg h3] at h ⊢; exact ih h
/-- A number of base 256, and whether it is one. -/
def rbF (b : List Int) (below : Bool) : Int × Bool := if (ubG (fB8 below) (vB below) b).2 = 0 then ((ubG (fB8 below) (vB below) b).1, true) else (0, false)
def i29 (b : List Int) (below : Bool) (R : Int × Int) (k : Nat) (s : St) : Prop := ∃ c : List Int, c.length = k ∧ byt8 c ∧ c.length ≤ b.length ∧ ubG (fB8 below) (vB below) c = R ∧ s = ⟨[(0, fB c), (1, Bo below)], [], 0⟩
def j29 (c : List Int) (v f : Int) (R : Int × Int) (k : Nat) (s : St) : Prop := ∃ (i : Nat) (n : Int), i + k = c.length ∧ ubG f n (c.drop i) = R ∧ nb v n (c.length - i) ∧ (c.length - i = 8 → (c.getD i 0 < 128 ↔ f < 128)) ∧ s = ⟨[(0, fB c), (6, I n), (7, I (IN i))], [], 0⟩
theorem nb0 {v : Int} (hv : v = 0 ∨ v = -1) (l : Nat) : nb v v l := by
  unfold nb
  by_cases h : 8 ≤ l
  · rw [if_pos h]
  · rw [if_neg h]
    obtain ⟨e, he⟩ : ∃ e, 8 - l = e + 1 := ⟨7 - l, by omega⟩
    have hp : (0 : Int) < 256 ^ e := Int.pow_pos (by decide)
    rw [he, Int.pow_succ]
    omega
theorem rbase_con (b : List Int) (below : Bool) (hb : byt8 b) (hl : b.length ≤ 100) : Con Tryd.prog 29 [] [fB b, Bo below] [] (.tu [I (rbF b below).1, Bo (rbF b below).2]) := by
  obtain ⟨R, hR⟩ : ∃ R, R = ubG (fB8 below) (vB below) b := ⟨_, rfl⟩
  have hno := ubG_no (fB8 below) b (vB below)
  obtain ⟨Q, hQ⟩ : ∃ Q, Q = rbF b below := ⟨_, rfl⟩
  rw [← hQ]
  unfold rbF at hQ
  rw [← hR] at hno hQ
  have hvv : vB below = 0 ∨ vB below = -1 := by
    cases below
    · exact .inl rfl
    · exact .inr rfl
  have hfe : 256 * vB below + fB8 below = vB below := by cases below <;> rfl
  refine con_j b29 rfl ?_
  sym =>
  simp [Zaa,Zab,Zad,Zae,Zaf,Zag,Zah,Zai,Zak,Zal,Zam,Zan,Zao,Zap,Zaq,Zar,Zav,Zaw,Zax,Zay,Zaz,Za0,Za1,Za2,Za3,Za4,Za5,Za6,Za7,Zrh,Za8,Za9,Zba,Zbb,Zbd,Zbf,Zbj,Zbl,Zbt,Zb1,Zch,Zcn,Zev,Zew,Zex,Zez,Ze0,Ze2,Ze5,Zfd,Zfe,Zfh,Zfi,Zfj,Zfk,Zfl,Zfn,Zfq,Zfs,Zfz,Zf0,Zf1,Zf3,Zf4,Zf6,Zgd,Zgg,Zgh,Zgi,Zgr,Zgu,Zg4,Zg6,Zhm,Zhn,Zho,Zhs,Zht,Zhu,Zh6,Zh7,Zmt,Zmv,Zmw,Zmx,Zmz,Zm3,Zm6,Zna,Znb,Zns,Znt,Znu,Znw,Znx,Zn5,Zof,Zog,Zrd,Zos,Zot,Zox,Zoy,Zo3,Zo4,Zo6,Zo7,Zo8,Zo9,Zpb,Zpc,Zpi,Zp9,Zqd,Zqe,Zqf,Zqg,Zqh,Zqm,Zqr,List.length_drop,eq_self,true_and,and_true,Nat.mul_one]
  tactic =>
  refine lpA (i29 b below R) b.length [] _ ⟨b, rfl, hb, Nat.le_refl _, hR.symm, rfl⟩ (wkA ?_) ?_
  · sym =>
    simp [Zaa,Zab,Zad,Zae,Zaf,Zag,Zah,Zai,Zak,Zal,Zam,Zan,Zao,Zap,Zaq,Zar,Zav,Zaw,Zax,Zay,Zaz,Za0,Za1,Za2,Za3,Za4,Za5,Za6,Za7,Zrh,Za8,Za9,Zba,Zbb,Zbd,Zbf,Zbj,Zbl,Zbt,Zb1,Zch,Zcn,Zev,Zew,Zex,Zez,Ze0,Ze2,Ze5,Zfd,Zfe,Zfh,Zfi,Zfj,Zfk,Zfl,Zfn,Zfq,Zfs,Zfz,Zf0,Zf1,Zf3,Zf4,Zf6,Zgd,Zgg,Zgh,Zgi,Zgr,Zgu,Zg4,Zg6,Zhm,Zhn,Zho,Zhs,Zht,Zhu,Zh6,Zh7,Zmt,Zmv,Zmw,Zmx,Zmz,Zm3,Zm6,Zna,Znb,Zns,Znt,Znu,Znw,Znx,Zn5,Zof,Zog,Zrd,Zos,Zot,Zox,Zoy,Zo3,Zo4,Zo6,Zo7,Zo8,Zo9,Zpb,Zpc,Zpi,Zp9,Zqd,Zqe,Zqf,Zqg,Zqh,Zqm,Zqr,List.length_drop,eq_self,true_and,and_true,Nat.mul_one]
  rintro k s ⟨c, rfl, hcb, hcl, hu, rfl⟩
  by_cases h8 : 8 < c.length
  · have h8' : IN c.length > (8 : Int) := by simp only [IN]; omega
    have hg := cB_get c 0 (by omega)
    have hcd := drop_stepD c 0 (by omega)
    rw [show c.drop 0 = c from rfl] at hcd
    have hx := byt8_get hcb 0
    obtain ⟨x, hx0⟩ : ∃ x, x = c.getD 0 0 := ⟨_, rfl⟩
    rw [← hx0] at hg hx hcd
    have hdl : (c.drop 1).length + 1 = c.length := by rw [List.length_drop]; omega
    rw [hcd, ubG, hdl, if_pos h8] at hu
    have hq := cB_length c
    have h1l : 1 ≤ c.length := by omega
    have hgt : (0 : Int) < IN c.length := by simp only [IN]; omega
    have hdb := byt8_drop hcb 1
    obtain ⟨d, hd⟩ : ∃ d, d = c.drop 1 := ⟨_, rfl⟩
    rw [← hd] at hdl hu hdb
    have ed : List.drop 1 (cB c) = cB d := by rw [hd, cB_drop]
    have edl : c.length - 1 = d.length := by rw [hd, List.length_drop]
    have eda := cB_all d
    by_cases hxf : x = fB8 below
    · rw [if_pos hxf, hxf, hfe] at hu
      rcases below with _ | _
      · have hx' : x = 0 := hxf
        sym =>
        simp [Zaa,Zab,Zad,Zae,Zaf,Zag,Zah,Zai,Zak,Zal,Zam,Zan,Zao,Zap,Zaq,Zar,Zav,Zaw,Zax,Zay,Zaz,Za0,Za1,Za2,Za3,Za4,Za5,Za6,Za7,Zrh,Za8,Za9,Zba,Zbb,Zbd,Zbf,Zbj,Zbl,Zbt,Zb1,Zch,Zcn,Zev,Zew,Zex,Zez,Ze0,Ze2,Ze5,Zfd,Zfe,Zfh,Zfi,Zfj,Zfk,Zfl,Zfn,Zfq,Zfs,Zfz,Zf0,Zf1,Zf3,Zf4,Zf6,Zgd,Zgg,Zgh,Zgi,Zgr,Zgu,Zg4,Zg6,Zhm,Zhn,Zho,Zhs,Zht,Zhu,Zh6,Zh7,Zmt,Zmv,Zmw,Zmx,Zmz,Zm3,Zm6,Zna,Znb,Zns,Znt,Znu,Znw,Znx,Zn5,Zof,Zog,Zrd,Zos,Zot,Zox,Zoy,Zo3,Zo4,Zo6,Zo7,Zo8,Zo9,Zpb,Zpc,Zpi,Zp9,Zqd,Zqe,Zqf,Zqg,Zqh,Zqm,Zqr,List.length_drop,eq_self,true_and,and_true,Nat.mul_one,h8',hg,hx',h1l,hgt,ed,edl,eda]
        tactic =>
        refine ⟨⟨by omega, by omega⟩, by omega, ⟨by simp only [IN]; omega, by omega⟩, ?_⟩
        obtain ⟨q, hq0⟩ : ∃ q, q = d.length := ⟨_, rfl⟩
        unfold NextL; refine ⟨q, [], _, by omega, ⟨d, hq0.symm, hdb, by omega, hu, rfl⟩, wkA ?_⟩
        sym =>
        simp [Zaa,Zab,Zad,Zae,Zaf,Zag,Zah,Zai,Zak,Zal,Zam,Zan,Zao,Zap,Zaq,Zar,Zav,Zaw,Zax,Zay,Zaz,Za0,Za1,Za2,Za3,Za4,Za5,Za6,Za7,Zrh,Za8,Za9,Zba,Zbb,Zbd,Zbf,Zbj,Zbl,Zbt,Zb1,Zch,Zcn,Zev,Zew,Zex,Zez,Ze0,Ze2,Ze5,Zfd,Zfe,Zfh,Zfi,Zfj,Zfk,Zfl,Zfn,Zfq,Zfs,Zfz,Zf0,Zf1,Zf3,Zf4,Zf6,Zgd,Zgg,Zgh,Zgi,Zgr,Zgu,Zg4,Zg6,Zhm,Zhn,Zho,Zhs,Zht,Zhu,Zh6,Zh7,Zmt,Zmv,Zmw,Zmx,Zmz,Zm3,Zm6,Zna,Znb,Zns,Znt,Znu,Znw,Znx,Zn5,Zof,Zog,Zrd,Zos,Zot,Zox,Zoy,Zo3,Zo4,Zo6,Zo7,Zo8,Zo9,Zpb,Zpc,Zpi,Zp9,Zqd,Zqe,Zqf,Zqg,Zqh,Zqm,Zqr,List.length_drop,eq_self,true_and,and_true,Nat.mul_one]
      · have hx' : x = 255 := hxf
        sym =>
        simp [Zaa,Zab,Zad,Zae,Zaf,Zag,Zah,Zai,Zak,Zal,Zam,Zan,Zao,Zap,Zaq,Zar,Zav,Zaw,Zax,Zay,Zaz,Za0,Za1,Za2,Za3,Za4,Za5,Za6,Za7,Zrh,Za8,Za9,Zba,Zbb,Zbd,Zbf,Zbj,Zbl,Zbt,Zb1,Zch,Zcn,Zev,Zew,Zex,Zez,Ze0,Ze2,Ze5,Zfd,Zfe,Zfh,Zfi,Zfj,Zfk,Zfl,Zfn,Zfq,Zfs,Zfz,Zf0,Zf1,Zf3,Zf4,Zf6,Zgd,Zgg,Zgh,Zgi,Zgr,Zgu,Zg4,Zg6,Zhm,Zhn,Zho,Zhs,Zht,Zhu,Zh6,Zh7,Zmt,Zmv,Zmw,Zmx,Zmz,Zm3,Zm6,Zna,Znb,Zns,Znt,Znu,Znw,Znx,Zn5,Zof,Zog,Zrd,Zos,Zot,Zox,Zoy,Zo3,Zo4,Zo6,Zo7,Zo8,Zo9,Zpb,Zpc,Zpi,Zp9,Zqd,Zqe,Zqf,Zqg,Zqh,Zqm,Zqr,List.length_drop,eq_self,true_and,and_true,Nat.mul_one,h8',hg,hx',h1l,hgt,ed,edl,eda]
        tactic =>
        refine ⟨⟨by omega, by omega⟩, by omega, ⟨by simp only [IN]; omega, by omega⟩, ?_⟩
        obtain ⟨q, hq0⟩ : ∃ q, q = d.length := ⟨_, rfl⟩
        unfold NextL; refine ⟨q, [], _, by omega, ⟨d, hq0.symm, hdb, by omega, hu, rfl⟩, wkA ?_⟩
        sym =>
        simp [Zaa,Zab,Zad,Zae,Zaf,Zag,Zah,Zai,Zak,Zal,Zam,Zan,Zao,Zap,Zaq,Zar,Zav,Zaw,Zax,Zay,Zaz,Za0,Za1,Za2,Za3,Za4,Za5,Za6,Za7,Zrh,Za8,Za9,Zba,Zbb,Zbd,Zbf,Zbj,Zbl,Zbt,Zb1,Zch,Zcn,Zev,Zew,Zex,Zez,Ze0,Ze2,Ze5,Zfd,Zfe,Zfh,Zfi,Zfj,Zfk,Zfl,Zfn,Zfq,Zfs,Zfz,Zf0,Zf1,Zf3,Zf4,Zf6,Zgd,Zgg,Zgh,Zgi,Zgr,Zgu,Zg4,Zg6,Zhm,Zhn,Zho,Zhs,Zht,Zhu,Zh6,Zh7,Zmt,Zmv,Zmw,Zmx,Zmz,Zm3,Zm6,Zna,Znb,Zns,Znt,Znu,Znw,Znx,Zn5,Zof,Zog,Zrd,Zos,Zot,Zox,Zoy,Zo3,Zo4,Zo6,Zo7,Zo8,Zo9,Zpb,Zpc,Zpi,Zp9,Zqd,Zqe,Zqf,Zqg,Zqh,Zqm,Zqr,List.length_drop,eq_self,true_and,and_true,Nat.mul_one]
    · rw [if_neg hxf] at hu
      have hQ' : Q = (0, false) := by rw [hQ, ← hu]; rfl
      rw [hQ']
      rcases below with _ | _
      · have hx' : ¬ x = 0 := hxf
        sym =>
        simp [Zaa,Zab,Zad,Zae,Zaf,Zag,Zah,Zai,Zak,Zal,Zam,Zan,Zao,Zap,Zaq,Zar,Zav,Zaw,Zax,Zay,Zaz,Za0,Za1,Za2,Za3,Za4,Za5,Za6,Za7,Zrh,Za8,Za9,Zba,Zbb,Zbd,Zbf,Zbj,Zbl,Zbt,Zb1,Zch,Zcn,Zev,Zew,Zex,Zez,Ze0,Ze2,Ze5,Zfd,Zfe,Zfh,Zfi,Zfj,Zfk,Zfl,Zfn,Zfq,Zfs,Zfz,Zf0,Zf1,Zf3,Zf4,Zf6,Zgd,Zgg,Zgh,Zgi,Zgr,Zgu,Zg4,Zg6,Zhm,Zhn,Zho,Zhs,Zht,Zhu,Zh6,Zh7,Zmt,Zmv,Zmw,Zmx,Zmz,Zm3,Zm6,Zna,Znb,Zns,Znt,Znu,Znw,Znx,Zn5,Zof,Zog,Zrd,Zos,Zot,Zox,Zoy,Zo3,Zo4,Zo6,Zo7,Zo8,Zo9,Zpb,Zpc,Zpi,Zp9,Zqd,Zqe,Zqf,Zqg,Zqh,Zqm,Zqr,List.length_drop,eq_self,true_and,and_true,Nat.mul_one,h8',hg,hx',h1l,hgt]
        tactic =>
        refine ⟨⟨by omega, by omega⟩, by omega, endA ?_⟩
        sym =>
        simp [Zaa,Zab,Zad,Zae,Zaf,Zag,Zah,Zai,Zak,Zal,Zam,Zan,Zao,Zap,Zaq,Zar,Zav,Zaw,Zax,Zay,Zaz,Za0,Za1,Za2,Za3,Za4,Za5,Za6,Za7,Zrh,Za8,Za9,Zba,Zbb,Zbd,Zbf,Zbj,Zbl,Zbt,Zb1,Zch,Zcn,Zev,Zew,Zex,Zez,Ze0,Ze2,Ze5,Zfd,Zfe,Zfh,Zfi,Zfj,Zfk,Zfl,Zfn,Zfq,Zfs,Zfz,Zf0,Zf1,Zf3,Zf4,Zf6,Zgd,Zgg,Zgh,Zgi,Zgr,Zgu,Zg4,Zg6,Zhm,Zhn,Zho,Zhs,Zht,Zhu,Zh6,Zh7,Zmt,Zmv,Zmw,Zmx,Zmz,Zm3,Zm6,Zna,Znb,Zns,Znt,Znu,Znw,Znx,Zn5,Zof,Zog,Zrd,Zos,Zot,Zox,Zoy,Zo3,Zo4,Zo6,Zo7,Zo8,Zo9,Zpb,Zpc,Zpi,Zp9,Zqd,Zqe,Zqf,Zqg,Zqh,Zqm,Zqr,List.length_drop,eq_self,true_and,and_true,Nat.mul_one]
      · have hx' : ¬ x = 255 := hxf
        sym =>
        simp [Zaa,Zab,Zad,Zae,Zaf,Zag,Zah,Zai,Zak,Zal,Zam,Zan,Zao,Zap,Zaq,Zar,Zav,Zaw,Zax,Zay,Zaz,Za0,Za1,Za2,Za3,Za4,Za5,Za6,Za7,Zrh,Za8,Za9,Zba,Zbb,Zbd,Zbf,Zbj,Zbl,Zbt,Zb1,Zch,Zcn,Zev,Zew,Zex,Zez,Ze0,Ze2,Ze5,Zfd,Zfe,Zfh,Zfi,Zfj,Zfk,Zfl,Zfn,Zfq,Zfs,Zfz,Zf0,Zf1,Zf3,Zf4,Zf6,Zgd,Zgg,Zgh,Zgi,Zgr,Zgu,Zg4,Zg6,Zhm,Zhn,Zho,Zhs,Zht,Zhu,Zh6,Zh7,Zmt,Zmv,Zmw,Zmx,Zmz,Zm3,Zm6,Zna,Znb,Zns,Znt,Znu,Znw,Znx,Zn5,Zof,Zog,Zrd,Zos,Zot,Zox,Zoy,Zo3,Zo4,Zo6,Zo7,Zo8,Zo9,Zpb,Zpc,Zpi,Zp9,Zqd,Zqe,Zqf,Zqg,Zqh,Zqm,Zqr,List.length_drop,eq_self,true_and,and_true,Nat.mul_one,h8',hg,hx',h1l,hgt]
        tactic =>
        refine ⟨⟨by omega, by omega⟩, by omega, endA ?_⟩
        sym =>
        simp [Zaa,Zab,Zad,Zae,Zaf,Zag,Zah,Zai,Zak,Zal,Zam,Zan,Zao,Zap,Zaq,Zar,Zav,Zaw,Zax,Zay,Zaz,Za0,Za1,Za2,Za3,Za4,Za5,Za6,Za7,Zrh,Za8,Za9,Zba,Zbb,Zbd,Zbf,Zbj,Zbl,Zbt,Zb1,Zch,Zcn,Zev,Zew,Zex,Zez,Ze0,Ze2,Ze5,Zfd,Zfe,Zfh,Zfi,Zfj,Zfk,Zfl,Zfn,Zfq,Zfs,Zfz,Zf0,Zf1,Zf3,Zf4,Zf6,Zgd,Zgg,Zgh,Zgi,Zgr,Zgu,Zg4,Zg6,Zhm,Zhn,Zho,Zhs,Zht,Zhu,Zh6,Zh7,Zmt,Zmv,Zmw,Zmx,Zmz,Zm3,Zm6,Zna,Znb,Zns,Znt,Znu,Znw,Znx,Zn5,Zof,Zog,Zrd,Zos,Zot,Zox,Zoy,Zo3,Zo4,Zo6,Zo7,Zo8,Zo9,Zpb,Zpc,Zpi,Zp9,Zqd,Zqe,Zqf,Zqg,Zqh,Zqm,Zqr,List.length_drop,eq_self,true_and,and_true,Nat.mul_one]
  · have h8' : ¬ IN c.length > (8 : Int) := by simp only [IN]; omega
    obtain ⟨f, hf⟩ : ∃ f, f = fB8 below := ⟨_, rfl⟩
    obtain ⟨v, hv⟩ : ∃ v, v = vB below := ⟨_, rfl⟩
    have hfv : f < 128 ↔ v = 0 := by rw [hf, hv]; cases below <;> decide
    rw [← hv] at hvv hu
    rw [← hf] at hu
    have hq := cB_length c
    by_cases he : c.length = 8
    · have hg := cB_get c 0 (by omega)
      have hx := byt8_get hcb 0
      have hcd := drop_stepD c 0 (by omega)
      rw [show c.drop 0 = c from rfl] at hcd
      have hdl : (c.drop 1).length + 1 = c.length := by rw [List.length_drop]; omega
      have hu2 := hu
      rw [hcd, ubG, hdl, if_neg h8, if_pos he] at hu2
      have hgt : (0 : Int) < IN c.length := by simp only [IN]; omega
      have he8 : IN c.length = (8 : Int) := by simp only [IN]; omega
      obtain ⟨x, hx0⟩ : ∃ x, x = c.getD 0 0 := ⟨_, rfl⟩
      rw [← hx0] at hg hx hu2
      by_cases hs : (x < 128 ↔ f < 128)
      · have hs8 : c.length - 0 = 8 → (c.getD 0 0 < 128 ↔ f < 128) := fun _ => by rw [← hx0]; exact hs
        rcases below with _ | _
        · have hx' : ¬ x ≥ 128 := by have : f = 0 := hf; omega
          have hv0 : v = 0 := hv
          sym =>
          simp [Zaa,Zab,Zad,Zae,Zaf,Zag,Zah,Zai,Zak,Zal,Zam,Zan,Zao,Zap,Zaq,Zar,Zav,Zaw,Zax,Zay,Zaz,Za0,Za1,Za2,Za3,Za4,Za5,Za6,Za7,Zrh,Za8,Za9,Zba,Zbb,Zbd,Zbf,Zbj,Zbl,Zbt,Zb1,Zch,Zcn,Zev,Zew,Zex,Zez,Ze0,Ze2,Ze5,Zfd,Zfe,Zfh,Zfi,Zfj,Zfk,Zfl,Zfn,Zfq,Zfs,Zfz,Zf0,Zf1,Zf3,Zf4,Zf6,Zgd,Zgg,Zgh,Zgi,Zgr,Zgu,Zg4,Zg6,Zhm,Zhn,Zho,Zhs,Zht,Zhu,Zh6,Zh7,Zmt,Zmv,Zmw,Zmx,Zmz,Zm3,Zm6,Zna,Znb,Zns,Znt,Znu,Znw,Znx,Zn5,Zof,Zog,Zrd,Zos,Zot,Zox,Zoy,Zo3,Zo4,Zo6,Zo7,Zo8,Zo9,Zpb,Zpc,Zpi,Zp9,Zqd,Zqe,Zqf,Zqg,Zqh,Zqm,Zqr,List.length_drop,eq_self,true_and,and_true,Nat.mul_one,h8',hg,he8,hx',hgt]
          tactic =>
          refine ⟨by omega, by omega, ?_⟩
          refine lpA (j29 c v f R) c.length [] _ ⟨0, v, by omega, hu, nb0 hvv _, hs8, rfl⟩ (wkA ?_) ?_
          · sym =>
            simp [Zaa,Zab,Zad,Zae,Zaf,Zag,Zah,Zai,Zak,Zal,Zam,Zan,Zao,Zap,Zaq,Zar,Zav,Zaw,Zax,Zay,Zaz,Za0,Za1,Za2,Za3,Za4,Za5,Za6,Za7,Zrh,Za8,Za9,Zba,Zbb,Zbd,Zbf,Zbj,Zbl,Zbt,Zb1,Zch,Zcn,Zev,Zew,Zex,Zez,Ze0,Ze2,Ze5,Zfd,Zfe,Zfh,Zfi,Zfj,Zfk,Zfl,Zfn,Zfq,Zfs,Zfz,Zf0,Zf1,Zf3,Zf4,Zf6,Zgd,Zgg,Zgh,Zgi,Zgr,Zgu,Zg4,Zg6,Zhm,Zhn,Zho,Zhs,Zht,Zhu,Zh6,Zh7,Zmt,Zmv,Zmw,Zmx,Zmz,Zm3,Zm6,Zna,Znb,Zns,Znt,Znu,Znw,Znx,Zn5,Zof,Zog,Zrd,Zos,Zot,Zox,Zoy,Zo3,Zo4,Zo6,Zo7,Zo8,Zo9,Zpb,Zpc,Zpi,Zp9,Zqd,Zqe,Zqf,Zqg,Zqh,Zqm,Zqr,List.length_drop,eq_self,true_and,and_true,Nat.mul_one]
            tactic =>
            exact hv0.symm
          rintro k s ⟨i, n, hi, hu, hn, hs8, rfl⟩
          by_cases h : i < c.length
          · have hw := w64s i (by omega)
            have hg := cB_get c i h
            have hx := byt8_get hcb i
            rw [drop_stepD c i h] at hu
            have hdl : (c.drop (i + 1)).length + 1 = c.length - i := by rw [List.length_drop]; omega
            obtain ⟨x, hx0⟩ : ∃ x, x = c.getD i 0 := ⟨_, rfl⟩
            rw [← hx0] at hg hx hu hs8
            rw [ubG, hdl, if_neg (by omega)] at hu
            obtain ⟨r, hr⟩ : ∃ r, r = c.length - (i + 1) := ⟨_, rfl⟩
            have hlr : c.length - i = r + 1 := by omega
            rw [hlr] at hn hu hs8
            have hcl := cB_length c
            have hwx : IntKind.i64.wrap x = x := w64 _ (by omega)
            have key : ubG f (256 * n + x) (c.drop (i + 1)) = R ∧ nb v (256 * n + x) r ∧ -9223372036854775808 ≤ 256 * n + x ∧ 256 * n + x ≤ 9223372036854775807 := by
              by_cases he : r + 1 = 8
              · have hs := hs8 he
                rw [if_pos he, if_pos hs] at hu
                have hr7 : r = 7 := by omega
                rw [hr7] at hn
                obtain ⟨b1, b2, b3⟩ := nb_top hvv hn hx (hs.trans hfv)
                rw [hr7]
                exact ⟨hu, b1, b2, b3⟩
              · rw [if_neg he] at hu
                obtain ⟨b1, b2, b3⟩ := nb_fit (x := x) hvv hn he hx (fun _ => by omega) (fun _ => by omega)
                exact ⟨hu, b1, b2, b3⟩
            obtain ⟨b0, b1, b2, b3⟩ := key
            have q1 : IntKind.i64.wrap (IntKind.i64.wrap (n * 256) + x) = 256 * n + x := by rw [w64 (n * 256) (by omega), w64 _ (by omega)]; omega
            sym =>
            simp [Zaa,Zab,Zad,Zae,Zaf,Zag,Zah,Zai,Zak,Zal,Zam,Zan,Zao,Zap,Zaq,Zar,Zav,Zaw,Zax,Zay,Zaz,Za0,Za1,Za2,Za3,Za4,Za5,Za6,Za7,Zrh,Za8,Za9,Zba,Zbb,Zbd,Zbf,Zbj,Zbl,Zbt,Zb1,Zch,Zcn,Zev,Zew,Zex,Zez,Ze0,Ze2,Ze5,Zfd,Zfe,Zfh,Zfi,Zfj,Zfk,Zfl,Zfn,Zfq,Zfs,Zfz,Zf0,Zf1,Zf3,Zf4,Zf6,Zgd,Zgg,Zgh,Zgi,Zgr,Zgu,Zg4,Zg6,Zhm,Zhn,Zho,Zhs,Zht,Zhu,Zh6,Zh7,Zmt,Zmv,Zmw,Zmx,Zmz,Zm3,Zm6,Zna,Znb,Zns,Znt,Znu,Znw,Znx,Zn5,Zof,Zog,Zrd,Zos,Zot,Zox,Zoy,Zo3,Zo4,Zo6,Zo7,Zo8,Zo9,Zpb,Zpc,Zpi,Zp9,Zqd,Zqe,Zqf,Zqg,Zqh,Zqm,Zqr,List.length_drop,eq_self,true_and,and_true,Nat.mul_one,h,hw,hg,hwx]
            tactic =>
            rw [q1]
            refine ⟨by omega, by omega, ?_⟩
            rw [hr] at b1
            unfold NextL; refine ⟨(k - 1), [], _, by omega, ⟨i + 1, 256 * n + x, by omega, b0, b1, fun e => by omega, rfl⟩, wkA ?_⟩
            sym =>
            simp [Zaa,Zab,Zad,Zae,Zaf,Zag,Zah,Zai,Zak,Zal,Zam,Zan,Zao,Zap,Zaq,Zar,Zav,Zaw,Zax,Zay,Zaz,Za0,Za1,Za2,Za3,Za4,Za5,Za6,Za7,Zrh,Za8,Za9,Zba,Zbb,Zbd,Zbf,Zbj,Zbl,Zbt,Zb1,Zch,Zcn,Zev,Zew,Zex,Zez,Ze0,Ze2,Ze5,Zfd,Zfe,Zfh,Zfi,Zfj,Zfk,Zfl,Zfn,Zfq,Zfs,Zfz,Zf0,Zf1,Zf3,Zf4,Zf6,Zgd,Zgg,Zgh,Zgi,Zgr,Zgu,Zg4,Zg6,Zhm,Zhn,Zho,Zhs,Zht,Zhu,Zh6,Zh7,Zmt,Zmv,Zmw,Zmx,Zmz,Zm3,Zm6,Zna,Znb,Zns,Znt,Znu,Znw,Znx,Zn5,Zof,Zog,Zrd,Zos,Zot,Zox,Zoy,Zo3,Zo4,Zo6,Zo7,Zo8,Zo9,Zpb,Zpc,Zpi,Zp9,Zqd,Zqe,Zqf,Zqg,Zqh,Zqm,Zqr,List.length_drop,eq_self,true_and,and_true,Nat.mul_one]
          · obtain rfl : i = c.length := by omega
            rw [List.drop_of_length_le (Nat.le_refl _), ubG] at hu
            have hQ' : Q = (n, true) := by rw [hQ, ← hu]; rfl
            rw [hQ']
            sym =>
            simp [Zaa,Zab,Zad,Zae,Zaf,Zag,Zah,Zai,Zak,Zal,Zam,Zan,Zao,Zap,Zaq,Zar,Zav,Zaw,Zax,Zay,Zaz,Za0,Za1,Za2,Za3,Za4,Za5,Za6,Za7,Zrh,Za8,Za9,Zba,Zbb,Zbd,Zbf,Zbj,Zbl,Zbt,Zb1,Zch,Zcn,Zev,Zew,Zex,Zez,Ze0,Ze2,Ze5,Zfd,Zfe,Zfh,Zfi,Zfj,Zfk,Zfl,Zfn,Zfq,Zfs,Zfz,Zf0,Zf1,Zf3,Zf4,Zf6,Zgd,Zgg,Zgh,Zgi,Zgr,Zgu,Zg4,Zg6,Zhm,Zhn,Zho,Zhs,Zht,Zhu,Zh6,Zh7,Zmt,Zmv,Zmw,Zmx,Zmz,Zm3,Zm6,Zna,Znb,Zns,Znt,Znu,Znw,Znx,Zn5,Zof,Zog,Zrd,Zos,Zot,Zox,Zoy,Zo3,Zo4,Zo6,Zo7,Zo8,Zo9,Zpb,Zpc,Zpi,Zp9,Zqd,Zqe,Zqf,Zqg,Zqh,Zqm,Zqr,List.length_drop,eq_self,true_and,and_true,Nat.mul_one,h]
            tactic =>
            refine endA ?_
            sym =>
            simp [Zaa,Zab,Zad,Zae,Zaf,Zag,Zah,Zai,Zak,Zal,Zam,Zan,Zao,Zap,Zaq,Zar,Zav,Zaw,Zax,Zay,Zaz,Za0,Za1,Za2,Za3,Za4,Za5,Za6,Za7,Zrh,Za8,Za9,Zba,Zbb,Zbd,Zbf,Zbj,Zbl,Zbt,Zb1,Zch,Zcn,Zev,Zew,Zex,Zez,Ze0,Ze2,Ze5,Zfd,Zfe,Zfh,Zfi,Zfj,Zfk,Zfl,Zfn,Zfq,Zfs,Zfz,Zf0,Zf1,Zf3,Zf4,Zf6,Zgd,Zgg,Zgh,Zgi,Zgr,Zgu,Zg4,Zg6,Zhm,Zhn,Zho,Zhs,Zht,Zhu,Zh6,Zh7,Zmt,Zmv,Zmw,Zmx,Zmz,Zm3,Zm6,Zna,Znb,Zns,Znt,Znu,Znw,Znx,Zn5,Zof,Zog,Zrd,Zos,Zot,Zox,Zoy,Zo3,Zo4,Zo6,Zo7,Zo8,Zo9,Zpb,Zpc,Zpi,Zp9,Zqd,Zqe,Zqf,Zqg,Zqh,Zqm,Zqr,List.length_drop,eq_self,true_and,and_true,Nat.mul_one]
        · have hx' : x ≥ 128 := by have : f = 255 := hf; omega
          have hv0 : v = -1 := hv
          sym =>
          simp [Zaa,Zab,Zad,Zae,Zaf,Zag,Zah,Zai,Zak,Zal,Zam,Zan,Zao,Zap,Zaq,Zar,Zav,Zaw,Zax,Zay,Zaz,Za0,Za1,Za2,Za3,Za4,Za5,Za6,Za7,Zrh,Za8,Za9,Zba,Zbb,Zbd,Zbf,Zbj,Zbl,Zbt,Zb1,Zch,Zcn,Zev,Zew,Zex,Zez,Ze0,Ze2,Ze5,Zfd,Zfe,Zfh,Zfi,Zfj,Zfk,Zfl,Zfn,Zfq,Zfs,Zfz,Zf0,Zf1,Zf3,Zf4,Zf6,Zgd,Zgg,Zgh,Zgi,Zgr,Zgu,Zg4,Zg6,Zhm,Zhn,Zho,Zhs,Zht,Zhu,Zh6,Zh7,Zmt,Zmv,Zmw,Zmx,Zmz,Zm3,Zm6,Zna,Znb,Zns,Znt,Znu,Znw,Znx,Zn5,Zof,Zog,Zrd,Zos,Zot,Zox,Zoy,Zo3,Zo4,Zo6,Zo7,Zo8,Zo9,Zpb,Zpc,Zpi,Zp9,Zqd,Zqe,Zqf,Zqg,Zqh,Zqm,Zqr,List.length_drop,eq_self,true_and,and_true,Nat.mul_one,h8',hg,he8,hx',hgt]
          tactic =>
          refine ⟨by omega, by omega, ?_⟩
          refine lpA (j29 c v f R) c.length [] _ ⟨0, v, by omega, hu, nb0 hvv _, hs8, rfl⟩ (wkA ?_) ?_
          · sym =>
            simp [Zaa,Zab,Zad,Zae,Zaf,Zag,Zah,Zai,Zak,Zal,Zam,Zan,Zao,Zap,Zaq,Zar,Zav,Zaw,Zax,Zay,Zaz,Za0,Za1,Za2,Za3,Za4,Za5,Za6,Za7,Zrh,Za8,Za9,Zba,Zbb,Zbd,Zbf,Zbj,Zbl,Zbt,Zb1,Zch,Zcn,Zev,Zew,Zex,Zez,Ze0,Ze2,Ze5,Zfd,Zfe,Zfh,Zfi,Zfj,Zfk,Zfl,Zfn,Zfq,Zfs,Zfz,Zf0,Zf1,Zf3,Zf4,Zf6,Zgd,Zgg,Zgh,Zgi,Zgr,Zgu,Zg4,Zg6,Zhm,Zhn,Zho,Zhs,Zht,Zhu,Zh6,Zh7,Zmt,Zmv,Zmw,Zmx,Zmz,Zm3,Zm6,Zna,Znb,Zns,Znt,Znu,Znw,Znx,Zn5,Zof,Zog,Zrd,Zos,Zot,Zox,Zoy,Zo3,Zo4,Zo6,Zo7,Zo8,Zo9,Zpb,Zpc,Zpi,Zp9,Zqd,Zqe,Zqf,Zqg,Zqh,Zqm,Zqr,List.length_drop,eq_self,true_and,and_true,Nat.mul_one]
            tactic =>
            exact hv0.symm
          rintro k s ⟨i, n, hi, hu, hn, hs8, rfl⟩
          by_cases h : i < c.length
          · have hw := w64s i (by omega)
            have hg := cB_get c i h
            have hx := byt8_get hcb i
            rw [drop_stepD c i h] at hu
            have hdl : (c.drop (i + 1)).length + 1 = c.length - i := by rw [List.length_drop]; omega
            obtain ⟨x, hx0⟩ : ∃ x, x = c.getD i 0 := ⟨_, rfl⟩
            rw [← hx0] at hg hx hu hs8
            rw [ubG, hdl, if_neg (by omega)] at hu
            obtain ⟨r, hr⟩ : ∃ r, r = c.length - (i + 1) := ⟨_, rfl⟩
            have hlr : c.length - i = r + 1 := by omega
            rw [hlr] at hn hu hs8
            have hcl := cB_length c
            have hwx : IntKind.i64.wrap x = x := w64 _ (by omega)
            have key : ubG f (256 * n + x) (c.drop (i + 1)) = R ∧ nb v (256 * n + x) r ∧ -9223372036854775808 ≤ 256 * n + x ∧ 256 * n + x ≤ 9223372036854775807 := by
              by_cases he : r + 1 = 8
              · have hs := hs8 he
                rw [if_pos he, if_pos hs] at hu
                have hr7 : r = 7 := by omega
                rw [hr7] at hn
                obtain ⟨b1, b2, b3⟩ := nb_top hvv hn hx (hs.trans hfv)
                rw [hr7]
                exact ⟨hu, b1, b2, b3⟩
              · rw [if_neg he] at hu
                obtain ⟨b1, b2, b3⟩ := nb_fit (x := x) hvv hn he hx (fun _ => by omega) (fun _ => by omega)
                exact ⟨hu, b1, b2, b3⟩
            obtain ⟨b0, b1, b2, b3⟩ := key
            have q1 : IntKind.i64.wrap (IntKind.i64.wrap (n * 256) + x) = 256 * n + x := by rw [w64 (n * 256) (by omega), w64 _ (by omega)]; omega
            sym =>
            simp [Zaa,Zab,Zad,Zae,Zaf,Zag,Zah,Zai,Zak,Zal,Zam,Zan,Zao,Zap,Zaq,Zar,Zav,Zaw,Zax,Zay,Zaz,Za0,Za1,Za2,Za3,Za4,Za5,Za6,Za7,Zrh,Za8,Za9,Zba,Zbb,Zbd,Zbf,Zbj,Zbl,Zbt,Zb1,Zch,Zcn,Zev,Zew,Zex,Zez,Ze0,Ze2,Ze5,Zfd,Zfe,Zfh,Zfi,Zfj,Zfk,Zfl,Zfn,Zfq,Zfs,Zfz,Zf0,Zf1,Zf3,Zf4,Zf6,Zgd,Zgg,Zgh,Zgi,Zgr,Zgu,Zg4,Zg6,Zhm,Zhn,Zho,Zhs,Zht,Zhu,Zh6,Zh7,Zmt,Zmv,Zmw,Zmx,Zmz,Zm3,Zm6,Zna,Znb,Zns,Znt,Znu,Znw,Znx,Zn5,Zof,Zog,Zrd,Zos,Zot,Zox,Zoy,Zo3,Zo4,Zo6,Zo7,Zo8,Zo9,Zpb,Zpc,Zpi,Zp9,Zqd,Zqe,Zqf,Zqg,Zqh,Zqm,Zqr,List.length_drop,eq_self,true_and,and_true,Nat.mul_one,h,hw,hg,hwx]
            tactic =>
            rw [q1]
            refine ⟨by omega, by omega, ?_⟩
            rw [hr] at b1
            unfold NextL; refine ⟨(k - 1), [], _, by omega, ⟨i + 1, 256 * n + x, by omega, b0, b1, fun e => by omega, rfl⟩, wkA ?_⟩
            sym =>
            simp [Zaa,Zab,Zad,Zae,Zaf,Zag,Zah,Zai,Zak,Zal,Zam,Zan,Zao,Zap,Zaq,Zar,Zav,Zaw,Zax,Zay,Zaz,Za0,Za1,Za2,Za3,Za4,Za5,Za6,Za7,Zrh,Za8,Za9,Zba,Zbb,Zbd,Zbf,Zbj,Zbl,Zbt,Zb1,Zch,Zcn,Zev,Zew,Zex,Zez,Ze0,Ze2,Ze5,Zfd,Zfe,Zfh,Zfi,Zfj,Zfk,Zfl,Zfn,Zfq,Zfs,Zfz,Zf0,Zf1,Zf3,Zf4,Zf6,Zgd,Zgg,Zgh,Zgi,Zgr,Zgu,Zg4,Zg6,Zhm,Zhn,Zho,Zhs,Zht,Zhu,Zh6,Zh7,Zmt,Zmv,Zmw,Zmx,Zmz,Zm3,Zm6,Zna,Znb,Zns,Znt,Znu,Znw,Znx,Zn5,Zof,Zog,Zrd,Zos,Zot,Zox,Zoy,Zo3,Zo4,Zo6,Zo7,Zo8,Zo9,Zpb,Zpc,Zpi,Zp9,Zqd,Zqe,Zqf,Zqg,Zqh,Zqm,Zqr,List.length_drop,eq_self,true_and,and_true,Nat.mul_one]
          · obtain rfl : i = c.length := by omega
            rw [List.drop_of_length_le (Nat.le_refl _), ubG] at hu
            have hQ' : Q = (n, true) := by rw [hQ, ← hu]; rfl
            rw [hQ']
            sym =>
            simp [Zaa,Zab,Zad,Zae,Zaf,Zag,Zah,Zai,Zak,Zal,Zam,Zan,Zao,Zap,Zaq,Zar,Zav,Zaw,Zax,Zay,Zaz,Za0,Za1,Za2,Za3,Za4,Za5,Za6,Za7,Zrh,Za8,Za9,Zba,Zbb,Zbd,Zbf,Zbj,Zbl,Zbt,Zb1,Zch,Zcn,Zev,Zew,Zex,Zez,Ze0,Ze2,Ze5,Zfd,Zfe,Zfh,Zfi,Zfj,Zfk,Zfl,Zfn,Zfq,Zfs,Zfz,Zf0,Zf1,Zf3,Zf4,Zf6,Zgd,Zgg,Zgh,Zgi,Zgr,Zgu,Zg4,Zg6,Zhm,Zhn,Zho,Zhs,Zht,Zhu,Zh6,Zh7,Zmt,Zmv,Zmw,Zmx,Zmz,Zm3,Zm6,Zna,Znb,Zns,Znt,Znu,Znw,Znx,Zn5,Zof,Zog,Zrd,Zos,Zot,Zox,Zoy,Zo3,Zo4,Zo6,Zo7,Zo8,Zo9,Zpb,Zpc,Zpi,Zp9,Zqd,Zqe,Zqf,Zqg,Zqh,Zqm,Zqr,List.length_drop,eq_self,true_and,and_true,Nat.mul_one,h]
            tactic =>
            refine endA ?_
            sym =>
            simp [Zaa,Zab,Zad,Zae,Zaf,Zag,Zah,Zai,Zak,Zal,Zam,Zan,Zao,Zap,Zaq,Zar,Zav,Zaw,Zax,Zay,Zaz,Za0,Za1,Za2,Za3,Za4,Za5,Za6,Za7,Zrh,Za8,Za9,Zba,Zbb,Zbd,Zbf,Zbj,Zbl,Zbt,Zb1,Zch,Zcn,Zev,Zew,Zex,Zez,Ze0,Ze2,Ze5,Zfd,Zfe,Zfh,Zfi,Zfj,Zfk,Zfl,Zfn,Zfq,Zfs,Zfz,Zf0,Zf1,Zf3,Zf4,Zf6,Zgd,Zgg,Zgh,Zgi,Zgr,Zgu,Zg4,Zg6,Zhm,Zhn,Zho,Zhs,Zht,Zhu,Zh6,Zh7,Zmt,Zmv,Zmw,Zmx,Zmz,Zm3,Zm6,Zna,Znb,Zns,Znt,Znu,Znw,Znx,Zn5,Zof,Zog,Zrd,Zos,Zot,Zox,Zoy,Zo3,Zo4,Zo6,Zo7,Zo8,Zo9,Zpb,Zpc,Zpi,Zp9,Zqd,Zqe,Zqf,Zqg,Zqh,Zqm,Zqr,List.length_drop,eq_self,true_and,and_true,Nat.mul_one]
      · rw [if_neg hs] at hu2
        have hQ' : Q = (0, false) := by rw [hQ, ← hu2]; rfl
        rw [hQ']
        rcases below with _ | _
        · have hx' : x ≥ 128 := by have : f = 0 := hf; omega
          sym =>
          simp [Zaa,Zab,Zad,Zae,Zaf,Zag,Zah,Zai,Zak,Zal,Zam,Zan,Zao,Zap,Zaq,Zar,Zav,Zaw,Zax,Zay,Zaz,Za0,Za1,Za2,Za3,Za4,Za5,Za6,Za7,Zrh,Za8,Za9,Zba,Zbb,Zbd,Zbf,Zbj,Zbl,Zbt,Zb1,Zch,Zcn,Zev,Zew,Zex,Zez,Ze0,Ze2,Ze5,Zfd,Zfe,Zfh,Zfi,Zfj,Zfk,Zfl,Zfn,Zfq,Zfs,Zfz,Zf0,Zf1,Zf3,Zf4,Zf6,Zgd,Zgg,Zgh,Zgi,Zgr,Zgu,Zg4,Zg6,Zhm,Zhn,Zho,Zhs,Zht,Zhu,Zh6,Zh7,Zmt,Zmv,Zmw,Zmx,Zmz,Zm3,Zm6,Zna,Znb,Zns,Znt,Znu,Znw,Znx,Zn5,Zof,Zog,Zrd,Zos,Zot,Zox,Zoy,Zo3,Zo4,Zo6,Zo7,Zo8,Zo9,Zpb,Zpc,Zpi,Zp9,Zqd,Zqe,Zqf,Zqg,Zqh,Zqm,Zqr,List.length_drop,eq_self,true_and,and_true,Nat.mul_one,h8',hg,he8,hx',hgt]
          tactic =>
          refine ⟨by omega, by omega, endA ?_⟩
          sym =>
          simp [Zaa,Zab,Zad,Zae,Zaf,Zag,Zah,Zai,Zak,Zal,Zam,Zan,Zao,Zap,Zaq,Zar,Zav,Zaw,Zax,Zay,Zaz,Za0,Za1,Za2,Za3,Za4,Za5,Za6,Za7,Zrh,Za8,Za9,Zba,Zbb,Zbd,Zbf,Zbj,Zbl,Zbt,Zb1,Zch,Zcn,Zev,Zew,Zex,Zez,Ze0,Ze2,Ze5,Zfd,Zfe,Zfh,Zfi,Zfj,Zfk,Zfl,Zfn,Zfq,Zfs,Zfz,Zf0,Zf1,Zf3,Zf4,Zf6,Zgd,Zgg,Zgh,Zgi,Zgr,Zgu,Zg4,Zg6,Zhm,Zhn,Zho,Zhs,Zht,Zhu,Zh6,Zh7,Zmt,Zmv,Zmw,Zmx,Zmz,Zm3,Zm6,Zna,Znb,Zns,Znt,Znu,Znw,Znx,Zn5,Zof,Zog,Zrd,Zos,Zot,Zox,Zoy,Zo3,Zo4,Zo6,Zo7,Zo8,Zo9,Zpb,Zpc,Zpi,Zp9,Zqd,Zqe,Zqf,Zqg,Zqh,Zqm,Zqr,List.length_drop,eq_self,true_and,and_true,Nat.mul_one]
        · have hx' : ¬ x ≥ 128 := by have : f = 255 := hf; omega
          sym =>
          simp [Zaa,Zab,Zad,Zae,Zaf,Zag,Zah,Zai,Zak,Zal,Zam,Zan,Zao,Zap,Zaq,Zar,Zav,Zaw,Zax,Zay,Zaz,Za0,Za1,Za2,Za3,Za4,Za5,Za6,Za7,Zrh,Za8,Za9,Zba,Zbb,Zbd,Zbf,Zbj,Zbl,Zbt,Zb1,Zch,Zcn,Zev,Zew,Zex,Zez,Ze0,Ze2,Ze5,Zfd,Zfe,Zfh,Zfi,Zfj,Zfk,Zfl,Zfn,Zfq,Zfs,Zfz,Zf0,Zf1,Zf3,Zf4,Zf6,Zgd,Zgg,Zgh,Zgi,Zgr,Zgu,Zg4,Zg6,Zhm,Zhn,Zho,Zhs,Zht,Zhu,Zh6,Zh7,Zmt,Zmv,Zmw,Zmx,Zmz,Zm3,Zm6,Zna,Znb,Zns,Znt,Znu,Znw,Znx,Zn5,Zof,Zog,Zrd,Zos,Zot,Zox,Zoy,Zo3,Zo4,Zo6,Zo7,Zo8,Zo9,Zpb,Zpc,Zpi,Zp9,Zqd,Zqe,Zqf,Zqg,Zqh,Zqm,Zqr,List.length_drop,eq_self,true_and,and_true,Nat.mul_one,h8',hg,he8,hx',hgt]
          tactic =>
          refine ⟨by omega, by omega, endA ?_⟩
          sym =>
          simp [Zaa,Zab,Zad,Zae,Zaf,Zag,Zah,Zai,Zak,Zal,Zam,Zan,Zao,Zap,Zaq,Zar,Zav,Zaw,Zax,Zay,Zaz,Za0,Za1,Za2,Za3,Za4,Za5,Za6,Za7,Zrh,Za8,Za9,Zba,Zbb,Zbd,Zbf,Zbj,Zbl,Zbt,Zb1,Zch,Zcn,Zev,Zew,Zex,Zez,Ze0,Ze2,Ze5,Zfd,Zfe,Zfh,Zfi,Zfj,Zfk,Zfl,Zfn,Zfq,Zfs,Zfz,Zf0,Zf1,Zf3,Zf4,Zf6,Zgd,Zgg,Zgh,Zgi,Zgr,Zgu,Zg4,Zg6,Zhm,Zhn,Zho,Zhs,Zht,Zhu,Zh6,Zh7,Zmt,Zmv,Zmw,Zmx,Zmz,Zm3,Zm6,Zna,Znb,Zns,Znt,Znu,Znw,Znx,Zn5,Zof,Zog,Zrd,Zos,Zot,Zox,Zoy,Zo3,Zo4,Zo6,Zo7,Zo8,Zo9,Zpb,Zpc,Zpi,Zp9,Zqd,Zqe,Zqf,Zqg,Zqh,Zqm,Zqr,List.length_drop,eq_self,true_and,and_true,Nat.mul_one]
    · have he8 : ¬ IN c.length = (8 : Int) := by simp only [IN]; omega
      have hs8 : c.length - 0 = 8 → (c.getD 0 0 < 128 ↔ f < 128) := fun e => absurd e (by omega)
      rcases below with _ | _
      · have hv0 : v = 0 := hv
        sym =>
        simp [Zaa,Zab,Zad,Zae,Zaf,Zag,Zah,Zai,Zak,Zal,Zam,Zan,Zao,Zap,Zaq,Zar,Zav,Zaw,Zax,Zay,Zaz,Za0,Za1,Za2,Za3,Za4,Za5,Za6,Za7,Zrh,Za8,Za9,Zba,Zbb,Zbd,Zbf,Zbj,Zbl,Zbt,Zb1,Zch,Zcn,Zev,Zew,Zex,Zez,Ze0,Ze2,Ze5,Zfd,Zfe,Zfh,Zfi,Zfj,Zfk,Zfl,Zfn,Zfq,Zfs,Zfz,Zf0,Zf1,Zf3,Zf4,Zf6,Zgd,Zgg,Zgh,Zgi,Zgr,Zgu,Zg4,Zg6,Zhm,Zhn,Zho,Zhs,Zht,Zhu,Zh6,Zh7,Zmt,Zmv,Zmw,Zmx,Zmz,Zm3,Zm6,Zna,Znb,Zns,Znt,Znu,Znw,Znx,Zn5,Zof,Zog,Zrd,Zos,Zot,Zox,Zoy,Zo3,Zo4,Zo6,Zo7,Zo8,Zo9,Zpb,Zpc,Zpi,Zp9,Zqd,Zqe,Zqf,Zqg,Zqh,Zqm,Zqr,List.length_drop,eq_self,true_and,and_true,Nat.mul_one,h8',he8]
        tactic =>
        refine lpA (j29 c v f R) c.length [] _ ⟨0, v, by omega, hu, nb0 hvv _, hs8, rfl⟩ (wkA ?_) ?_
        · sym =>
          simp [Zaa,Zab,Zad,Zae,Zaf,Zag,Zah,Zai,Zak,Zal,Zam,Zan,Zao,Zap,Zaq,Zar,Zav,Zaw,Zax,Zay,Zaz,Za0,Za1,Za2,Za3,Za4,Za5,Za6,Za7,Zrh,Za8,Za9,Zba,Zbb,Zbd,Zbf,Zbj,Zbl,Zbt,Zb1,Zch,Zcn,Zev,Zew,Zex,Zez,Ze0,Ze2,Ze5,Zfd,Zfe,Zfh,Zfi,Zfj,Zfk,Zfl,Zfn,Zfq,Zfs,Zfz,Zf0,Zf1,Zf3,Zf4,Zf6,Zgd,Zgg,Zgh,Zgi,Zgr,Zgu,Zg4,Zg6,Zhm,Zhn,Zho,Zhs,Zht,Zhu,Zh6,Zh7,Zmt,Zmv,Zmw,Zmx,Zmz,Zm3,Zm6,Zna,Znb,Zns,Znt,Znu,Znw,Znx,Zn5,Zof,Zog,Zrd,Zos,Zot,Zox,Zoy,Zo3,Zo4,Zo6,Zo7,Zo8,Zo9,Zpb,Zpc,Zpi,Zp9,Zqd,Zqe,Zqf,Zqg,Zqh,Zqm,Zqr,List.length_drop,eq_self,true_and,and_true,Nat.mul_one]
          tactic =>
          exact hv0.symm
        rintro k s ⟨i, n, hi, hu, hn, hs8, rfl⟩
        by_cases h : i < c.length
        · have hw := w64s i (by omega)
          have hg := cB_get c i h
          have hx := byt8_get hcb i
          rw [drop_stepD c i h] at hu
          have hdl : (c.drop (i + 1)).length + 1 = c.length - i := by rw [List.length_drop]; omega
          obtain ⟨x, hx0⟩ : ∃ x, x = c.getD i 0 := ⟨_, rfl⟩
          rw [← hx0] at hg hx hu hs8
          rw [ubG, hdl, if_neg (by omega)] at hu
          obtain ⟨r, hr⟩ : ∃ r, r = c.length - (i + 1) := ⟨_, rfl⟩
          have hlr : c.length - i = r + 1 := by omega
          rw [hlr] at hn hu hs8
          have hcl := cB_length c
          have hwx : IntKind.i64.wrap x = x := w64 _ (by omega)
          have key : ubG f (256 * n + x) (c.drop (i + 1)) = R ∧ nb v (256 * n + x) r ∧ -9223372036854775808 ≤ 256 * n + x ∧ 256 * n + x ≤ 9223372036854775807 := by
            by_cases he : r + 1 = 8
            · have hs := hs8 he
              rw [if_pos he, if_pos hs] at hu
              have hr7 : r = 7 := by omega
              rw [hr7] at hn
              obtain ⟨b1, b2, b3⟩ := nb_top hvv hn hx (hs.trans hfv)
              rw [hr7]
              exact ⟨hu, b1, b2, b3⟩
            · rw [if_neg he] at hu
              obtain ⟨b1, b2, b3⟩ := nb_fit (x := x) hvv hn he hx (fun _ => by omega) (fun _ => by omega)
              exact ⟨hu, b1, b2, b3⟩
          obtain ⟨b0, b1, b2, b3⟩ := key
          have q1 : IntKind.i64.wrap (IntKind.i64.wrap (n * 256) + x) = 256 * n + x := by rw [w64 (n * 256) (by omega), w64 _ (by omega)]; omega
          sym =>
          simp [Zaa,Zab,Zad,Zae,Zaf,Zag,Zah,Zai,Zak,Zal,Zam,Zan,Zao,Zap,Zaq,Zar,Zav,Zaw,Zax,Zay,Zaz,Za0,Za1,Za2,Za3,Za4,Za5,Za6,Za7,Zrh,Za8,Za9,Zba,Zbb,Zbd,Zbf,Zbj,Zbl,Zbt,Zb1,Zch,Zcn,Zev,Zew,Zex,Zez,Ze0,Ze2,Ze5,Zfd,Zfe,Zfh,Zfi,Zfj,Zfk,Zfl,Zfn,Zfq,Zfs,Zfz,Zf0,Zf1,Zf3,Zf4,Zf6,Zgd,Zgg,Zgh,Zgi,Zgr,Zgu,Zg4,Zg6,Zhm,Zhn,Zho,Zhs,Zht,Zhu,Zh6,Zh7,Zmt,Zmv,Zmw,Zmx,Zmz,Zm3,Zm6,Zna,Znb,Zns,Znt,Znu,Znw,Znx,Zn5,Zof,Zog,Zrd,Zos,Zot,Zox,Zoy,Zo3,Zo4,Zo6,Zo7,Zo8,Zo9,Zpb,Zpc,Zpi,Zp9,Zqd,Zqe,Zqf,Zqg,Zqh,Zqm,Zqr,List.length_drop,eq_self,true_and,and_true,Nat.mul_one,h,hw,hg,hwx]
          tactic =>
          rw [q1]
          refine ⟨by omega, by omega, ?_⟩
          rw [hr] at b1
          unfold NextL; refine ⟨(k - 1), [], _, by omega, ⟨i + 1, 256 * n + x, by omega, b0, b1, fun e => by omega, rfl⟩, wkA ?_⟩
          sym =>
          simp [Zaa,Zab,Zad,Zae,Zaf,Zag,Zah,Zai,Zak,Zal,Zam,Zan,Zao,Zap,Zaq,Zar,Zav,Zaw,Zax,Zay,Zaz,Za0,Za1,Za2,Za3,Za4,Za5,Za6,Za7,Zrh,Za8,Za9,Zba,Zbb,Zbd,Zbf,Zbj,Zbl,Zbt,Zb1,Zch,Zcn,Zev,Zew,Zex,Zez,Ze0,Ze2,Ze5,Zfd,Zfe,Zfh,Zfi,Zfj,Zfk,Zfl,Zfn,Zfq,Zfs,Zfz,Zf0,Zf1,Zf3,Zf4,Zf6,Zgd,Zgg,Zgh,Zgi,Zgr,Zgu,Zg4,Zg6,Zhm,Zhn,Zho,Zhs,Zht,Zhu,Zh6,Zh7,Zmt,Zmv,Zmw,Zmx,Zmz,Zm3,Zm6,Zna,Znb,Zns,Znt,Znu,Znw,Znx,Zn5,Zof,Zog,Zrd,Zos,Zot,Zox,Zoy,Zo3,Zo4,Zo6,Zo7,Zo8,Zo9,Zpb,Zpc,Zpi,Zp9,Zqd,Zqe,Zqf,Zqg,Zqh,Zqm,Zqr,List.length_drop,eq_self,true_and,and_true,Nat.mul_one]
        · obtain rfl : i = c.length := by omega
          rw [List.drop_of_length_le (Nat.le_refl _), ubG] at hu
          have hQ' : Q = (n, true) := by rw [hQ, ← hu]; rfl
          rw [hQ']
          sym =>
          simp [Zaa,Zab,Zad,Zae,Zaf,Zag,Zah,Zai,Zak,Zal,Zam,Zan,Zao,Zap,Zaq,Zar,Zav,Zaw,Zax,Zay,Zaz,Za0,Za1,Za2,Za3,Za4,Za5,Za6,Za7,Zrh,Za8,Za9,Zba,Zbb,Zbd,Zbf,Zbj,Zbl,Zbt,Zb1,Zch,Zcn,Zev,Zew,Zex,Zez,Ze0,Ze2,Ze5,Zfd,Zfe,Zfh,Zfi,Zfj,Zfk,Zfl,Zfn,Zfq,Zfs,Zfz,Zf0,Zf1,Zf3,Zf4,Zf6,Zgd,Zgg,Zgh,Zgi,Zgr,Zgu,Zg4,Zg6,Zhm,Zhn,Zho,Zhs,Zht,Zhu,Zh6,Zh7,Zmt,Zmv,Zmw,Zmx,Zmz,Zm3,Zm6,Zna,Znb,Zns,Znt,Znu,Znw,Znx,Zn5,Zof,Zog,Zrd,Zos,Zot,Zox,Zoy,Zo3,Zo4,Zo6,Zo7,Zo8,Zo9,Zpb,Zpc,Zpi,Zp9,Zqd,Zqe,Zqf,Zqg,Zqh,Zqm,Zqr,List.length_drop,eq_self,true_and,and_true,Nat.mul_one,h]
          tactic =>
          refine endA ?_
          sym =>
          simp [Zaa,Zab,Zad,Zae,Zaf,Zag,Zah,Zai,Zak,Zal,Zam,Zan,Zao,Zap,Zaq,Zar,Zav,Zaw,Zax,Zay,Zaz,Za0,Za1,Za2,Za3,Za4,Za5,Za6,Za7,Zrh,Za8,Za9,Zba,Zbb,Zbd,Zbf,Zbj,Zbl,Zbt,Zb1,Zch,Zcn,Zev,Zew,Zex,Zez,Ze0,Ze2,Ze5,Zfd,Zfe,Zfh,Zfi,Zfj,Zfk,Zfl,Zfn,Zfq,Zfs,Zfz,Zf0,Zf1,Zf3,Zf4,Zf6,Zgd,Zgg,Zgh,Zgi,Zgr,Zgu,Zg4,Zg6,Zhm,Zhn,Zho,Zhs,Zht,Zhu,Zh6,Zh7,Zmt,Zmv,Zmw,Zmx,Zmz,Zm3,Zm6,Zna,Znb,Zns,Znt,Znu,Znw,Znx,Zn5,Zof,Zog,Zrd,Zos,Zot,Zox,Zoy,Zo3,Zo4,Zo6,Zo7,Zo8,Zo9,Zpb,Zpc,Zpi,Zp9,Zqd,Zqe,Zqf,Zqg,Zqh,Zqm,Zqr,List.length_drop,eq_self,true_and,and_true,Nat.mul_one]
      · have hv0 : v = -1 := hv
        sym =>
        simp [Zaa,Zab,Zad,Zae,Zaf,Zag,Zah,Zai,Zak,Zal,Zam,Zan,Zao,Zap,Zaq,Zar,Zav,Zaw,Zax,Zay,Zaz,Za0,Za1,Za2,Za3,Za4,Za5,Za6,Za7,Zrh,Za8,Za9,Zba,Zbb,Zbd,Zbf,Zbj,Zbl,Zbt,Zb1,Zch,Zcn,Zev,Zew,Zex,Zez,Ze0,Ze2,Ze5,Zfd,Zfe,Zfh,Zfi,Zfj,Zfk,Zfl,Zfn,Zfq,Zfs,Zfz,Zf0,Zf1,Zf3,Zf4,Zf6,Zgd,Zgg,Zgh,Zgi,Zgr,Zgu,Zg4,Zg6,Zhm,Zhn,Zho,Zhs,Zht,Zhu,Zh6,Zh7,Zmt,Zmv,Zmw,Zmx,Zmz,Zm3,Zm6,Zna,Znb,Zns,Znt,Znu,Znw,Znx,Zn5,Zof,Zog,Zrd,Zos,Zot,Zox,Zoy,Zo3,Zo4,Zo6,Zo7,Zo8,Zo9,Zpb,Zpc,Zpi,Zp9,Zqd,Zqe,Zqf,Zqg,Zqh,Zqm,Zqr,List.length_drop,eq_self,true_and,and_true,Nat.mul_one,h8',he8]
        tactic =>
        refine lpA (j29 c v f R) c.length [] _ ⟨0, v, by omega, hu, nb0 hvv _, hs8, rfl⟩ (wkA ?_) ?_
        · sym =>
          simp [Zaa,Zab,Zad,Zae,Zaf,Zag,Zah,Zai,Zak,Zal,Zam,Zan,Zao,Zap,Zaq,Zar,Zav,Zaw,Zax,Zay,Zaz,Za0,Za1,Za2,Za3,Za4,Za5,Za6,Za7,Zrh,Za8,Za9,Zba,Zbb,Zbd,Zbf,Zbj,Zbl,Zbt,Zb1,Zch,Zcn,Zev,Zew,Zex,Zez,Ze0,Ze2,Ze5,Zfd,Zfe,Zfh,Zfi,Zfj,Zfk,Zfl,Zfn,Zfq,Zfs,Zfz,Zf0,Zf1,Zf3,Zf4,Zf6,Zgd,Zgg,Zgh,Zgi,Zgr,Zgu,Zg4,Zg6,Zhm,Zhn,Zho,Zhs,Zht,Zhu,Zh6,Zh7,Zmt,Zmv,Zmw,Zmx,Zmz,Zm3,Zm6,Zna,Znb,Zns,Znt,Znu,Znw,Znx,Zn5,Zof,Zog,Zrd,Zos,Zot,Zox,Zoy,Zo3,Zo4,Zo6,Zo7,Zo8,Zo9,Zpb,Zpc,Zpi,Zp9,Zqd,Zqe,Zqf,Zqg,Zqh,Zqm,Zqr,List.length_drop,eq_self,true_and,and_true,Nat.mul_one]
          tactic =>
          exact hv0.symm
        rintro k s ⟨i, n, hi, hu, hn, hs8, rfl⟩
        by_cases h : i < c.length
        · have hw := w64s i (by omega)
          have hg := cB_get c i h
          have hx := byt8_get hcb i
          rw [drop_stepD c i h] at hu
          have hdl : (c.drop (i + 1)).length + 1 = c.length - i := by rw [List.length_drop]; omega
          obtain ⟨x, hx0⟩ : ∃ x, x = c.getD i 0 := ⟨_, rfl⟩
          rw [← hx0] at hg hx hu hs8
          rw [ubG, hdl, if_neg (by omega)] at hu
          obtain ⟨r, hr⟩ : ∃ r, r = c.length - (i + 1) := ⟨_, rfl⟩
          have hlr : c.length - i = r + 1 := by omega
          rw [hlr] at hn hu hs8
          have hcl := cB_length c
          have hwx : IntKind.i64.wrap x = x := w64 _ (by omega)
          have key : ubG f (256 * n + x) (c.drop (i + 1)) = R ∧ nb v (256 * n + x) r ∧ -9223372036854775808 ≤ 256 * n + x ∧ 256 * n + x ≤ 9223372036854775807 := by
            by_cases he : r + 1 = 8
            · have hs := hs8 he
              rw [if_pos he, if_pos hs] at hu
              have hr7 : r = 7 := by omega
              rw [hr7] at hn
              obtain ⟨b1, b2, b3⟩ := nb_top hvv hn hx (hs.trans hfv)
              rw [hr7]
              exact ⟨hu, b1, b2, b3⟩
            · rw [if_neg he] at hu
              obtain ⟨b1, b2, b3⟩ := nb_fit (x := x) hvv hn he hx (fun _ => by omega) (fun _ => by omega)
              exact ⟨hu, b1, b2, b3⟩
          obtain ⟨b0, b1, b2, b3⟩ := key
          have q1 : IntKind.i64.wrap (IntKind.i64.wrap (n * 256) + x) = 256 * n + x := by rw [w64 (n * 256) (by omega), w64 _ (by omega)]; omega
          sym =>
          simp [Zaa,Zab,Zad,Zae,Zaf,Zag,Zah,Zai,Zak,Zal,Zam,Zan,Zao,Zap,Zaq,Zar,Zav,Zaw,Zax,Zay,Zaz,Za0,Za1,Za2,Za3,Za4,Za5,Za6,Za7,Zrh,Za8,Za9,Zba,Zbb,Zbd,Zbf,Zbj,Zbl,Zbt,Zb1,Zch,Zcn,Zev,Zew,Zex,Zez,Ze0,Ze2,Ze5,Zfd,Zfe,Zfh,Zfi,Zfj,Zfk,Zfl,Zfn,Zfq,Zfs,Zfz,Zf0,Zf1,Zf3,Zf4,Zf6,Zgd,Zgg,Zgh,Zgi,Zgr,Zgu,Zg4,Zg6,Zhm,Zhn,Zho,Zhs,Zht,Zhu,Zh6,Zh7,Zmt,Zmv,Zmw,Zmx,Zmz,Zm3,Zm6,Zna,Znb,Zns,Znt,Znu,Znw,Znx,Zn5,Zof,Zog,Zrd,Zos,Zot,Zox,Zoy,Zo3,Zo4,Zo6,Zo7,Zo8,Zo9,Zpb,Zpc,Zpi,Zp9,Zqd,Zqe,Zqf,Zqg,Zqh,Zqm,Zqr,List.length_drop,eq_self,true_and,and_true,Nat.mul_one,h,hw,hg,hwx]
          tactic =>
          rw [q1]
          refine ⟨by omega, by omega, ?_⟩
          rw [hr] at b1
          unfold NextL; refine ⟨(k - 1), [], _, by omega, ⟨i + 1, 256 * n + x, by omega, b0, b1, fun e => by omega, rfl⟩, wkA ?_⟩
          sym =>
          simp [Zaa,Zab,Zad,Zae,Zaf,Zag,Zah,Zai,Zak,Zal,Zam,Zan,Zao,Zap,Zaq,Zar,Zav,Zaw,Zax,Zay,Zaz,Za0,Za1,Za2,Za3,Za4,Za5,Za6,Za7,Zrh,Za8,Za9,Zba,Zbb,Zbd,Zbf,Zbj,Zbl,Zbt,Zb1,Zch,Zcn,Zev,Zew,Zex,Zez,Ze0,Ze2,Ze5,Zfd,Zfe,Zfh,Zfi,Zfj,Zfk,Zfl,Zfn,Zfq,Zfs,Zfz,Zf0,Zf1,Zf3,Zf4,Zf6,Zgd,Zgg,Zgh,Zgi,Zgr,Zgu,Zg4,Zg6,Zhm,Zhn,Zho,Zhs,Zht,Zhu,Zh6,Zh7,Zmt,Zmv,Zmw,Zmx,Zmz,Zm3,Zm6,Zna,Znb,Zns,Znt,Znu,Znw,Znx,Zn5,Zof,Zog,Zrd,Zos,Zot,Zox,Zoy,Zo3,Zo4,Zo6,Zo7,Zo8,Zo9,Zpb,Zpc,Zpi,Zp9,Zqd,Zqe,Zqf,Zqg,Zqh,Zqm,Zqr,List.length_drop,eq_self,true_and,and_true,Nat.mul_one]
        · obtain rfl : i = c.length := by omega
          rw [List.drop_of_length_le (Nat.le_refl _), ubG] at hu
          have hQ' : Q = (n, true) := by rw [hQ, ← hu]; rfl
          rw [hQ']
          sym =>
          simp [Zaa,Zab,Zad,Zae,Zaf,Zag,Zah,Zai,Zak,Zal,Zam,Zan,Zao,Zap,Zaq,Zar,Zav,Zaw,Zax,Zay,Zaz,Za0,Za1,Za2,Za3,Za4,Za5,Za6,Za7,Zrh,Za8,Za9,Zba,Zbb,Zbd,Zbf,Zbj,Zbl,Zbt,Zb1,Zch,Zcn,Zev,Zew,Zex,Zez,Ze0,Ze2,Ze5,Zfd,Zfe,Zfh,Zfi,Zfj,Zfk,Zfl,Zfn,Zfq,Zfs,Zfz,Zf0,Zf1,Zf3,Zf4,Zf6,Zgd,Zgg,Zgh,Zgi,Zgr,Zgu,Zg4,Zg6,Zhm,Zhn,Zho,Zhs,Zht,Zhu,Zh6,Zh7,Zmt,Zmv,Zmw,Zmx,Zmz,Zm3,Zm6,Zna,Znb,Zns,Znt,Znu,Znw,Znx,Zn5,Zof,Zog,Zrd,Zos,Zot,Zox,Zoy,Zo3,Zo4,Zo6,Zo7,Zo8,Zo9,Zpb,Zpc,Zpi,Zp9,Zqd,Zqe,Zqf,Zqg,Zqh,Zqm,Zqr,List.length_drop,eq_self,true_and,and_true,Nat.mul_one,h]
          tactic =>
          refine endA ?_
          sym =>
          simp [Zaa,Zab,Zad,Zae,Zaf,Zag,Zah,Zai,Zak,Zal,Zam,Zan,Zao,Zap,Zaq,Zar,Zav,Zaw,Zax,Zay,Zaz,Za0,Za1,Za2,Za3,Za4,Za5,Za6,Za7,Zrh,Za8,Za9,Zba,Zbb,Zbd,Zbf,Zbj,Zbl,Zbt,Zb1,Zch,Zcn,Zev,Zew,Zex,Zez,Ze0,Ze2,Ze5,Zfd,Zfe,Zfh,Zfi,Zfj,Zfk,Zfl,Zfn,Zfq,Zfs,Zfz,Zf0,Zf1,Zf3,Zf4,Zf6,Zgd,Zgg,Zgh,Zgi,Zgr,Zgu,Zg4,Zg6,Zhm,Zhn,Zho,Zhs,Zht,Zhu,Zh6,Zh7,Zmt,Zmv,Zmw,Zmx,Zmz,Zm3,Zm6,Zna,Znb,Zns,Znt,Znu,Znw,Znx,Zn5,Zof,Zog,Zrd,Zos,Zot,Zox,Zoy,Zo3,Zo4,Zo6,Zo7,Zo8,Zo9,Zpb,Zpc,Zpi,Zp9,Zqd,Zqe,Zqf,Zqg,Zqh,Zqm,Zqr,List.length_drop,eq_self,true_and,and_true,Nat.mul_one]
def i31 (b : List Int) (c : Int) (R : List Int) (k : Nat) (s : St) : Prop := ∃ d : List Int, d.length = k ∧ d.length ≤ b.length ∧ d.dropWhile (· == c) = R ∧ s = ⟨[(0, fB d), (1, Y c)], [], 0⟩
theorem trimLB_con (b : List Int) (c : Int) (hl : b.length ≤ 1000) : Con Tryd.prog 31 [] [fB b, Y c] [] (fB (b.dropWhile (· == c))) := by
  obtain ⟨R, hR⟩ : ∃ R, R = b.dropWhile (· == c) := ⟨_, rfl⟩
  rw [← hR]
  refine con_j b31 rfl ?_
  sym =>
  simp [Zaa,Zab,Zad,Zae,Zaf,Zag,Zah,Zai,Zak,Zal,Zam,Zan,Zao,Zap,Zaq,Zav,Zaw,Zay,Zaz,Za0,Za1,Za2,Za3,Za4,Za5,Za6,Za7,Za8,Za9,Zba,Zbb,Zbd,Zbf,Zbt,Zb1,Zch,Zcn,Zev,Zew,Zex,Zez,Ze0,Ze2,Ze5,Zfd,Zfe,Zfh,Zfi,Zfk,Zfl,Zfn,Zfz,Zf3,Zgr,Zgu,Zg4,Zg6,Zhm,Zhn,Zho,Zhs,Zht,Zhu,Zh6,Zh7,Zmt,Zmv,Zmw,Zmx,Zmz,Zm2,Zm6,Zna,Znb,Zns,Znu,Znx,Zny,Zn5,Zrd,Zos,Zot,Zo7,Zo8,Zo9,Zpc,Zpi,Zpx,Zqf,Zqg,Zqh,Zqm,eq_self,true_and,and_true,not_false_eq_true,Nat.mul_one]
  tactic =>
  refine lpA (i31 b c R) b.length [] _ ⟨b, rfl, Nat.le_refl _, hR.symm, rfl⟩ (wkA ?_) ?_
  · sym =>
    simp [Zaa,Zab,Zad,Zae,Zaf,Zag,Zah,Zai,Zak,Zal,Zam,Zan,Zao,Zap,Zaq,Zav,Zaw,Zay,Zaz,Za0,Za1,Za2,Za3,Za4,Za5,Za6,Za7,Za8,Za9,Zba,Zbb,Zbd,Zbf,Zbt,Zb1,Zch,Zcn,Zev,Zew,Zex,Zez,Ze0,Ze2,Ze5,Zfd,Zfe,Zfh,Zfi,Zfk,Zfl,Zfn,Zfz,Zf3,Zgr,Zgu,Zg4,Zg6,Zhm,Zhn,Zho,Zhs,Zht,Zhu,Zh6,Zh7,Zmt,Zmv,Zmw,Zmx,Zmz,Zm2,Zm6,Zna,Znb,Zns,Znu,Znx,Zny,Zn5,Zrd,Zos,Zot,Zo7,Zo8,Zo9,Zpc,Zpi,Zpx,Zqf,Zqg,Zqh,Zqm,eq_self,true_and,and_true,not_false_eq_true,Nat.mul_one]
  rintro k s ⟨d, rfl, hdl, hu, rfl⟩
  rcases d with _ | ⟨x, r⟩
  · have hR0 : R = [] := hu.symm
    subst hR0
    sym =>
    simp [Zaa,Zab,Zad,Zae,Zaf,Zag,Zah,Zai,Zak,Zal,Zam,Zan,Zao,Zap,Zaq,Zav,Zaw,Zay,Zaz,Za0,Za1,Za2,Za3,Za4,Za5,Za6,Za7,Za8,Za9,Zba,Zbb,Zbd,Zbf,Zbt,Zb1,Zch,Zcn,Zev,Zew,Zex,Zez,Ze0,Ze2,Ze5,Zfd,Zfe,Zfh,Zfi,Zfk,Zfl,Zfn,Zfz,Zf3,Zgr,Zgu,Zg4,Zg6,Zhm,Zhn,Zho,Zhs,Zht,Zhu,Zh6,Zh7,Zmt,Zmv,Zmw,Zmx,Zmz,Zm2,Zm6,Zna,Znb,Zns,Znu,Znx,Zny,Zn5,Zrd,Zos,Zot,Zo7,Zo8,Zo9,Zpc,Zpi,Zpx,Zqf,Zqg,Zqh,Zqm,eq_self,true_and,and_true,not_false_eq_true,Nat.mul_one]
    tactic =>
    refine endA ?_
    sym =>
    simp [Zaa,Zab,Zad,Zae,Zaf,Zag,Zah,Zai,Zak,Zal,Zam,Zan,Zao,Zap,Zaq,Zav,Zaw,Zay,Zaz,Za0,Za1,Za2,Za3,Za4,Za5,Za6,Za7,Za8,Za9,Zba,Zbb,Zbd,Zbf,Zbt,Zb1,Zch,Zcn,Zev,Zew,Zex,Zez,Ze0,Ze2,Ze5,Zfd,Zfe,Zfh,Zfi,Zfk,Zfl,Zfn,Zfz,Zf3,Zgr,Zgu,Zg4,Zg6,Zhm,Zhn,Zho,Zhs,Zht,Zhu,Zh6,Zh7,Zmt,Zmv,Zmw,Zmx,Zmz,Zm2,Zm6,Zna,Znb,Zns,Znu,Znx,Zny,Zn5,Zrd,Zos,Zot,Zo7,Zo8,Zo9,Zpc,Zpi,Zpx,Zqf,Zqg,Zqh,Zqm,eq_self,true_and,and_true,not_false_eq_true,Nat.mul_one]
    tactic =>
    rfl
  · obtain ⟨m, hm⟩ : ∃ m, m = (x :: r).length := ⟨_, rfl⟩
    have hml : m = r.length + 1 := hm
    obtain ⟨y, hy⟩ : ∃ y, y = x :: r := ⟨_, rfl⟩
    have hg : (cB y).getD 0 .un = Y x := by rw [hy]; rfl
    have hq := cB_length y
    have hyl : y.length = m := by rw [hy, hm]
    have hgt : 0 < m := by omega
    have hle : 1 ≤ m := by omega
    have ed : List.drop 1 (cB y) = cB r := by rw [hy]; rfl
    have edl : m - 1 = r.length := by omega
    have eda := cB_all r
    rw [← hm] at hdl ⊢
    rw [← hy] at hu
    have hfy : fB (x :: r) = .fz m (cB y) := by rw [hy, hm]
    rw [hfy]
    have hm0 : ¬ m = 0 := by omega
    by_cases h : x = c
    · have hu2 : r.dropWhile (· == c) = R := by rw [← hu, hy, List.dropWhile_cons_of_pos (by simp [h])]
      sym =>
      simp [Zaa,Zab,Zad,Zae,Zaf,Zag,Zah,Zai,Zak,Zal,Zam,Zan,Zao,Zap,Zaq,Zav,Zaw,Zay,Zaz,Za0,Za1,Za2,Za3,Za4,Za5,Za6,Za7,Za8,Za9,Zba,Zbb,Zbd,Zbf,Zbt,Zb1,Zch,Zcn,Zev,Zew,Zex,Zez,Ze0,Ze2,Ze5,Zfd,Zfe,Zfh,Zfi,Zfk,Zfl,Zfn,Zfz,Zf3,Zgr,Zgu,Zg4,Zg6,Zhm,Zhn,Zho,Zhs,Zht,Zhu,Zh6,Zh7,Zmt,Zmv,Zmw,Zmx,Zmz,Zm2,Zm6,Zna,Znb,Zns,Znu,Znx,Zny,Zn5,Zrd,Zos,Zot,Zo7,Zo8,Zo9,Zpc,Zpi,Zpx,Zqf,Zqg,Zqh,Zqm,eq_self,true_and,and_true,not_false_eq_true,Nat.mul_one,hgt,hle,hg,h,ed,edl,eda]
      tactic =>
      refine ⟨by omega, by omega, ⟨by simp only [IN]; omega, Nat.le_refl _⟩, ?_⟩
      obtain ⟨q, hq0⟩ : ∃ q, q = r.length := ⟨_, rfl⟩
      unfold NextL; refine ⟨q, [], _, by omega, ⟨r, hq0.symm, by omega, hu2, rfl⟩, wkA ?_⟩
      sym =>
      simp [Zaa,Zab,Zad,Zae,Zaf,Zag,Zah,Zai,Zak,Zal,Zam,Zan,Zao,Zap,Zaq,Zav,Zaw,Zay,Zaz,Za0,Za1,Za2,Za3,Za4,Za5,Za6,Za7,Za8,Za9,Zba,Zbb,Zbd,Zbf,Zbt,Zb1,Zch,Zcn,Zev,Zew,Zex,Zez,Ze0,Ze2,Ze5,Zfd,Zfe,Zfh,Zfi,Zfk,Zfl,Zfn,Zfz,Zf3,Zgr,Zgu,Zg4,Zg6,Zhm,Zhn,Zho,Zhs,Zht,Zhu,Zh6,Zh7,Zmt,Zmv,Zmw,Zmx,Zmz,Zm2,Zm6,Zna,Znb,Zns,Znu,Znx,Zny,Zn5,Zrd,Zos,Zot,Zo7,Zo8,Zo9,Zpc,Zpi,Zpx,Zqf,Zqg,Zqh,Zqm,eq_self,true_and,and_true,not_false_eq_true,Nat.mul_one]
    · have hu2 : y = R := by rw [← hu, hy, List.dropWhile_cons_of_neg (by simp [h])]
      subst hu2
      rw [hyl]
      sym =>
      simp [Zaa,Zab,Zad,Zae,Zaf,Zag,Zah,Zai,Zak,Zal,Zam,Zan,Zao,Zap,Zaq,Zav,Zaw,Zay,Zaz,Za0,Za1,Za2,Za3,Za4,Za5,Za6,Za7,Za8,Za9,Zba,Zbb,Zbd,Zbf,Zbt,Zb1,Zch,Zcn,Zev,Zew,Zex,Zez,Ze0,Ze2,Ze5,Zfd,Zfe,Zfh,Zfi,Zfk,Zfl,Zfn,Zfz,Zf3,Zgr,Zgu,Zg4,Zg6,Zhm,Zhn,Zho,Zhs,Zht,Zhu,Zh6,Zh7,Zmt,Zmv,Zmw,Zmx,Zmz,Zm2,Zm6,Zna,Znb,Zns,Znu,Znx,Zny,Zn5,Zrd,Zos,Zot,Zo7,Zo8,Zo9,Zpc,Zpi,Zpx,Zqf,Zqg,Zqh,Zqm,eq_self,true_and,and_true,not_false_eq_true,Nat.mul_one,hgt,hle,hg,h,hm0]
      tactic =>
      refine ⟨by omega, by omega, endA ?_⟩
      sym =>
      simp [Zaa,Zab,Zad,Zae,Zaf,Zag,Zah,Zai,Zak,Zal,Zam,Zan,Zao,Zap,Zaq,Zav,Zaw,Zay,Zaz,Za0,Za1,Za2,Za3,Za4,Za5,Za6,Za7,Za8,Za9,Zba,Zbb,Zbd,Zbf,Zbt,Zb1,Zch,Zcn,Zev,Zew,Zex,Zez,Ze0,Ze2,Ze5,Zfd,Zfe,Zfh,Zfi,Zfk,Zfl,Zfn,Zfz,Zf3,Zgr,Zgu,Zg4,Zg6,Zhm,Zhn,Zho,Zhs,Zht,Zhu,Zh6,Zh7,Zmt,Zmv,Zmw,Zmx,Zmz,Zm2,Zm6,Zna,Znb,Zns,Znu,Znx,Zny,Zn5,Zrd,Zos,Zot,Zo7,Zo8,Zo9,Zpc,Zpi,Zpx,Zqf,Zqg,Zqh,Zqm,eq_self,true_and,and_true,not_false_eq_true,Nat.mul_one]
/-- The bytes that are trimmed, as a set. -/
def bl : List AV := ((List.replicate 256 (Bo false)).set 32 (Bo true)).set 0 (Bo true)
theorem bl_get (x : Int) (h : 0 ≤ x ∧ x < 256) : bl.getD x.toNat .un = Bo (NumA.blank x) := by
  obtain ⟨n, rfl⟩ := Int.eq_ofNat_of_zero_le h.1
  have hn : n < 256 := by omega
  have e : (n : Int).toNat = n := rfl
  rw [e]
  unfold bl
  rw [List.getD_eq_getElem?_getD]
  by_cases h0 : n = 0
  · subst h0; rfl
  · rw [List.getElem?_set_ne (by omega)]
    by_cases h32 : n = 32
    · subst h32; rfl
    · rw [List.getElem?_set_ne (by omega), List.getElem?_replicate, if_pos hn]
      have : NumA.blank (n : Int) = false := by
        unfold NumA.blank
        rw [if_neg (by omega)]
        exact decide_eq_false (by omega)
      rw [this]; rfl
theorem bl_len : bl.length = 256 := by
  unfold bl
  rw [List.length_set, List.length_set, List.length_replicate]
theorem has_con (x : Int) (h : 0 ≤ x ∧ x < 256) : Con Tryd.prog 38 [] [.fp bl 0, Y x] [] (Bo (NumA.blank x)) := by
  have hg := bl_get x h
  have hl := bl_len
  have hlt : x < IN 256 := by simp only [IN]; omega
  refine con_j b38 rfl ?_
  sym =>
  simp [Zab,Zad,Zak,Zam,Zaz,Za0,Za1,Za2,Za3,Za4,Za5,Za9,Zba,Zbb,Zbt,Zbz,Zcd,Zev,Zew,Zez,Ze0,Ze2,Ze5,Zfd,Zfe,Zfh,Zgr,Zgu,Zg1,Zg3,Zhj,Zhl,Zho,Zmt,Zmv,Zmw,Zmx,Zmz,Zm2,Zm6,Zna,Znb,Zos,Zot,Zo7,Zpc,eq_self,true_and,and_true,Nat.zero_add,Nat.mul_one,hg,hl,hlt]
  tactic =>
  refine ⟨h.1, by omega, endA ?_⟩
  sym =>
  simp [Zab,Zad,Zak,Zam,Zaz,Za0,Za1,Za2,Za3,Za4,Za5,Za9,Zba,Zbb,Zbt,Zbz,Zcd,Zev,Zew,Zez,Ze0,Ze2,Ze5,Zfd,Zfe,Zfh,Zgr,Zgu,Zg1,Zg3,Zhj,Zhl,Zho,Zmt,Zmv,Zmw,Zmx,Zmz,Zm2,Zm6,Zna,Znb,Zos,Zot,Zo7,Zpc,eq_self,true_and,and_true,Nat.zero_add,Nat.mul_one]
def i32 (S : ByteArray) (k : Nat) (s : St) : Prop := (k = 2 ∧ s = ⟨[(0, .sc (.string S)), (2, .pt 0 0), (4, I (IN 0))], [(0, ⟨List.replicate 256 (Bo false), 1, 0⟩)], 1⟩) ∨
  (k = 1 ∧ s = ⟨[(0, .sc (.string S)), (2, .pt 0 0), (4, I (IN 1))], [(0, ⟨(List.replicate 256 (Bo false)).set 32 (Bo true), 1, 0⟩)], 1⟩) ∨
  (k = 0 ∧ s = ⟨[(0, .sc (.string S)), (2, .pt 0 0), (4, I (IN 2))], [(0, ⟨bl, 1, 0⟩)], 1⟩)
theorem set_con (S : ByteArray) (hS : S = ⟨#[32, 0]⟩) : Con Tryd.prog 32 [] [.sc (.string S)] [] (.tu [.ag bl, Bo true]) := by
  have hs : S.size = 2 := by rw [hS]; rfl
  have p0 : 0 < S.size := by omega
  have p1 : (1 : Int) < IN S.size := by simp only [IN]; omega
  have p2 : ¬ (2 : Int) < IN S.size := by simp only [IN]; omega
  have hz : okI (List.replicate 256 (Bo false)) := by intro x hx; rw [List.eq_of_mem_replicate hx]; rfl
  obtain ⟨z, hz0⟩ : ∃ z, z = List.replicate 256 (Bo false) := ⟨_, rfl⟩
  have hbl : (z.set 32 (Bo true)).set 0 (Bo true) = bl := by rw [hz0]; rfl
  have hbI : okI bl := by
    unfold bl
    intro x hx
    rcases List.mem_or_eq_of_mem_set hx with hx | rfl
    · rcases List.mem_or_eq_of_mem_set hx with hx | rfl
      · rw [List.eq_of_mem_replicate hx]; rfl
      · rfl
    · rfl
  have hzI : okI (z.set 32 (Bo true)) := by
    intro x hx
    rcases List.mem_or_eq_of_mem_set hx with hx | rfl
    · rw [hz0] at hx; rw [List.eq_of_mem_replicate hx]; rfl
    · rfl
  have s0 : sAt S 0 = 32 := by rw [hS]; rfl
  have s1 : sAt S 1 = 0 := by rw [hS]; rfl
  have n32 : (32 : Int).toNat = 32 := rfl
  have hzl : z.length = 256 := by rw [hz0]; exact List.length_replicate
  refine con_j b32 rfl ?_
  sym =>
  simp [Zaa,Zab,Zad,Zae,Zaf,Zag,Zah,Zai,Zak,Zal,Zam,Zan,Zap,Zaq,Zav,Zaw,Zay,Zaz,Za0,Za1,Za2,Za3,Za4,Za5,Za9,Zba,Zbb,Zbf,Zbt,Zbz,Zb5,Zcl,Zcv,Zc3,Zev,Zew,Zez,Ze0,Ze1,Ze2,Ze3,Ze5,Ze8,Zfc,Zfd,Zfe,Zfh,Zfn,Zfq,Zf1,Zf4,Zgr,Zgs,Zgt,Zgv,Zg1,Zg2,Zg9,Zha,Zho,Zh4,Zh5,Zin,Ziu,Ziv,Ziw,Zi6,Zi8,Zjh,Zji,Zjs,Zmt,Zmv,Zmw,Zmx,Zmy,Zmz,Zm0,Zm1,Zm3,Zm5,Zna,Znb,Znn,Zno,Znr,Znx,Zn5,Zn6,Zn7,Zrd,Zos,Zot,Zo7,Zo8,Zo9,Zpb,Zpc,Zpu,Zp7,Zp9,Zqd,Zqe,Zqf,Zqg,Zqh,Zqi,Zqk,Zql,Zqm,Zqn,Zqr,List.length_replicate,List.length_set,eq_self,true_and,and_true]
  tactic =>
  refine lpA (i32 S) 2 [(0, 0)] _ (.inl ⟨rfl, rfl⟩) (wkA ?_) ?_
  · sym =>
    simp [Zaa,Zab,Zad,Zae,Zaf,Zag,Zah,Zai,Zak,Zal,Zam,Zan,Zap,Zaq,Zav,Zaw,Zay,Zaz,Za0,Za1,Za2,Za3,Za4,Za5,Za9,Zba,Zbb,Zbf,Zbt,Zbz,Zb5,Zcl,Zcv,Zc3,Zev,Zew,Zez,Ze0,Ze1,Ze2,Ze3,Ze5,Ze8,Zfc,Zfd,Zfe,Zfh,Zfn,Zfq,Zf1,Zf4,Zgr,Zgs,Zgt,Zgv,Zg1,Zg2,Zg9,Zha,Zho,Zh4,Zh5,Zin,Ziu,Ziv,Ziw,Zi6,Zi8,Zjh,Zji,Zjs,Zmt,Zmv,Zmw,Zmx,Zmy,Zmz,Zm0,Zm1,Zm3,Zm5,Zna,Znb,Znn,Zno,Znr,Znx,Zn5,Zn6,Zn7,Zrd,Zos,Zot,Zo7,Zo8,Zo9,Zpb,Zpc,Zpu,Zp7,Zp9,Zqd,Zqe,Zqf,Zqg,Zqh,Zqi,Zqk,Zql,Zqm,Zqn,Zqr,List.length_replicate,List.length_set,eq_self,true_and,and_true]
    tactic =>
    exact rs_self hz
  rintro k s (⟨rfl, rfl⟩ | ⟨rfl, rfl⟩ | ⟨rfl, rfl⟩)
  · rw [← hz0]
    sym =>
    simp [Zaa,Zab,Zad,Zae,Zaf,Zag,Zah,Zai,Zak,Zal,Zam,Zan,Zap,Zaq,Zav,Zaw,Zay,Zaz,Za0,Za1,Za2,Za3,Za4,Za5,Za9,Zba,Zbb,Zbf,Zbt,Zbz,Zb5,Zcl,Zcv,Zc3,Zev,Zew,Zez,Ze0,Ze1,Ze2,Ze3,Ze5,Ze8,Zfc,Zfd,Zfe,Zfh,Zfn,Zfq,Zf1,Zf4,Zgr,Zgs,Zgt,Zgv,Zg1,Zg2,Zg9,Zha,Zho,Zh4,Zh5,Zin,Ziu,Ziv,Ziw,Zi6,Zi8,Zjh,Zji,Zjs,Zmt,Zmv,Zmw,Zmx,Zmy,Zmz,Zm0,Zm1,Zm3,Zm5,Zna,Znb,Znn,Zno,Znr,Znx,Zn5,Zn6,Zn7,Zrd,Zos,Zot,Zo7,Zo8,Zo9,Zpb,Zpc,Zpu,Zp7,Zp9,Zqd,Zqe,Zqf,Zqg,Zqh,Zqi,Zqk,Zql,Zqm,Zqn,Zqr,List.length_replicate,List.length_set,eq_self,true_and,and_true,p0,s0,n32,hzl]
    tactic =>
    and_intros
    all_goals try (first | decide | (simp only [IN]; omega))
    unfold NextL; refine ⟨(1), [(0, 0)], _, by omega, (.inr (.inl ⟨rfl, rfl⟩)), wkA ?_⟩
    rw [← hz0]
    sym =>
    simp [Zaa,Zab,Zad,Zae,Zaf,Zag,Zah,Zai,Zak,Zal,Zam,Zan,Zap,Zaq,Zav,Zaw,Zay,Zaz,Za0,Za1,Za2,Za3,Za4,Za5,Za9,Zba,Zbb,Zbf,Zbt,Zbz,Zb5,Zcl,Zcv,Zc3,Zev,Zew,Zez,Ze0,Ze1,Ze2,Ze3,Ze5,Ze8,Zfc,Zfd,Zfe,Zfh,Zfn,Zfq,Zf1,Zf4,Zgr,Zgs,Zgt,Zgv,Zg1,Zg2,Zg9,Zha,Zho,Zh4,Zh5,Zin,Ziu,Ziv,Ziw,Zi6,Zi8,Zjh,Zji,Zjs,Zmt,Zmv,Zmw,Zmx,Zmy,Zmz,Zm0,Zm1,Zm3,Zm5,Zna,Znb,Znn,Zno,Znr,Znx,Zn5,Zn6,Zn7,Zrd,Zos,Zot,Zo7,Zo8,Zo9,Zpb,Zpc,Zpu,Zp7,Zp9,Zqd,Zqe,Zqf,Zqg,Zqh,Zqi,Zqk,Zql,Zqm,Zqn,Zqr,List.length_replicate,List.length_set,eq_self,true_and,and_true]
    tactic =>
    exact ⟨by decide, rs_self hzI⟩
  · rw [← hz0]
    sym =>
    simp [Zaa,Zab,Zad,Zae,Zaf,Zag,Zah,Zai,Zak,Zal,Zam,Zan,Zap,Zaq,Zav,Zaw,Zay,Zaz,Za0,Za1,Za2,Za3,Za4,Za5,Za9,Zba,Zbb,Zbf,Zbt,Zbz,Zb5,Zcl,Zcv,Zc3,Zev,Zew,Zez,Ze0,Ze1,Ze2,Ze3,Ze5,Ze8,Zfc,Zfd,Zfe,Zfh,Zfn,Zfq,Zf1,Zf4,Zgr,Zgs,Zgt,Zgv,Zg1,Zg2,Zg9,Zha,Zho,Zh4,Zh5,Zin,Ziu,Ziv,Ziw,Zi6,Zi8,Zjh,Zji,Zjs,Zmt,Zmv,Zmw,Zmx,Zmy,Zmz,Zm0,Zm1,Zm3,Zm5,Zna,Znb,Znn,Zno,Znr,Znx,Zn5,Zn6,Zn7,Zrd,Zos,Zot,Zo7,Zo8,Zo9,Zpb,Zpc,Zpu,Zp7,Zp9,Zqd,Zqe,Zqf,Zqg,Zqh,Zqi,Zqk,Zql,Zqm,Zqn,Zqr,List.length_replicate,List.length_set,eq_self,true_and,and_true,p1,s1,hzl]
    tactic =>
    unfold NextL; refine ⟨(0), [(0, 0)], _, by omega, (.inr (.inr ⟨rfl, rfl⟩)), wkA ?_⟩
    rw [hbl]
    sym =>
    simp [Zaa,Zab,Zad,Zae,Zaf,Zag,Zah,Zai,Zak,Zal,Zam,Zan,Zap,Zaq,Zav,Zaw,Zay,Zaz,Za0,Za1,Za2,Za3,Za4,Za5,Za9,Zba,Zbb,Zbf,Zbt,Zbz,Zb5,Zcl,Zcv,Zc3,Zev,Zew,Zez,Ze0,Ze1,Ze2,Ze3,Ze5,Ze8,Zfc,Zfd,Zfe,Zfh,Zfn,Zfq,Zf1,Zf4,Zgr,Zgs,Zgt,Zgv,Zg1,Zg2,Zg9,Zha,Zho,Zh4,Zh5,Zin,Ziu,Ziv,Ziw,Zi6,Zi8,Zjh,Zji,Zjs,Zmt,Zmv,Zmw,Zmx,Zmy,Zmz,Zm0,Zm1,Zm3,Zm5,Zna,Znb,Znn,Zno,Znr,Znx,Zn5,Zn6,Zn7,Zrd,Zos,Zot,Zo7,Zo8,Zo9,Zpb,Zpc,Zpu,Zp7,Zp9,Zqd,Zqe,Zqf,Zqg,Zqh,Zqi,Zqk,Zql,Zqm,Zqn,Zqr,List.length_replicate,List.length_set,eq_self,true_and,and_true]
    tactic =>
    exact ⟨by decide, rs_self hbI⟩
  · have hr := rdb_all bl_len
    have hsp := spl_new bl bl rfl
    have hll := bl_len
    have hc : ∀ st, okCells st bl := fun st => okF_cells (by
      unfold bl
      intro x hx
      rcases List.mem_or_eq_of_mem_set hx with hx | rfl
      · rcases List.mem_or_eq_of_mem_set hx with hx | rfl
        · rw [List.eq_of_mem_replicate hx]; rfl
        · rfl
      · rfl) st
    sym =>
    simp [Zaa,Zab,Zad,Zae,Zaf,Zag,Zah,Zai,Zak,Zal,Zam,Zan,Zap,Zaq,Zav,Zaw,Zay,Zaz,Za0,Za1,Za2,Za3,Za4,Za5,Za9,Zba,Zbb,Zbf,Zbt,Zbz,Zb5,Zcl,Zcv,Zc3,Zev,Zew,Zez,Ze0,Ze1,Ze2,Ze3,Ze5,Ze8,Zfc,Zfd,Zfe,Zfh,Zfn,Zfq,Zf1,Zf4,Zgr,Zgs,Zgt,Zgv,Zg1,Zg2,Zg9,Zha,Zho,Zh4,Zh5,Zin,Ziu,Ziv,Ziw,Zi6,Zi8,Zjh,Zji,Zjs,Zmt,Zmv,Zmw,Zmx,Zmy,Zmz,Zm0,Zm1,Zm3,Zm5,Zna,Znb,Znn,Zno,Znr,Znx,Zn5,Zn6,Zn7,Zrd,Zos,Zot,Zo7,Zo8,Zo9,Zpb,Zpc,Zpu,Zp7,Zp9,Zqd,Zqe,Zqf,Zqg,Zqh,Zqi,Zqk,Zql,Zqm,Zqn,Zqr,List.length_replicate,List.length_set,eq_self,true_and,and_true,p2,hr,hsp,hll]
    tactic =>
    refine ⟨hc _, endA ?_⟩
    sym =>
    simp [Zaa,Zab,Zad,Zae,Zaf,Zag,Zah,Zai,Zak,Zal,Zam,Zan,Zap,Zaq,Zav,Zaw,Zay,Zaz,Za0,Za1,Za2,Za3,Za4,Za5,Za9,Zba,Zbb,Zbf,Zbt,Zbz,Zb5,Zcl,Zcv,Zc3,Zev,Zew,Zez,Ze0,Ze1,Ze2,Ze3,Ze5,Ze8,Zfc,Zfd,Zfe,Zfh,Zfn,Zfq,Zf1,Zf4,Zgr,Zgs,Zgt,Zgv,Zg1,Zg2,Zg9,Zha,Zho,Zh4,Zh5,Zin,Ziu,Ziv,Ziw,Zi6,Zi8,Zjh,Zji,Zjs,Zmt,Zmv,Zmw,Zmx,Zmy,Zmz,Zm0,Zm1,Zm3,Zm5,Zna,Znb,Znn,Zno,Znr,Znx,Zn5,Zn6,Zn7,Zrd,Zos,Zot,Zo7,Zo8,Zo9,Zpb,Zpc,Zpu,Zp7,Zp9,Zqd,Zqe,Zqf,Zqg,Zqh,Zqi,Zqk,Zql,Zqm,Zqn,Zqr,List.length_replicate,List.length_set,eq_self,true_and,and_true]
    tactic =>
    exact rs_self hbI
end Go.Proofs.YthhccabdlajngaaDoor.NumD
