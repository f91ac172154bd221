import Derived.Test.YthhccabdlajngaaDoorNumD
namespace Go.Proofs.YthhccabdlajngaaDoor.NumE
open Go Go.Sim Go.Sim.E Go.RowKit Go.Proofs Go.Proofs.YthhccabdlajngaaDoor.Cod Go.Proofs.YthhccabdlajngaaDoor.Tab Go.Proofs.YthhccabdlajngaaDoor.Bse Go.Proofs.YthhccabdlajngaaDoor.NumA Go.Proofs.YthhccabdlajngaaDoor.NumB Go.Proofs.YthhccabdlajngaaDoor.NumC Go.Proofs.YthhccabdlajngaaDoor.NumD
set_option linter.unusedVariables false
set_option linter.unusedSimpArgs false
set_option maxRecDepth 100000
set_option maxHeartbeats 4000000
def blk (x : Int) : Bool := NumA.blank x
/-- Blanks ahead dropped. -/
def lT (b : List Int) : List Int := b.dropWhile blk
def i33 (b R : List Int) (k : Nat) (s : St) : Prop := ∃ d : List Int, d.length = k ∧ byt8 d ∧ d.length ≤ b.length ∧ lT d = R ∧ s = ⟨[(0, fB d), (1, .fp bl 0)], [], 0⟩
theorem trimLA_con (b : List Int) (hb : byt8 b) (hl : b.length ≤ 1000) : Con Tryd.prog 33 [] [fB b, .fp bl 0] [] (fB (lT b)) := by
  obtain ⟨R, hR⟩ : ∃ R, R = lT b := ⟨_, rfl⟩
  rw [← hR]
  have hbF := bl_len
  refine con_j b33 rfl ?_
  sym =>
  simp [Zaa,Zab,Zad,Zae,Zaf,Zag,Zah,Zai,Zak,Zal,Zam,Zan,Zao,Zap,Zaq,Zav,Zaw,Zay,Zaz,Za0,Za1,Za2,Za3,Za4,Za5,Za9,Zba,Zbb,Zbf,Zbj,Zbt,Zb1,Zch,Zcn,Zdc,Zdd,Zde,Zdi,Zev,Zew,Zez,Ze0,Ze2,Ze5,Zfd,Zfe,Zfh,Zfn,Zfz,Zf3,Zgd,Zgg,Zgr,Zgu,Zg4,Zg6,Zhm,Zhn,Zho,Zhs,Zht,Zhu,Zh6,Zh7,Zjw,Zla,Zlb,Zle,Zlj,Zln,Zlz,Zmt,Zmv,Zmw,Zmx,Zmz,Zm2,Zm6,Zna,Znb,Zne,Znf,Zng,Zns,Znu,Znx,Zny,Zn5,Zrd,Zos,Zot,Zo3,Zo4,Zo7,Zo8,Zo9,Zpi,Zpl,Zpx,Zqf,Zqg,Zqh,Zqm,eq_self,true_and,and_true,Nat.mul_one]
  tactic =>
  refine lpA (i33 b R) b.length [] _ ⟨b, rfl, hb, Nat.le_refl _, hR.symm, rfl⟩ (wkA ?_) ?_
  · sym =>
    simp [Zaa,Zab,Zad,Zae,Zaf,Zag,Zah,Zai,Zak,Zal,Zam,Zan,Zao,Zap,Zaq,Zav,Zaw,Zay,Zaz,Za0,Za1,Za2,Za3,Za4,Za5,Za9,Zba,Zbb,Zbf,Zbj,Zbt,Zb1,Zch,Zcn,Zdc,Zdd,Zde,Zdi,Zev,Zew,Zez,Ze0,Ze2,Ze5,Zfd,Zfe,Zfh,Zfn,Zfz,Zf3,Zgd,Zgg,Zgr,Zgu,Zg4,Zg6,Zhm,Zhn,Zho,Zhs,Zht,Zhu,Zh6,Zh7,Zjw,Zla,Zlb,Zle,Zlj,Zln,Zlz,Zmt,Zmv,Zmw,Zmx,Zmz,Zm2,Zm6,Zna,Znb,Zne,Znf,Zng,Zns,Znu,Znx,Zny,Zn5,Zrd,Zos,Zot,Zo3,Zo4,Zo7,Zo8,Zo9,Zpi,Zpl,Zpx,Zqf,Zqg,Zqh,Zqm,eq_self,true_and,and_true,Nat.mul_one]
  rintro k s ⟨d, rfl, hdb, hdl, hu, rfl⟩
  rcases d with _ | ⟨x, r⟩
  · have hR0 : R = [] := hu.symm
    subst hR0
    sym =>
    simp [Zaa,Zab,Zad,Zae,Zaf,Zag,Zah,Zai,Zak,Zal,Zam,Zan,Zao,Zap,Zaq,Zav,Zaw,Zay,Zaz,Za0,Za1,Za2,Za3,Za4,Za5,Za9,Zba,Zbb,Zbf,Zbj,Zbt,Zb1,Zch,Zcn,Zdc,Zdd,Zde,Zdi,Zev,Zew,Zez,Ze0,Ze2,Ze5,Zfd,Zfe,Zfh,Zfn,Zfz,Zf3,Zgd,Zgg,Zgr,Zgu,Zg4,Zg6,Zhm,Zhn,Zho,Zhs,Zht,Zhu,Zh6,Zh7,Zjw,Zla,Zlb,Zle,Zlj,Zln,Zlz,Zmt,Zmv,Zmw,Zmx,Zmz,Zm2,Zm6,Zna,Znb,Zne,Znf,Zng,Zns,Znu,Znx,Zny,Zn5,Zrd,Zos,Zot,Zo3,Zo4,Zo7,Zo8,Zo9,Zpi,Zpl,Zpx,Zqf,Zqg,Zqh,Zqm,eq_self,true_and,and_true,Nat.mul_one]
    tactic =>
    refine endA ?_
    sym =>
    simp [Zaa,Zab,Zad,Zae,Zaf,Zag,Zah,Zai,Zak,Zal,Zam,Zan,Zao,Zap,Zaq,Zav,Zaw,Zay,Zaz,Za0,Za1,Za2,Za3,Za4,Za5,Za9,Zba,Zbb,Zbf,Zbj,Zbt,Zb1,Zch,Zcn,Zdc,Zdd,Zde,Zdi,Zev,Zew,Zez,Ze0,Ze2,Ze5,Zfd,Zfe,Zfh,Zfn,Zfz,Zf3,Zgd,Zgg,Zgr,Zgu,Zg4,Zg6,Zhm,Zhn,Zho,Zhs,Zht,Zhu,Zh6,Zh7,Zjw,Zla,Zlb,Zle,Zlj,Zln,Zlz,Zmt,Zmv,Zmw,Zmx,Zmz,Zm2,Zm6,Zna,Znb,Zne,Znf,Zng,Zns,Znu,Znx,Zny,Zn5,Zrd,Zos,Zot,Zo3,Zo4,Zo7,Zo8,Zo9,Zpi,Zpl,Zpx,Zqf,Zqg,Zqh,Zqm,eq_self,true_and,and_true,Nat.mul_one]
    tactic =>
    rfl
  · have hx := hdb x (List.mem_cons_self ..)
    have hrb : byt8 r := fun y hy => hdb y (List.mem_cons_of_mem _ hy)
    have hc := has_con x hx
    obtain ⟨m, hm⟩ : ∃ m, m = (x :: r).length := ⟨_, rfl⟩
    have hml : m = r.length + 1 := hm
    obtain ⟨y, hy⟩ : ∃ y, y = x :: r := ⟨_, rfl⟩
    have hg : (cB y).getD 0 .un = Y x := by rw [hy]; rfl
    have hq := cB_length y
    have hyl : y.length = m := by rw [hy, hm]
    have hgt : 0 < m := by omega
    have hle : 1 ≤ m := by omega
    have ed : List.drop 1 (cB y) = cB r := by rw [hy]; rfl
    have edl : m - 1 = r.length := by omega
    have eda := cB_all r
    rw [← hm] at hdl ⊢
    rw [← hy] at hu
    have hfy : fB (x :: r) = .fz m (cB y) := by rw [hy, hm]
    rw [hfy]
    have hm0 : ¬ m = 0 := by omega
    by_cases h : NumA.blank x = true
    · have hu2 : lT r = R := by rw [← hu, hy]; exact (List.dropWhile_cons_of_pos (p := blk) h).symm
      rw [h] at hc
      sym =>
      simp [Zaa,Zab,Zad,Zae,Zaf,Zag,Zah,Zai,Zak,Zal,Zam,Zan,Zao,Zap,Zaq,Zav,Zaw,Zay,Zaz,Za0,Za1,Za2,Za3,Za4,Za5,Za9,Zba,Zbb,Zbf,Zbj,Zbt,Zb1,Zch,Zcn,Zdc,Zdd,Zde,Zdi,Zev,Zew,Zez,Ze0,Ze2,Ze5,Zfd,Zfe,Zfh,Zfn,Zfz,Zf3,Zgd,Zgg,Zgr,Zgu,Zg4,Zg6,Zhm,Zhn,Zho,Zhs,Zht,Zhu,Zh6,Zh7,Zjw,Zla,Zlb,Zle,Zlj,Zln,Zlz,Zmt,Zmv,Zmw,Zmx,Zmz,Zm2,Zm6,Zna,Znb,Zne,Znf,Zng,Zns,Znu,Znx,Zny,Zn5,Zrd,Zos,Zot,Zo3,Zo4,Zo7,Zo8,Zo9,Zpi,Zpl,Zpx,Zqf,Zqg,Zqh,Zqm,eq_self,true_and,and_true,Nat.mul_one,hgt,hle,hg,callable_38]
      tactic =>
      refine ⟨by omega, by omega, ?_⟩
      refine cl none (hc) trivial ?_
      sym =>
      simp [Zaa,Zab,Zad,Zae,Zaf,Zag,Zah,Zai,Zak,Zal,Zam,Zan,Zao,Zap,Zaq,Zav,Zaw,Zay,Zaz,Za0,Za1,Za2,Za3,Za4,Za5,Za9,Zba,Zbb,Zbf,Zbj,Zbt,Zb1,Zch,Zcn,Zdc,Zdd,Zde,Zdi,Zev,Zew,Zez,Ze0,Ze2,Ze5,Zfd,Zfe,Zfh,Zfn,Zfz,Zf3,Zgd,Zgg,Zgr,Zgu,Zg4,Zg6,Zhm,Zhn,Zho,Zhs,Zht,Zhu,Zh6,Zh7,Zjw,Zla,Zlb,Zle,Zlj,Zln,Zlz,Zmt,Zmv,Zmw,Zmx,Zmz,Zm2,Zm6,Zna,Znb,Zne,Znf,Zng,Zns,Znu,Znx,Zny,Zn5,Zrd,Zos,Zot,Zo3,Zo4,Zo7,Zo8,Zo9,Zpi,Zpl,Zpx,Zqf,Zqg,Zqh,Zqm,eq_self,true_and,and_true,Nat.mul_one,hle,ed,edl,eda]
      tactic =>
      refine ⟨⟨by simp only [IN]; omega, Nat.le_refl _⟩, ?_⟩
      obtain ⟨q, hq0⟩ : ∃ q, q = r.length := ⟨_, rfl⟩
      unfold NextL; refine ⟨q, [], _, by omega, ⟨r, hq0.symm, hrb, by omega, hu2, rfl⟩, wkA ?_⟩
      sym =>
      simp [Zaa,Zab,Zad,Zae,Zaf,Zag,Zah,Zai,Zak,Zal,Zam,Zan,Zao,Zap,Zaq,Zav,Zaw,Zay,Zaz,Za0,Za1,Za2,Za3,Za4,Za5,Za9,Zba,Zbb,Zbf,Zbj,Zbt,Zb1,Zch,Zcn,Zdc,Zdd,Zde,Zdi,Zev,Zew,Zez,Ze0,Ze2,Ze5,Zfd,Zfe,Zfh,Zfn,Zfz,Zf3,Zgd,Zgg,Zgr,Zgu,Zg4,Zg6,Zhm,Zhn,Zho,Zhs,Zht,Zhu,Zh6,Zh7,Zjw,Zla,Zlb,Zle,Zlj,Zln,Zlz,Zmt,Zmv,Zmw,Zmx,Zmz,Zm2,Zm6,Zna,Znb,Zne,Znf,Zng,Zns,Znu,Znx,Zny,Zn5,Zrd,Zos,Zot,Zo3,Zo4,Zo7,Zo8,Zo9,Zpi,Zpl,Zpx,Zqf,Zqg,Zqh,Zqm,eq_self,true_and,and_true,Nat.mul_one]
    · have h' : NumA.blank x = false := by cases hh : NumA.blank x; rfl; exact absurd hh h
      have hu2 : y = R := by rw [← hu, hy]; exact (List.dropWhile_cons_of_neg (p := blk) h).symm
      rw [h'] at hc
      subst hu2
      rw [hyl]
      sym =>
      simp [Zaa,Zab,Zad,Zae,Zaf,Zag,Zah,Zai,Zak,Zal,Zam,Zan,Zao,Zap,Zaq,Zav,Zaw,Zay,Zaz,Za0,Za1,Za2,Za3,Za4,Za5,Za9,Zba,Zbb,Zbf,Zbj,Zbt,Zb1,Zch,Zcn,Zdc,Zdd,Zde,Zdi,Zev,Zew,Zez,Ze0,Ze2,Ze5,Zfd,Zfe,Zfh,Zfn,Zfz,Zf3,Zgd,Zgg,Zgr,Zgu,Zg4,Zg6,Zhm,Zhn,Zho,Zhs,Zht,Zhu,Zh6,Zh7,Zjw,Zla,Zlb,Zle,Zlj,Zln,Zlz,Zmt,Zmv,Zmw,Zmx,Zmz,Zm2,Zm6,Zna,Znb,Zne,Znf,Zng,Zns,Znu,Znx,Zny,Zn5,Zrd,Zos,Zot,Zo3,Zo4,Zo7,Zo8,Zo9,Zpi,Zpl,Zpx,Zqf,Zqg,Zqh,Zqm,eq_self,true_and,and_true,Nat.mul_one,hgt,hle,hg,callable_38]
      tactic =>
      refine ⟨by omega, by omega, ?_⟩
      refine cl none (hc) trivial ?_
      sym =>
      simp [Zaa,Zab,Zad,Zae,Zaf,Zag,Zah,Zai,Zak,Zal,Zam,Zan,Zao,Zap,Zaq,Zav,Zaw,Zay,Zaz,Za0,Za1,Za2,Za3,Za4,Za5,Za9,Zba,Zbb,Zbf,Zbj,Zbt,Zb1,Zch,Zcn,Zdc,Zdd,Zde,Zdi,Zev,Zew,Zez,Ze0,Ze2,Ze5,Zfd,Zfe,Zfh,Zfn,Zfz,Zf3,Zgd,Zgg,Zgr,Zgu,Zg4,Zg6,Zhm,Zhn,Zho,Zhs,Zht,Zhu,Zh6,Zh7,Zjw,Zla,Zlb,Zle,Zlj,Zln,Zlz,Zmt,Zmv,Zmw,Zmx,Zmz,Zm2,Zm6,Zna,Znb,Zne,Znf,Zng,Zns,Znu,Znx,Zny,Zn5,Zrd,Zos,Zot,Zo3,Zo4,Zo7,Zo8,Zo9,Zpi,Zpl,Zpx,Zqf,Zqg,Zqh,Zqm,eq_self,true_and,and_true,Nat.mul_one,hm0]
      tactic =>
      refine endA ?_
      sym =>
      simp [Zaa,Zab,Zad,Zae,Zaf,Zag,Zah,Zai,Zak,Zal,Zam,Zan,Zao,Zap,Zaq,Zav,Zaw,Zay,Zaz,Za0,Za1,Za2,Za3,Za4,Za5,Za9,Zba,Zbb,Zbf,Zbj,Zbt,Zb1,Zch,Zcn,Zdc,Zdd,Zde,Zdi,Zev,Zew,Zez,Ze0,Ze2,Ze5,Zfd,Zfe,Zfh,Zfn,Zfz,Zf3,Zgd,Zgg,Zgr,Zgu,Zg4,Zg6,Zhm,Zhn,Zho,Zhs,Zht,Zhu,Zh6,Zh7,Zjw,Zla,Zlb,Zle,Zlj,Zln,Zlz,Zmt,Zmv,Zmw,Zmx,Zmz,Zm2,Zm6,Zna,Znb,Zne,Znf,Zng,Zns,Znu,Znx,Zny,Zn5,Zrd,Zos,Zot,Zo3,Zo4,Zo7,Zo8,Zo9,Zpi,Zpl,Zpx,Zqf,Zqg,Zqh,Zqm,eq_self,true_and,and_true,Nat.mul_one]
/-- Blanks behind dropped. -/
def rT (b : List Int) : List Int := (b.reverse.dropWhile blk).reverse
theorem rT_snoc (r : List Int) (x : Int) : rT (r ++ [x]) = if blk x = true then rT r else r ++ [x] := by
  unfold rT
  rw [List.reverse_append]
  show ((x :: r.reverse).dropWhile blk).reverse = _
  by_cases h : blk x = true
  · rw [if_pos h, List.dropWhile_cons_of_pos h]
  · rw [if_neg h, List.dropWhile_cons_of_neg h]; simp
def i36 (b R : List Int) (k : Nat) (s : St) : Prop := ∃ d : List Int, d.length = k ∧ byt8 d ∧ d.length ≤ b.length ∧ rT d = R ∧ s = ⟨[(0, fB d), (1, .fp bl 0)], [], 0⟩
theorem snoc_of {d : List Int} (h : d.length ≠ 0) : d = d.take (d.length - 1) ++ [d.getD (d.length - 1) 0] := by
  have := take_stepD d (d.length - 1) (by omega)
  rw [← this, List.take_of_length_le (by omega)]
theorem trimRA_con (b : List Int) (hb : byt8 b) (hl : b.length ≤ 1000) : Con Tryd.prog 36 [] [fB b, .fp bl 0] [] (fB (rT b)) := by
  obtain ⟨R, hR⟩ : ∃ R, R = rT b := ⟨_, rfl⟩
  rw [← hR]
  have hbF := bl_len
  refine con_j b36 rfl ?_
  sym =>
  simp [Zaa,Zab,Zad,Zae,Zaf,Zag,Zah,Zai,Zak,Zal,Zam,Zan,Zap,Zaq,Zav,Zaw,Zaz,Za0,Za1,Za2,Za3,Za4,Za5,Za9,Zba,Zbb,Zbf,Zbj,Zbt,Zb1,Zch,Zcn,Zdc,Zdd,Zde,Zdi,Zev,Zew,Zez,Ze0,Ze2,Ze5,Zfd,Zfe,Zfh,Zfn,Zfr,Zf3,Zgd,Zgg,Zgr,Zgu,Zg4,Zg6,Zhm,Zhn,Zho,Zhs,Zht,Zhu,Zh6,Zh7,Zjw,Zla,Zlb,Zle,Zlj,Zln,Zlz,Zmt,Zmv,Zmw,Zmx,Zmz,Zm2,Zm6,Zna,Znb,Zne,Znf,Zng,Znh,Zns,Znt,Znu,Znw,Znx,Zn5,Zrd,Zos,Zot,Zo3,Zo4,Zo7,Zo8,Zo9,Zpi,Zpl,Zqf,Zqg,Zqh,Zqm,eq_self,true_and,and_true,Nat.mul_one,Nat.sub_zero]
  tactic =>
  refine lpA (i36 b R) b.length [] _ ⟨b, rfl, hb, Nat.le_refl _, hR.symm, rfl⟩ (wkA ?_) ?_
  · sym =>
    simp [Zaa,Zab,Zad,Zae,Zaf,Zag,Zah,Zai,Zak,Zal,Zam,Zan,Zap,Zaq,Zav,Zaw,Zaz,Za0,Za1,Za2,Za3,Za4,Za5,Za9,Zba,Zbb,Zbf,Zbj,Zbt,Zb1,Zch,Zcn,Zdc,Zdd,Zde,Zdi,Zev,Zew,Zez,Ze0,Ze2,Ze5,Zfd,Zfe,Zfh,Zfn,Zfr,Zf3,Zgd,Zgg,Zgr,Zgu,Zg4,Zg6,Zhm,Zhn,Zho,Zhs,Zht,Zhu,Zh6,Zh7,Zjw,Zla,Zlb,Zle,Zlj,Zln,Zlz,Zmt,Zmv,Zmw,Zmx,Zmz,Zm2,Zm6,Zna,Znb,Zne,Znf,Zng,Znh,Zns,Znt,Znu,Znw,Znx,Zn5,Zrd,Zos,Zot,Zo3,Zo4,Zo7,Zo8,Zo9,Zpi,Zpl,Zqf,Zqg,Zqh,Zqm,eq_self,true_and,and_true,Nat.mul_one,Nat.sub_zero]
  rintro k s ⟨d, rfl, hdb, hdl, hu, rfl⟩
  by_cases h0 : d.length = 0
  · obtain rfl := List.length_eq_zero_iff.1 h0
    have hR0 : R = [] := hu.symm
    subst hR0
    sym =>
    simp [Zaa,Zab,Zad,Zae,Zaf,Zag,Zah,Zai,Zak,Zal,Zam,Zan,Zap,Zaq,Zav,Zaw,Zaz,Za0,Za1,Za2,Za3,Za4,Za5,Za9,Zba,Zbb,Zbf,Zbj,Zbt,Zb1,Zch,Zcn,Zdc,Zdd,Zde,Zdi,Zev,Zew,Zez,Ze0,Ze2,Ze5,Zfd,Zfe,Zfh,Zfn,Zfr,Zf3,Zgd,Zgg,Zgr,Zgu,Zg4,Zg6,Zhm,Zhn,Zho,Zhs,Zht,Zhu,Zh6,Zh7,Zjw,Zla,Zlb,Zle,Zlj,Zln,Zlz,Zmt,Zmv,Zmw,Zmx,Zmz,Zm2,Zm6,Zna,Znb,Zne,Znf,Zng,Znh,Zns,Znt,Znu,Znw,Znx,Zn5,Zrd,Zos,Zot,Zo3,Zo4,Zo7,Zo8,Zo9,Zpi,Zpl,Zqf,Zqg,Zqh,Zqm,eq_self,true_and,and_true,Nat.mul_one,Nat.sub_zero]
    tactic =>
    refine endA ?_
    sym =>
    simp [Zaa,Zab,Zad,Zae,Zaf,Zag,Zah,Zai,Zak,Zal,Zam,Zan,Zap,Zaq,Zav,Zaw,Zaz,Za0,Za1,Za2,Za3,Za4,Za5,Za9,Zba,Zbb,Zbf,Zbj,Zbt,Zb1,Zch,Zcn,Zdc,Zdd,Zde,Zdi,Zev,Zew,Zez,Ze0,Ze2,Ze5,Zfd,Zfe,Zfh,Zfn,Zfr,Zf3,Zgd,Zgg,Zgr,Zgu,Zg4,Zg6,Zhm,Zhn,Zho,Zhs,Zht,Zhu,Zh6,Zh7,Zjw,Zla,Zlb,Zle,Zlj,Zln,Zlz,Zmt,Zmv,Zmw,Zmx,Zmz,Zm2,Zm6,Zna,Znb,Zne,Znf,Zng,Znh,Zns,Znt,Znu,Znw,Znx,Zn5,Zrd,Zos,Zot,Zo3,Zo4,Zo7,Zo8,Zo9,Zpi,Zpl,Zqf,Zqg,Zqh,Zqm,eq_self,true_and,and_true,Nat.mul_one,Nat.sub_zero]
  · have hx := byt8_get hdb (d.length - 1)
    have hc := has_con _ hx
    have hg := cB_get d (d.length - 1) (by omega)
    have hsn := snoc_of h0
    have hw : IntKind.i64.wrap (IN d.length - (1 : Int)) = IN (d.length - 1) := w64m _ _ 1 (by omega) (by omega)
    have hq := cB_length d
    have hgt : 0 < d.length := by omega
    obtain ⟨m, hm⟩ : ∃ m, m = d.length - 1 := ⟨_, rfl⟩
    rw [← hm] at hx hc hg hsn hw
    have hlt : m < d.length := by omega
    have hle : m ≤ d.length := by omega
    obtain ⟨r, hr⟩ : ∃ r, r = d.take m := ⟨_, rfl⟩
    have ht : List.take m (cB d) = cB r := by rw [hr, cB_take]
    have hrl : r.length = m := by rw [hr, List.length_take]; omega
    obtain ⟨x, hx0⟩ : ∃ x, x = d.getD m 0 := ⟨_, rfl⟩
    rw [← hx0] at hx hc hg hsn
    rw [← hr] at hsn
    by_cases h : NumA.blank x = true
    · have hu2 : rT r = R := by rw [← hu, hsn, rT_snoc, if_pos (show blk x = true from h)]
      rw [h] at hc
      sym =>
      simp [Zaa,Zab,Zad,Zae,Zaf,Zag,Zah,Zai,Zak,Zal,Zam,Zan,Zap,Zaq,Zav,Zaw,Zaz,Za0,Za1,Za2,Za3,Za4,Za5,Za9,Zba,Zbb,Zbf,Zbj,Zbt,Zb1,Zch,Zcn,Zdc,Zdd,Zde,Zdi,Zev,Zew,Zez,Ze0,Ze2,Ze5,Zfd,Zfe,Zfh,Zfn,Zfr,Zf3,Zgd,Zgg,Zgr,Zgu,Zg4,Zg6,Zhm,Zhn,Zho,Zhs,Zht,Zhu,Zh6,Zh7,Zjw,Zla,Zlb,Zle,Zlj,Zln,Zlz,Zmt,Zmv,Zmw,Zmx,Zmz,Zm2,Zm6,Zna,Znb,Zne,Znf,Zng,Znh,Zns,Znt,Znu,Znw,Znx,Zn5,Zrd,Zos,Zot,Zo3,Zo4,Zo7,Zo8,Zo9,Zpi,Zpl,Zqf,Zqg,Zqh,Zqm,eq_self,true_and,and_true,Nat.mul_one,Nat.sub_zero,hgt,hw,hlt,hle,hg,callable_38]
      tactic =>
      refine ⟨by omega, by omega, ?_⟩
      refine cl none (hc) trivial ?_
      sym =>
      simp [Zaa,Zab,Zad,Zae,Zaf,Zag,Zah,Zai,Zak,Zal,Zam,Zan,Zap,Zaq,Zav,Zaw,Zaz,Za0,Za1,Za2,Za3,Za4,Za5,Za9,Zba,Zbb,Zbf,Zbj,Zbt,Zb1,Zch,Zcn,Zdc,Zdd,Zde,Zdi,Zev,Zew,Zez,Ze0,Ze2,Ze5,Zfd,Zfe,Zfh,Zfn,Zfr,Zf3,Zgd,Zgg,Zgr,Zgu,Zg4,Zg6,Zhm,Zhn,Zho,Zhs,Zht,Zhu,Zh6,Zh7,Zjw,Zla,Zlb,Zle,Zlj,Zln,Zlz,Zmt,Zmv,Zmw,Zmx,Zmz,Zm2,Zm6,Zna,Znb,Zne,Znf,Zng,Znh,Zns,Znt,Znu,Znw,Znx,Zn5,Zrd,Zos,Zot,Zo3,Zo4,Zo7,Zo8,Zo9,Zpi,Zpl,Zqf,Zqg,Zqh,Zqm,eq_self,true_and,and_true,Nat.mul_one,Nat.sub_zero,hw,hle,ht]
      tactic =>
      unfold NextL; refine ⟨m, [], _, by omega, ⟨r, hrl, by rw [hr]; exact byt8_take hdb _, by omega, hu2, rfl⟩, wkA ?_⟩
      sym =>
      simp [Zaa,Zab,Zad,Zae,Zaf,Zag,Zah,Zai,Zak,Zal,Zam,Zan,Zap,Zaq,Zav,Zaw,Zaz,Za0,Za1,Za2,Za3,Za4,Za5,Za9,Zba,Zbb,Zbf,Zbj,Zbt,Zb1,Zch,Zcn,Zdc,Zdd,Zde,Zdi,Zev,Zew,Zez,Ze0,Ze2,Ze5,Zfd,Zfe,Zfh,Zfn,Zfr,Zf3,Zgd,Zgg,Zgr,Zgu,Zg4,Zg6,Zhm,Zhn,Zho,Zhs,Zht,Zhu,Zh6,Zh7,Zjw,Zla,Zlb,Zle,Zlj,Zln,Zlz,Zmt,Zmv,Zmw,Zmx,Zmz,Zm2,Zm6,Zna,Znb,Zne,Znf,Zng,Znh,Zns,Znt,Znu,Znw,Znx,Zn5,Zrd,Zos,Zot,Zo3,Zo4,Zo7,Zo8,Zo9,Zpi,Zpl,Zqf,Zqg,Zqh,Zqm,eq_self,true_and,and_true,Nat.mul_one,Nat.sub_zero]
      tactic =>
      exact hrl.symm
    · have h' : NumA.blank x = false := by cases hh : NumA.blank x; rfl; exact absurd hh h
      have hu2 : d = R := by
        have h1 : rT (r ++ [x]) = r ++ [x] := by rw [rT_snoc, if_neg (show ¬ blk x = true from h)]
        rw [← hsn] at h1
        rw [← hu, h1]
      rw [h'] at hc
      sym =>
      simp [Zaa,Zab,Zad,Zae,Zaf,Zag,Zah,Zai,Zak,Zal,Zam,Zan,Zap,Zaq,Zav,Zaw,Zaz,Za0,Za1,Za2,Za3,Za4,Za5,Za9,Zba,Zbb,Zbf,Zbj,Zbt,Zb1,Zch,Zcn,Zdc,Zdd,Zde,Zdi,Zev,Zew,Zez,Ze0,Ze2,Ze5,Zfd,Zfe,Zfh,Zfn,Zfr,Zf3,Zgd,Zgg,Zgr,Zgu,Zg4,Zg6,Zhm,Zhn,Zho,Zhs,Zht,Zhu,Zh6,Zh7,Zjw,Zla,Zlb,Zle,Zlj,Zln,Zlz,Zmt,Zmv,Zmw,Zmx,Zmz,Zm2,Zm6,Zna,Znb,Zne,Znf,Zng,Znh,Zns,Znt,Znu,Znw,Znx,Zn5,Zrd,Zos,Zot,Zo3,Zo4,Zo7,Zo8,Zo9,Zpi,Zpl,Zqf,Zqg,Zqh,Zqm,eq_self,true_and,and_true,Nat.mul_one,Nat.sub_zero,hgt,hw,hlt,hle,hg,callable_38]
      tactic =>
      refine ⟨by omega, by omega, ?_⟩
      refine cl none (hc) trivial ?_
      sym =>
      simp [Zaa,Zab,Zad,Zae,Zaf,Zag,Zah,Zai,Zak,Zal,Zam,Zan,Zap,Zaq,Zav,Zaw,Zaz,Za0,Za1,Za2,Za3,Za4,Za5,Za9,Zba,Zbb,Zbf,Zbj,Zbt,Zb1,Zch,Zcn,Zdc,Zdd,Zde,Zdi,Zev,Zew,Zez,Ze0,Ze2,Ze5,Zfd,Zfe,Zfh,Zfn,Zfr,Zf3,Zgd,Zgg,Zgr,Zgu,Zg4,Zg6,Zhm,Zhn,Zho,Zhs,Zht,Zhu,Zh6,Zh7,Zjw,Zla,Zlb,Zle,Zlj,Zln,Zlz,Zmt,Zmv,Zmw,Zmx,Zmz,Zm2,Zm6,Zna,Znb,Zne,Znf,Zng,Znh,Zns,Znt,Znu,Znw,Znx,Zn5,Zrd,Zos,Zot,Zo3,Zo4,Zo7,Zo8,Zo9,Zpi,Zpl,Zqf,Zqg,Zqh,Zqm,eq_self,true_and,and_true,Nat.mul_one,Nat.sub_zero]
      tactic =>
      refine endA ?_
      rw [hu2]
      sym =>
      simp [Zaa,Zab,Zad,Zae,Zaf,Zag,Zah,Zai,Zak,Zal,Zam,Zan,Zap,Zaq,Zav,Zaw,Zaz,Za0,Za1,Za2,Za3,Za4,Za5,Za9,Zba,Zbb,Zbf,Zbj,Zbt,Zb1,Zch,Zcn,Zdc,Zdd,Zde,Zdi,Zev,Zew,Zez,Ze0,Ze2,Ze5,Zfd,Zfe,Zfh,Zfn,Zfr,Zf3,Zgd,Zgg,Zgr,Zgu,Zg4,Zg6,Zhm,Zhn,Zho,Zhs,Zht,Zhu,Zh6,Zh7,Zjw,Zla,Zlb,Zle,Zlj,Zln,Zlz,Zmt,Zmv,Zmw,Zmx,Zmz,Zm2,Zm6,Zna,Znb,Zne,Znf,Zng,Znh,Zns,Znt,Znu,Znw,Znx,Zn5,Zrd,Zos,Zot,Zo3,Zo4,Zo7,Zo8,Zo9,Zpi,Zpl,Zqf,Zqg,Zqh,Zqm,eq_self,true_and,and_true,Nat.mul_one,Nat.sub_zero]
theorem bl_mem {x : AV} (hx : x ∈ bl) : x = Bo false ∨ x = Bo true := by
  unfold bl at hx
  rcases List.mem_or_eq_of_mem_set hx with hx | rfl
  · rcases List.mem_or_eq_of_mem_set hx with hx | rfl
    · exact .inl (List.eq_of_mem_replicate hx)
    · exact .inr rfl
  · exact .inr rfl
theorem bl_okI : okI bl := by
  intro x hx
  rcases bl_mem hx with rfl | rfl <;> rfl
theorem bl_okF : okF bl := by
  intro x hx
  rcases bl_mem hx with rfl | rfl <;> rfl
/-- Bytes trimmed on both sides. -/
def trimB (b : List Int) : List Int := lT (rT b)
theorem rT_le (b : List Int) : (rT b).length ≤ b.length := by
  unfold rT
  rw [List.length_reverse]
  have := (List.dropWhile_sublist (p := blk) (l := b.reverse)).length_le
  rw [List.length_reverse] at this
  exact this
theorem rT_byt {b : List Int} (h : byt8 b) : byt8 (rT b) := by
  intro x hx
  unfold rT at hx
  rw [List.mem_reverse] at hx
  have := (List.dropWhile_sublist (p := blk) (l := b.reverse)).subset hx
  exact h x (List.mem_reverse.1 this)
theorem trim_con (b : List Int) (hb : byt8 b) (hl : b.length ≤ 1000) (S : ByteArray) (hS : S = ⟨#[32, 0]⟩) : Con Tryd.prog 27 [] [fB b, .sc (.string S)] [] (fB (trimB b)) := by
  by_cases h0 : b.length = 0
  · obtain rfl := List.length_eq_zero_iff.1 h0
    refine con_j b27 rfl ?_
    sym =>
    simp [Zaa,Zab,Zad,Zae,Zaf,Zak,Zal,Zam,Zao,Zay,Zaz,Za0,Za1,Za2,Za3,Za4,Za5,Za6,Za7,Za8,Za9,Zba,Zbb,Zbd,Zbf,Zb7,Zcl,Zcn,Zcv,Zc3,Zdc,Zdd,Zde,Zdi,Zev,Zew,Zex,Zez,Ze0,Ze1,Ze2,Ze3,Ze5,Zfc,Zfd,Zfe,Zfh,Zfi,Zfk,Zfn,Zfz,Zf8,Zhb,Zhc,Zh4,Zh5,Zh6,Zh7,Zin,Ziu,Ziv,Ziw,Zi6,Zjv,Zkb,Zky,Zkz,Zk0,Zk1,Zk2,Zla,Zlb,Zle,Zlj,Zll,Zlu,Zly,Zlz,Zl2,Zl3,Zl4,Zmt,Zmv,Zmw,Zmx,Zmz,Zm2,Zm9,Zna,Znb,Znc,Zne,Znf,Zng,Zny,Zn5,Zos,Zot,Zo7,Zo8,Zo9,Zpi,Zpx,List.length_replicate,eq_self,true_and,and_true]
    tactic =>
    refine endA ?_
    sym =>
    simp [Zaa,Zab,Zad,Zae,Zaf,Zak,Zal,Zam,Zao,Zay,Zaz,Za0,Za1,Za2,Za3,Za4,Za5,Za6,Za7,Za8,Za9,Zba,Zbb,Zbd,Zbf,Zb7,Zcl,Zcn,Zcv,Zc3,Zdc,Zdd,Zde,Zdi,Zev,Zew,Zex,Zez,Ze0,Ze1,Ze2,Ze3,Ze5,Zfc,Zfd,Zfe,Zfh,Zfi,Zfk,Zfn,Zfz,Zf8,Zhb,Zhc,Zh4,Zh5,Zh6,Zh7,Zin,Ziu,Ziv,Ziw,Zi6,Zjv,Zkb,Zky,Zkz,Zk0,Zk1,Zk2,Zla,Zlb,Zle,Zlj,Zll,Zlu,Zly,Zlz,Zl2,Zl3,Zl4,Zmt,Zmv,Zmw,Zmx,Zmz,Zm2,Zm9,Zna,Znb,Znc,Zne,Znf,Zng,Zny,Zn5,Zos,Zot,Zo7,Zo8,Zo9,Zpi,Zpx,List.length_replicate,eq_self,true_and,and_true]
    tactic =>
    exact ⟨rfl, rfl⟩
  have hs2 : S.size = 2 := by rw [hS]; rfl
  have hset := set_con S hS
  have hrt := trimRA_con b hb hl
  have hlt := trimLA_con (rT b) (rT_byt hb) (Nat.le_trans (rT_le b) hl)
  have hne : (S.toList == (⟨#[]⟩ : ByteArray).toList) = false := by rw [hS, ByteArray.toList_eq, ByteArray.toList_eq]; rfl
  have hsz : ¬ IN S.size = (1 : Int) := by simp only [IN]; omega
  have hbl := bl_len
  have hsp : spl (List.replicate 256 (Bo false)) 0 bl = bl := spl_new bl _ (by rw [bl_len, List.length_replicate])
  have hrl : (List.replicate 256 (Bo false)).length = 256 := List.length_replicate
  obtain ⟨r, hr⟩ : ∃ r, r = rT b := ⟨_, rfl⟩
  rw [← hr] at hrt hlt
  have ht : trimB b = lT r := by rw [hr]; rfl
  rw [ht]
  have hfl : flL bl = true := by kernel_rfl
  refine con_j b27 rfl ?_
  sym =>
  simp [Zaa,Zab,Zad,Zae,Zaf,Zak,Zal,Zam,Zao,Zay,Zaz,Za0,Za1,Za2,Za3,Za4,Za5,Za6,Za7,Za8,Za9,Zba,Zbb,Zbd,Zbf,Zb7,Zcl,Zcn,Zcv,Zc3,Zdc,Zdd,Zde,Zdi,Zev,Zew,Zex,Zez,Ze0,Ze1,Ze2,Ze3,Ze5,Zfc,Zfd,Zfe,Zfh,Zfi,Zfk,Zfn,Zfz,Zf8,Zhb,Zhc,Zh4,Zh5,Zh6,Zh7,Zin,Ziu,Ziv,Ziw,Zi6,Zjv,Zkb,Zky,Zkz,Zk0,Zk1,Zk2,Zla,Zlb,Zle,Zlj,Zll,Zlu,Zly,Zlz,Zl2,Zl3,Zl4,Zmt,Zmv,Zmw,Zmx,Zmz,Zm2,Zm9,Zna,Znb,Znc,Zne,Znf,Zng,Zny,Zn5,Zos,Zot,Zo7,Zo8,Zo9,Zpi,Zpx,List.length_replicate,eq_self,true_and,and_true,h0,hne,hsz,callable_32]
  tactic =>
  refine cl none (hset) trivial ?_
  sym =>
  simp [Zaa,Zab,Zad,Zae,Zaf,Zak,Zal,Zam,Zao,Zay,Zaz,Za0,Za1,Za2,Za3,Za4,Za5,Za6,Za7,Za8,Za9,Zba,Zbb,Zbd,Zbf,Zb7,Zcl,Zcn,Zcv,Zc3,Zdc,Zdd,Zde,Zdi,Zev,Zew,Zex,Zez,Ze0,Ze1,Ze2,Ze3,Ze5,Zfc,Zfd,Zfe,Zfh,Zfi,Zfk,Zfn,Zfz,Zf8,Zhb,Zhc,Zh4,Zh5,Zh6,Zh7,Zin,Ziu,Ziv,Ziw,Zi6,Zjv,Zkb,Zky,Zkz,Zk0,Zk1,Zk2,Zla,Zlb,Zle,Zlj,Zll,Zlu,Zly,Zlz,Zl2,Zl3,Zl4,Zmt,Zmv,Zmw,Zmx,Zmz,Zm2,Zm9,Zna,Znb,Znc,Zne,Znf,Zng,Zny,Zn5,Zos,Zot,Zo7,Zo8,Zo9,Zpi,Zpx,List.length_replicate,eq_self,true_and,and_true,hfl,hbl,hsp,hrl,callable_36]
  tactic =>
  refine ⟨okF_cells bl_okF _, bl_okI, ?_⟩
  refine cl none (hrt) trivial ?_
  sym =>
  simp [Zaa,Zab,Zad,Zae,Zaf,Zak,Zal,Zam,Zao,Zay,Zaz,Za0,Za1,Za2,Za3,Za4,Za5,Za6,Za7,Za8,Za9,Zba,Zbb,Zbd,Zbf,Zb7,Zcl,Zcn,Zcv,Zc3,Zdc,Zdd,Zde,Zdi,Zev,Zew,Zex,Zez,Ze0,Ze1,Ze2,Ze3,Ze5,Zfc,Zfd,Zfe,Zfh,Zfi,Zfk,Zfn,Zfz,Zf8,Zhb,Zhc,Zh4,Zh5,Zh6,Zh7,Zin,Ziu,Ziv,Ziw,Zi6,Zjv,Zkb,Zky,Zkz,Zk0,Zk1,Zk2,Zla,Zlb,Zle,Zlj,Zll,Zlu,Zly,Zlz,Zl2,Zl3,Zl4,Zmt,Zmv,Zmw,Zmx,Zmz,Zm2,Zm9,Zna,Znb,Znc,Zne,Znf,Zng,Zny,Zn5,Zos,Zot,Zo7,Zo8,Zo9,Zpi,Zpx,List.length_replicate,eq_self,true_and,and_true,hbl,callable_33]
  tactic =>
  refine ⟨bl_okI, ?_⟩
  refine cl none (hlt) trivial ?_
  sym =>
  simp [Zaa,Zab,Zad,Zae,Zaf,Zak,Zal,Zam,Zao,Zay,Zaz,Za0,Za1,Za2,Za3,Za4,Za5,Za6,Za7,Za8,Za9,Zba,Zbb,Zbd,Zbf,Zb7,Zcl,Zcn,Zcv,Zc3,Zdc,Zdd,Zde,Zdi,Zev,Zew,Zex,Zez,Ze0,Ze1,Ze2,Ze3,Ze5,Zfc,Zfd,Zfe,Zfh,Zfi,Zfk,Zfn,Zfz,Zf8,Zhb,Zhc,Zh4,Zh5,Zh6,Zh7,Zin,Ziu,Ziv,Ziw,Zi6,Zjv,Zkb,Zky,Zkz,Zk0,Zk1,Zk2,Zla,Zlb,Zle,Zlj,Zll,Zlu,Zly,Zlz,Zl2,Zl3,Zl4,Zmt,Zmv,Zmw,Zmx,Zmz,Zm2,Zm9,Zna,Znb,Znc,Zne,Znf,Zng,Zny,Zn5,Zos,Zot,Zo7,Zo8,Zo9,Zpi,Zpx,List.length_replicate,eq_self,true_and,and_true]
  tactic =>
  refine endA ?_
  sym =>
  simp [Zaa,Zab,Zad,Zae,Zaf,Zak,Zal,Zam,Zao,Zay,Zaz,Za0,Za1,Za2,Za3,Za4,Za5,Za6,Za7,Za8,Za9,Zba,Zbb,Zbd,Zbf,Zb7,Zcl,Zcn,Zcv,Zc3,Zdc,Zdd,Zde,Zdi,Zev,Zew,Zex,Zez,Ze0,Ze1,Ze2,Ze3,Ze5,Zfc,Zfd,Zfe,Zfh,Zfi,Zfk,Zfn,Zfz,Zf8,Zhb,Zhc,Zh4,Zh5,Zh6,Zh7,Zin,Ziu,Ziv,Ziw,Zi6,Zjv,Zkb,Zky,Zkz,Zk0,Zk1,Zk2,Zla,Zlb,Zle,Zlj,Zll,Zlu,Zly,Zlz,Zl2,Zl3,Zl4,Zmt,Zmv,Zmw,Zmx,Zmz,Zm2,Zm9,Zna,Znb,Znc,Zne,Znf,Zng,Zny,Zn5,Zos,Zot,Zo7,Zo8,Zo9,Zpi,Zpx,List.length_replicate,eq_self,true_and,and_true]
theorem trimL_con (b : List Int) (hl : b.length ≤ 1000) (S : ByteArray) (hS : S = ⟨#[32]⟩) : Con Tryd.prog 25 [] [fB b, .sc (.string S)] [] (fB (b.dropWhile (· == 32))) := by
  by_cases h0 : b.length = 0
  · obtain rfl := List.length_eq_zero_iff.1 h0
    refine con_j b25 rfl ?_
    sym =>
    simp [Zaa,Zab,Zad,Zae,Zaf,Zak,Zal,Zam,Zao,Zay,Zaz,Za0,Za1,Za2,Za3,Za4,Za5,Za6,Za7,Za9,Zba,Zbb,Zbd,Zbf,Zb5,Zcl,Zcn,Zdc,Zdd,Zde,Zdi,Zev,Zew,Zex,Zez,Ze0,Ze2,Ze5,Zfd,Zfe,Zfh,Zfi,Zfl,Zfn,Zfz,Zf1,Zf8,Zg9,Zha,Zho,Zh4,Zh5,Zh6,Zh7,Zkb,Zla,Zlb,Zle,Zlj,Zll,Zlz,Zl2,Zmt,Zmv,Zmw,Zmx,Zmz,Zm2,Zna,Znb,Zne,Znf,Zng,Zny,Zn5,Zos,Zot,Zo7,Zo8,Zo9,Zpi,Zpx,eq_self,true_and,and_true]
    tactic =>
    refine endA ?_
    sym =>
    simp [Zaa,Zab,Zad,Zae,Zaf,Zak,Zal,Zam,Zao,Zay,Zaz,Za0,Za1,Za2,Za3,Za4,Za5,Za6,Za7,Za9,Zba,Zbb,Zbd,Zbf,Zb5,Zcl,Zcn,Zdc,Zdd,Zde,Zdi,Zev,Zew,Zex,Zez,Ze0,Ze2,Ze5,Zfd,Zfe,Zfh,Zfi,Zfl,Zfn,Zfz,Zf1,Zf8,Zg9,Zha,Zho,Zh4,Zh5,Zh6,Zh7,Zkb,Zla,Zlb,Zle,Zlj,Zll,Zlz,Zl2,Zmt,Zmv,Zmw,Zmx,Zmz,Zm2,Zna,Znb,Zne,Znf,Zng,Zny,Zn5,Zos,Zot,Zo7,Zo8,Zo9,Zpi,Zpx,eq_self,true_and,and_true]
    tactic =>
    exact ⟨rfl, rfl⟩
  have hs2 : S.size = 1 := by rw [hS]; rfl
  have hne : (S.toList == (⟨#[]⟩ : ByteArray).toList) = false := by rw [hS, ByteArray.toList_eq, ByteArray.toList_eq]; rfl
  have hsz : IN S.size = (1 : Int) := by simp only [IN]; omega
  have hat : sAt S 0 = 32 := by rw [hS]; rfl
  have hp : 0 < S.size := by omega
  have hpI : (0 : Int) < 1 := by decide
  have hc := trimLB_con b 32 hl
  refine con_j b25 rfl ?_
  sym =>
  simp [Zaa,Zab,Zad,Zae,Zaf,Zak,Zal,Zam,Zao,Zay,Zaz,Za0,Za1,Za2,Za3,Za4,Za5,Za6,Za7,Za9,Zba,Zbb,Zbd,Zbf,Zb5,Zcl,Zcn,Zdc,Zdd,Zde,Zdi,Zev,Zew,Zex,Zez,Ze0,Ze2,Ze5,Zfd,Zfe,Zfh,Zfi,Zfl,Zfn,Zfz,Zf1,Zf8,Zg9,Zha,Zho,Zh4,Zh5,Zh6,Zh7,Zkb,Zla,Zlb,Zle,Zlj,Zll,Zlz,Zl2,Zmt,Zmv,Zmw,Zmx,Zmz,Zm2,Zna,Znb,Zne,Znf,Zng,Zny,Zn5,Zos,Zot,Zo7,Zo8,Zo9,Zpi,Zpx,eq_self,true_and,and_true,h0,hne,hsz,hat,hp,hpI,callable_31]
  tactic =>
  refine cl none (hc) trivial ?_
  sym =>
  simp [Zaa,Zab,Zad,Zae,Zaf,Zak,Zal,Zam,Zao,Zay,Zaz,Za0,Za1,Za2,Za3,Za4,Za5,Za6,Za7,Za9,Zba,Zbb,Zbd,Zbf,Zb5,Zcl,Zcn,Zdc,Zdd,Zde,Zdi,Zev,Zew,Zex,Zez,Ze0,Ze2,Ze5,Zfd,Zfe,Zfh,Zfi,Zfl,Zfn,Zfz,Zf1,Zf8,Zg9,Zha,Zho,Zh4,Zh5,Zh6,Zh7,Zkb,Zla,Zlb,Zle,Zlj,Zll,Zlz,Zl2,Zmt,Zmv,Zmw,Zmx,Zmz,Zm2,Zna,Znb,Zne,Znf,Zng,Zny,Zn5,Zos,Zot,Zo7,Zo8,Zo9,Zpi,Zpx,eq_self,true_and,and_true]
  tactic =>
  refine endA ?_
  sym =>
  simp [Zaa,Zab,Zad,Zae,Zaf,Zak,Zal,Zam,Zao,Zay,Zaz,Za0,Za1,Za2,Za3,Za4,Za5,Za6,Za7,Za9,Zba,Zbb,Zbd,Zbf,Zb5,Zcl,Zcn,Zdc,Zdd,Zde,Zdi,Zev,Zew,Zex,Zez,Ze0,Ze2,Ze5,Zfd,Zfe,Zfh,Zfi,Zfl,Zfn,Zfz,Zf1,Zf8,Zg9,Zha,Zho,Zh4,Zh5,Zh6,Zh7,Zkb,Zla,Zlb,Zle,Zlj,Zll,Zlz,Zl2,Zmt,Zmv,Zmw,Zmx,Zmz,Zm2,Zna,Znb,Zne,Znf,Zng,Zny,Zn5,Zos,Zot,Zo7,Zo8,Zo9,Zpi,Zpx,eq_self,true_and,and_true]
def i26 (b : List Int) (k : Nat) (s : St) : Prop := ∃ i : Nat, i + k = b.length ∧ b.take i ++ digF (b.drop i) = digF b ∧ s = ⟨[(0, fB b), (3, I (IN i))], [], 0⟩
theorem digits_con (b : List Int) (hl : b.length ≤ 1000) : Con Tryd.prog 26 [] [fB b] [] (fB (digF b)) := by
  refine con_j b26 rfl ?_
  sym =>
  simp [Zaa,Zab,Zad,Zae,Zaf,Zag,Zah,Zai,Zak,Zal,Zam,Zan,Zap,Zaq,Zav,Zaw,Zay,Zaz,Za0,Za1,Za2,Za3,Za4,Za5,Za6,Za7,Za8,Za9,Zba,Zbb,Zbd,Zbf,Zbt,Zb1,Zch,Zcn,Zev,Zew,Zex,Zez,Ze0,Ze2,Ze5,Zfd,Zfe,Zfh,Zfi,Zfk,Zfl,Zfn,Zfq,Zf1,Zf2,Zf4,Zgr,Zgu,Zg4,Zg6,Zhm,Zhn,Zho,Zhs,Zht,Zhu,Zh6,Zh7,Zmt,Zmv,Zmw,Zmx,Zmz,Zm2,Zm6,Zna,Znb,Znh,Zns,Znt,Znu,Znw,Zn5,Zrd,Zos,Zot,Zo7,Zo8,Zo9,Zpc,Zpi,Zqf,Zqg,Zqh,Zqm,List.append_assoc,eq_self,true_and,and_true,Nat.mul_one,Nat.sub_zero,Bool.false_and]
  tactic =>
  refine lpA (i26 b) b.length [] _ ⟨0, by omega, rfl, rfl⟩ (wkA ?_) ?_
  · sym =>
    simp [Zaa,Zab,Zad,Zae,Zaf,Zag,Zah,Zai,Zak,Zal,Zam,Zan,Zap,Zaq,Zav,Zaw,Zay,Zaz,Za0,Za1,Za2,Za3,Za4,Za5,Za6,Za7,Za8,Za9,Zba,Zbb,Zbd,Zbf,Zbt,Zb1,Zch,Zcn,Zev,Zew,Zex,Zez,Ze0,Ze2,Ze5,Zfd,Zfe,Zfh,Zfi,Zfk,Zfl,Zfn,Zfq,Zf1,Zf2,Zf4,Zgr,Zgu,Zg4,Zg6,Zhm,Zhn,Zho,Zhs,Zht,Zhu,Zh6,Zh7,Zmt,Zmv,Zmw,Zmx,Zmz,Zm2,Zm6,Zna,Znb,Znh,Zns,Znt,Znu,Znw,Zn5,Zrd,Zos,Zot,Zo7,Zo8,Zo9,Zpc,Zpi,Zqf,Zqg,Zqh,Zqm,List.append_assoc,eq_self,true_and,and_true,Nat.mul_one,Nat.sub_zero,Bool.false_and]
  rintro k s ⟨i, hi, hu, rfl⟩
  by_cases h : i < b.length
  · have hw := w64s i (by omega)
    have hg := cB_get b i h
    have hds := drop_stepD b i h
    have hq := cB_length b
    have hle : i ≤ b.length := by omega
    have ht : List.take i (cB b) = cB (b.take i) := (cB_take _ _).symm
    have htl : (b.take i).length = i := by rw [List.length_take]; omega
    obtain ⟨x, hx⟩ : ∃ x, x = b.getD i 0 := ⟨_, rfl⟩
    rw [← hx] at hg hds
    have hst := take_stepD b i h
    rw [← hx] at hst
    rw [hds] at hu
    by_cases h1 : 48 ≤ x
    · have h1' : x ≥ 48 := h1
      by_cases h2 : x ≤ 55
      · have ho : octd x = true := by unfold octd; rw [decide_eq_true h1, decide_eq_true h2]; rfl
        have hu2 : b.take (i + 1) ++ digF (b.drop (i + 1)) = digF b := by
          rw [← hu, hst, List.append_assoc]
          congr 1
          exact (List.takeWhile_cons_of_pos (p := octd) ho).symm
        sym =>
        simp [Zaa,Zab,Zad,Zae,Zaf,Zag,Zah,Zai,Zak,Zal,Zam,Zan,Zap,Zaq,Zav,Zaw,Zay,Zaz,Za0,Za1,Za2,Za3,Za4,Za5,Za6,Za7,Za8,Za9,Zba,Zbb,Zbd,Zbf,Zbt,Zb1,Zch,Zcn,Zev,Zew,Zex,Zez,Ze0,Ze2,Ze5,Zfd,Zfe,Zfh,Zfi,Zfk,Zfl,Zfn,Zfq,Zf1,Zf2,Zf4,Zgr,Zgu,Zg4,Zg6,Zhm,Zhn,Zho,Zhs,Zht,Zhu,Zh6,Zh7,Zmt,Zmv,Zmw,Zmx,Zmz,Zm2,Zm6,Zna,Znb,Znh,Zns,Znt,Znu,Znw,Zn5,Zrd,Zos,Zot,Zo7,Zo8,Zo9,Zpc,Zpi,Zqf,Zqg,Zqh,Zqm,List.append_assoc,eq_self,true_and,and_true,Nat.mul_one,Nat.sub_zero,Bool.false_and,h,hw,hg,h1',h2]
        tactic =>
        refine ⟨by omega, by omega, by omega, by omega, ?_⟩
        unfold NextL; refine ⟨(k - 1), [], _, by omega, ⟨i + 1, by omega, hu2, rfl⟩, wkA ?_⟩
        sym =>
        simp [Zaa,Zab,Zad,Zae,Zaf,Zag,Zah,Zai,Zak,Zal,Zam,Zan,Zap,Zaq,Zav,Zaw,Zay,Zaz,Za0,Za1,Za2,Za3,Za4,Za5,Za6,Za7,Za8,Za9,Zba,Zbb,Zbd,Zbf,Zbt,Zb1,Zch,Zcn,Zev,Zew,Zex,Zez,Ze0,Ze2,Ze5,Zfd,Zfe,Zfh,Zfi,Zfk,Zfl,Zfn,Zfq,Zf1,Zf2,Zf4,Zgr,Zgu,Zg4,Zg6,Zhm,Zhn,Zho,Zhs,Zht,Zhu,Zh6,Zh7,Zmt,Zmv,Zmw,Zmx,Zmz,Zm2,Zm6,Zna,Znb,Znh,Zns,Znt,Znu,Znw,Zn5,Zrd,Zos,Zot,Zo7,Zo8,Zo9,Zpc,Zpi,Zqf,Zqg,Zqh,Zqm,List.append_assoc,eq_self,true_and,and_true,Nat.mul_one,Nat.sub_zero,Bool.false_and]
      · have ho : ¬ octd x = true := by unfold octd; rw [decide_eq_true h1, decide_eq_false h2]; decide
        have hu2 : b.take i = digF b := by
          rw [← hu]
          have : digF (x :: b.drop (i + 1)) = [] := List.takeWhile_cons_of_neg (p := octd) ho
          rw [this, List.append_nil]
        sym =>
        simp [Zaa,Zab,Zad,Zae,Zaf,Zag,Zah,Zai,Zak,Zal,Zam,Zan,Zap,Zaq,Zav,Zaw,Zay,Zaz,Za0,Za1,Za2,Za3,Za4,Za5,Za6,Za7,Za8,Za9,Zba,Zbb,Zbd,Zbf,Zbt,Zb1,Zch,Zcn,Zev,Zew,Zex,Zez,Ze0,Ze2,Ze5,Zfd,Zfe,Zfh,Zfi,Zfk,Zfl,Zfn,Zfq,Zf1,Zf2,Zf4,Zgr,Zgu,Zg4,Zg6,Zhm,Zhn,Zho,Zhs,Zht,Zhu,Zh6,Zh7,Zmt,Zmv,Zmw,Zmx,Zmz,Zm2,Zm6,Zna,Znb,Znh,Zns,Znt,Znu,Znw,Zn5,Zrd,Zos,Zot,Zo7,Zo8,Zo9,Zpc,Zpi,Zqf,Zqg,Zqh,Zqm,List.append_assoc,eq_self,true_and,and_true,Nat.mul_one,Nat.sub_zero,Bool.false_and,h,hw,hg,h1',h2,hle,ht]
        tactic =>
        refine ⟨by omega, by omega, by omega, by omega, endA ?_⟩
        rw [← hu2]
        sym =>
        simp [Zaa,Zab,Zad,Zae,Zaf,Zag,Zah,Zai,Zak,Zal,Zam,Zan,Zap,Zaq,Zav,Zaw,Zay,Zaz,Za0,Za1,Za2,Za3,Za4,Za5,Za6,Za7,Za8,Za9,Zba,Zbb,Zbd,Zbf,Zbt,Zb1,Zch,Zcn,Zev,Zew,Zex,Zez,Ze0,Ze2,Ze5,Zfd,Zfe,Zfh,Zfi,Zfk,Zfl,Zfn,Zfq,Zf1,Zf2,Zf4,Zgr,Zgu,Zg4,Zg6,Zhm,Zhn,Zho,Zhs,Zht,Zhu,Zh6,Zh7,Zmt,Zmv,Zmw,Zmx,Zmz,Zm2,Zm6,Zna,Znb,Znh,Zns,Znt,Znu,Znw,Zn5,Zrd,Zos,Zot,Zo7,Zo8,Zo9,Zpc,Zpi,Zqf,Zqg,Zqh,Zqm,List.append_assoc,eq_self,true_and,and_true,Nat.mul_one,Nat.sub_zero,Bool.false_and]
        tactic =>
        exact htl.symm
    · have h1' : ¬ x ≥ 48 := h1
      have ho : ¬ octd x = true := by unfold octd; rw [decide_eq_false h1]; simp only [Bool.false_and]; decide
      have hu2 : b.take i = digF b := by
        rw [← hu]
        have : digF (x :: b.drop (i + 1)) = [] := List.takeWhile_cons_of_neg (p := octd) ho
        rw [this, List.append_nil]
      sym =>
      simp [Zaa,Zab,Zad,Zae,Zaf,Zag,Zah,Zai,Zak,Zal,Zam,Zan,Zap,Zaq,Zav,Zaw,Zay,Zaz,Za0,Za1,Za2,Za3,Za4,Za5,Za6,Za7,Za8,Za9,Zba,Zbb,Zbd,Zbf,Zbt,Zb1,Zch,Zcn,Zev,Zew,Zex,Zez,Ze0,Ze2,Ze5,Zfd,Zfe,Zfh,Zfi,Zfk,Zfl,Zfn,Zfq,Zf1,Zf2,Zf4,Zgr,Zgu,Zg4,Zg6,Zhm,Zhn,Zho,Zhs,Zht,Zhu,Zh6,Zh7,Zmt,Zmv,Zmw,Zmx,Zmz,Zm2,Zm6,Zna,Znb,Znh,Zns,Znt,Znu,Znw,Zn5,Zrd,Zos,Zot,Zo7,Zo8,Zo9,Zpc,Zpi,Zqf,Zqg,Zqh,Zqm,List.append_assoc,eq_self,true_and,and_true,Nat.mul_one,Nat.sub_zero,Bool.false_and,h,hw,hg,h1',hle,ht]
      tactic =>
      refine ⟨by omega, by omega, endA ?_⟩
      rw [← hu2]
      sym =>
      simp [Zaa,Zab,Zad,Zae,Zaf,Zag,Zah,Zai,Zak,Zal,Zam,Zan,Zap,Zaq,Zav,Zaw,Zay,Zaz,Za0,Za1,Za2,Za3,Za4,Za5,Za6,Za7,Za8,Za9,Zba,Zbb,Zbd,Zbf,Zbt,Zb1,Zch,Zcn,Zev,Zew,Zex,Zez,Ze0,Ze2,Ze5,Zfd,Zfe,Zfh,Zfi,Zfk,Zfl,Zfn,Zfq,Zf1,Zf2,Zf4,Zgr,Zgu,Zg4,Zg6,Zhm,Zhn,Zho,Zhs,Zht,Zhu,Zh6,Zh7,Zmt,Zmv,Zmw,Zmx,Zmz,Zm2,Zm6,Zna,Znb,Znh,Zns,Znt,Znu,Znw,Zn5,Zrd,Zos,Zot,Zo7,Zo8,Zo9,Zpc,Zpi,Zqf,Zqg,Zqh,Zqm,List.append_assoc,eq_self,true_and,and_true,Nat.mul_one,Nat.sub_zero,Bool.false_and]
      tactic =>
      exact htl.symm
  · obtain rfl : i = b.length := by omega
    have hu2 : b = digF b := by
      rw [List.drop_of_length_le (Nat.le_refl _), List.take_of_length_le (Nat.le_refl _)] at hu
      rw [← hu]; exact (List.append_nil _).symm
    have hall := cB_all b
    have hq := cB_length b
    sym =>
    simp [Zaa,Zab,Zad,Zae,Zaf,Zag,Zah,Zai,Zak,Zal,Zam,Zan,Zap,Zaq,Zav,Zaw,Zay,Zaz,Za0,Za1,Za2,Za3,Za4,Za5,Za6,Za7,Za8,Za9,Zba,Zbb,Zbd,Zbf,Zbt,Zb1,Zch,Zcn,Zev,Zew,Zex,Zez,Ze0,Ze2,Ze5,Zfd,Zfe,Zfh,Zfi,Zfk,Zfl,Zfn,Zfq,Zf1,Zf2,Zf4,Zgr,Zgu,Zg4,Zg6,Zhm,Zhn,Zho,Zhs,Zht,Zhu,Zh6,Zh7,Zmt,Zmv,Zmw,Zmx,Zmz,Zm2,Zm6,Zna,Znb,Znh,Zns,Znt,Znu,Znw,Zn5,Zrd,Zos,Zot,Zo7,Zo8,Zo9,Zpc,Zpi,Zqf,Zqg,Zqh,Zqm,List.append_assoc,eq_self,true_and,and_true,Nat.mul_one,Nat.sub_zero,Bool.false_and,h,hall]
    tactic =>
    refine ⟨Nat.le_refl _, endA ?_⟩
    rw [← hu2]
    sym =>
    simp [Zaa,Zab,Zad,Zae,Zaf,Zag,Zah,Zai,Zak,Zal,Zam,Zan,Zap,Zaq,Zav,Zaw,Zay,Zaz,Za0,Za1,Za2,Za3,Za4,Za5,Za6,Za7,Za8,Za9,Zba,Zbb,Zbd,Zbf,Zbt,Zb1,Zch,Zcn,Zev,Zew,Zex,Zez,Ze0,Ze2,Ze5,Zfd,Zfe,Zfh,Zfi,Zfk,Zfl,Zfn,Zfq,Zf1,Zf2,Zf4,Zgr,Zgu,Zg4,Zg6,Zhm,Zhn,Zho,Zhs,Zht,Zhu,Zh6,Zh7,Zmt,Zmv,Zmw,Zmx,Zmz,Zm2,Zm6,Zna,Znb,Znh,Zns,Znt,Znu,Znw,Zn5,Zrd,Zos,Zot,Zo7,Zo8,Zo9,Zpc,Zpi,Zqf,Zqg,Zqh,Zqm,List.append_assoc,eq_self,true_and,and_true,Nat.mul_one,Nat.sub_zero,Bool.false_and]
end Go.Proofs.YthhccabdlajngaaDoor.NumE
