import Derived.Test.YtbmdahhhgpbchaaOpE
namespace Go.Proofs.Ytbmdahhhgpbchaa.OpF
open Go Go.Sim Go.Sim.E Go.RowKit Go.Proofs Go.Proofs.Ytbmdahhhgpbchaa.Cod Go.Proofs.Ytbmdahhhgpbchaa.Tab Go.Proofs.Ytbmdahhhgpbchaa.Bse Go.Proofs.Ytbmdahhhgpbchaa.SpnP Go.Proofs.Ytbmdahhhgpbchaa.SwA Go.Proofs.Ytbmdahhhgpbchaa.SwB Go.Proofs.Ytbmdahhhgpbchaa.SwC Go.Proofs.Ytbmdahhhgpbchaa.SwS Go.Proofs.Ytbmdahhhgpbchaa.SwD Go.Proofs.Ytbmdahhhgpbchaa.SwF Go.Proofs.Ytbmdahhhgpbchaa.SwG Go.Proofs.Ytbmdahhhgpbchaa.SwL Go.Proofs.Ytbmdahhhgpbchaa.ObA Go.Proofs.Ytbmdahhhgpbchaa.ObB Go.Proofs.Ytbmdahhhgpbchaa.ObC Go.Proofs.Ytbmdahhhgpbchaa.OeP Go.Proofs.Ytbmdahhhgpbchaa.OeQ Go.Proofs.Ytbmdahhhgpbchaa.OeA Go.Proofs.Ytbmdahhhgpbchaa.OpA Go.Proofs.Ytbmdahhhgpbchaa.OpB Go.Proofs.Ytbmdahhhgpbchaa.OpC Go.Proofs.Ytbmdahhhgpbchaa.OpD Go.Proofs.Ytbmdahhhgpbchaa.OpE
set_option linter.unusedVariables false
set_option linter.unusedSimpArgs false
set_option maxRecDepth 100000
set_option maxHeartbeats 4000000
theorem rnF_spec {t f : Int} {cm ou : List Int} {b : Int} : ∀ (k : Nat) (a : Int) (r : Int), rnF t f cm ou b k a = some r → a ≤ r ∧ r < t ∧ cmF f cm r = false ∧ r ∉ ou
  | 0, a, r, h => by cases h
  | k + 1, a, r, h => by
    rw [rnF] at h
    by_cases h1 : a < t ∧ a < b + 2048
    · rw [if_pos h1] at h
      by_cases h2 : cmF f cm a = false ∧ a ∉ ou
      · rw [if_pos h2] at h
        injection h with h
        subst h
        exact ⟨Int.le_refl _, h1.1, h2.1, h2.2⟩
      · rw [if_neg h2] at h
        have := rnF_spec k (a + 256) r h
        exact ⟨by omega, this.2⟩
    · rw [if_neg h1] at h; cases h
def rpF (t f : Int) (cm : List Int) (b : Int) : Nat → List Int → List Rg × List Int
  | 0, ou => ([], ou)
  | n + 1, ou => match rnF t f cm ou b 9 b with
    | none => ([], ou)
    | some a => ((a, min (a + 256) t) :: (rpF t f cm b n (ou ++ [a])).1, (rpF t f cm b n (ou ++ [a])).2)
theorem rpF_none {t f b : Int} {cm ou : List Int} (h : rnF t f cm ou b 9 b = none) (n : Nat) : rpF t f cm b n ou = ([], ou) := by
  cases n with
  | zero => rfl
  | succ n => simp only [rpF, h]
theorem rpF_some {t f b a : Int} {cm ou : List Int} (h : rnF t f cm ou b 9 b = some a) (n : Nat) :
    rpF t f cm b (n + 1) ou = ((a, min (a + 256) t) :: (rpF t f cm b n (ou ++ [a])).1, (rpF t f cm b n (ou ++ [a])).2) := by
  simp only [rpF, h]
def i40 (src : List Int) (t f : Int) (cm : List Int) (T : Tm) (b : Int) (R : List Rg × List Int) (k : Nat) (q : St) : Prop := ∃ (rs : List Rg) (ou : List Int), rs.length + k = 9 ∧ RI t f cm ou ∧ ou.length + k ≤ 900 ∧
  R = (rs ++ (rpF t f cm b k ou).1, (rpF t f cm b k ou).2) ∧
  q = ⟨[(1, .pt 0 0), (2, .pt 1 0), (4, .lv 2 0 rs.length), (5, I (IN rs.length))], [(0, ⟨[fB src, I t, I f, fJ cm, fJ ou, Bo T.1, I T.2.1, I T.2.2], 1, 0⟩), (1, ⟨[.nl, I 0, I 0, .nl, .nl, Bo false, I 0, I 0], 1, 0⟩), (2, ⟨cP src rs, 2, 0⟩)], 3⟩
theorem rpoll_con (src : List Int) (t f : Int) (cm ou : List Int) (T : Tm) (et : t = IN src.length) (h : RI t f cm ou) (hlo : ou.length ≤ 800) (b : Int) (hb : rbF t f cm t.toNat f = b) (hb0 : 0 ≤ b ∧ b ≤ t) :
    Con Try.prog 40 [] [rO src t f cm ou T] [] (.tu [rO src t f cm (rpF t f cm b 9 ou).2 T, fP src (rpF t f cm b 9 ou).1]) := by
  obtain ⟨R, hR⟩ : ∃ R, R = rpF t f cm b 9 ou := ⟨_, rfl⟩
  rw [← hR]
  have ht := h.ht
  refine con_j b40 rfl ?_
  sym =>
  simp [Zab,Zad,Zag,Zah,Zam,Zay,Zaz,Za0,Za1,Za2,Za3,Za4,Za5,Za9,Zba,Zbb,Zcv,Zcx,Zev,Zew,Zez,Ze0,Ze2,Ze3,Zfd,Zfe,Zfh,Zin,Zio,Zip,Zi6,Zna,Znb,Zos,Zot,Zo7,eq_self,true_and]
  tactic =>
  have z0 : (0 : Int) = IN 0 := rfl
  refine lpA (i40 src t f cm T b R) 9 [(0, 0), (1, 1)] _ ⟨[], ou, rfl, h, by omega, by rw [hR]; rfl, rfl⟩ (wkA ?_) ?_
  · sym =>
    simp [Za2,Za3,Zez,Zfb,Zfc,Zna,Znr,Zn5,Zpa,Zpc,Zpd,Zpg,Zpr,Zpu,Zqb,Zqc,Zqf,Zqg,Zqh,Zqi,Zqj,Zqk,Zql,Zqm,Zqn,eq_self,true_and,and_true]
    tactic =>
    and_intros <;> try (first | omega | rfl | assumption | exact cJ_okF _ | exact cJ_okI _ | exact cR_okI _ | exact cP_okI _ _ | simp only [IN]; omega)
  clear hR h
  rintro k q ⟨rs, ou, hk, hI, ho, hR, rfl⟩
  have hw := w64s rs.length (by omega)
  by_cases h1 : k = 0
  · subst h1
    have g : ¬ IN rs.length ≤ 8 := by simp only [IN]; omega
    have e1 : R = (rs, ou) := by rw [hR]; simp [rpF]
    rw [e1]
    sym =>
    simp [Zab,Zad,Zae,Zaf,Zai,Zak,Zam,Zan,Zaq,Zaw,Zaz,Za0,Za1,Za2,Za3,Za4,Za5,Za9,Zba,Zbb,Zbf,Zbt,Zc3,Zev,Zew,Zez,Ze0,Ze1,Ze2,Ze3,Ze5,Ze8,Zfc,Zfd,Zfe,Zfh,Zfn,Zf2,Zgr,Zgs,Zgt,Ziu,Ziv,Ziw,Zi6,Zjh,Zji,Zjn,Zjs,Zj7,Zmt,Zmv,Zmw,Zmx,Zmy,Zmz,Zm0,Zm1,Zm3,Zm5,Zm7,Zm9,Zna,Znb,Znn,Zno,Znp,Zof,Zog,Zo7,Zo9,eq_self,true_and,and_true,g]
    tactic =>
    refine endA ?_
    sym =>
    simp [Zfc,Znh,Zpa,Zpg,Zpz,Zp1,Zp2,Zp7,Zp9,Zqb,Zqc,Zqd,Zqe,eq_self,true_and,and_true,Nat.zero_add]
    tactic =>
    exact ⟨(List.take_of_length_le (by simp)).symm, by simp, cP_okI _ _⟩
  obtain ⟨k, rfl⟩ : ∃ k', k = k' + 1 := ⟨k - 1, by omega⟩
  have g : IN rs.length ≤ 8 := by simp only [IN]; omega
  sym =>
  simp [Zaa,Zab,Zad,Zae,Zaf,Zag,Zal,Zam,Zaz,Za0,Za1,Za2,Za3,Za4,Za5,Za9,Zba,Zbb,Zbf,Zbt,Zbv,Zdc,Zdd,Zde,Zev,Zew,Zez,Ze0,Ze2,Ze5,Ze8,Zfc,Zfd,Zfe,Zfh,Zfn,Zf2,Zgr,Zgs,Zgt,Zgv,Zgw,Zgx,Zla,Zlb,Zlc,Zld,Zle,Zlf,Zlh,Zlk,Zlm,Zm5,Zm7,Zm9,Zna,Znb,Zne,Znf,Zng,Zo7,Zo8,List.length_append,List.length_drop,eq_self,true_and,and_true,Nat.zero_add,g,callable_80]
  tactic =>
  refine cl none (rnext_con t f cm ou hI b hb (by omega)) trivial ?_
  rcases hq : rnF t f cm ou b 9 b with _ | a
  · unfold rnR
    have e1 : R = (rs, ou) := by rw [hR, rpF_none hq, List.append_nil]
    rw [e1]
    sym =>
    simp [Zab,Zad,Zae,Zaf,Zak,Zal,Zam,Zao,Zar,Zax,Zaz,Za0,Za1,Za2,Za3,Za4,Za5,Za9,Zba,Zbb,Zbj,Zbt,Zb7,Zcv,Zc3,Zdi,Zev,Zez,Ze0,Ze1,Ze2,Ze3,Ze5,Ze8,Zfc,Zfd,Zfe,Zfh,Zgd,Zgg,Zgr,Zgs,Zgt,Zhb,Zhc,Zin,Ziu,Ziv,Ziw,Zi6,Zjh,Zji,Zjn,Zjq,Zjs,Zj7,Zka,Zkx,Zky,Zk0,Zk1,Zlz,Zl2,Zmt,Zmv,Zmw,Zmx,Zmy,Zmz,Zm0,Zm1,Zm3,Zm5,Zm7,Zm9,Zna,Znb,Znn,Zno,Znp,Zof,Zog,Zo4,Zo7,eq_self,true_and,and_true]
    tactic =>
    refine endA ?_
    sym =>
    simp [Zfc,Znh,Zpa,Zpg,Zpz,Zp1,Zp2,Zp7,Zp9,Zqb,Zqc,Zqd,Zqe,eq_self,true_and,and_true,Nat.zero_add]
    tactic =>
    exact ⟨(List.take_of_length_le (by simp)).symm, by simp, cP_okI _ _⟩
  · obtain ⟨r0, r1, r2, r3⟩ := rnF_spec 9 b a hq
    rw [show rnR t f cm ou (some a) = .tu [rW t f cm (ou ++ [a]), .ag [I a, I (min (a + 256) t)], Bo true] from rfl]
    have hpl : (pc src (a, min (a + 256) t)).length = (min (a + 256) t).toNat - a.toNat := by
      simp only [pc, List.length_take, List.length_drop]
      simp only [IN] at et
      omega
    have e1 : List.take ((min (a + 256) t).toNat - a.toNat) (List.drop a.toNat (cB src)) = cB (pc src (a, min (a + 256) t)) := by rw [pc, cB_take, cB_drop]
    rw [rpF_some hq] at hR
    have hI2 : RI t f cm (ou ++ [a]) := ⟨hI.ht, hI.hf, hI.hc, fun x hx => by
      rcases List.mem_append.1 hx with hx | hx
      · exact hI.ho x hx
      · rw [List.mem_singleton.1 hx]; omega, hI.lc, by simp; omega⟩
    obtain ⟨E, hE⟩ : ∃ E, E = min (a + 256) t := ⟨_, rfl⟩
    rw [← hE] at hpl e1 hR ⊢
    sym =>
    simp [Zaa,Zab,Zac,Zad,Zae,Zaf,Zal,Zam,Zap,Zav,Zaz,Za0,Za1,Za2,Za3,Za4,Za5,Za9,Zba,Zbb,Zbc,Zbf,Zbj,Zbt,Zbu,Zbv,Zbw,Zb7,Zca,Zci,Zcv,Zc0,Zc3,Zc6,Zc7,Zc8,Zc9,Zdi,Zdo,Zdp,Zdt,Zdu,Zdv,Zdw,Zdx,Zdy,Zdz,Zd0,Zd1,Zd2,Zd3,Zeb,Zec,Zeh,Zek,Zen,Zer,Zes,Zev,Zew,Zez,Ze0,Ze1,Ze2,Ze3,Ze4,Ze5,Ze8,Zfc,Zfd,Zfe,Zff,Zfg,Zfh,Zfn,Zfq,Zgd,Zgg,Zgr,Zgs,Zgt,Zgv,Zgw,Zgx,Zhb,Zhc,Zhd,Zhe,Zhf,Zhg,Zhh,Zhn,Zho,Zhs,Zht,Zhu,Zin,Ziq,Zir,Ziu,Ziv,Ziw,Zix,Ziz,Zi0,Zi2,Zi3,Zi6,Zi7,Zjb,Zjh,Zji,Zjj,Zjk,Zjn,Zjo,Zjq,Zj7,Zj8,Zka,Zkx,Zky,Zk0,Zk1,Zlz,Zl2,Zm5,Zm6,Zm7,Zm9,Zna,Znb,Znc,Znd,Zne,Znh,Znl,Znm,Znn,Zno,Znp,Zo3,Zo7,List.append_assoc,List.length_append,eq_self,true_and,and_true,Nat.zero_add,Nat.mul_one,hw]
    tactic =>
    have ho2 : (ou ++ [a]).length + k ≤ 900 := by simp; omega
    have hb3 : 0 ≤ a ∧ a ≤ E ∧ E ≤ IN src.length := by omega
    rw [e1, ← hpl]
    refine ⟨hb3, ⟨by omega, by omega, by simp, by omega⟩, ?_⟩
    unfold NextL; refine ⟨k, [(0, 0), (1, 1), (2, 34)], _, by omega, ⟨rs ++ [(a, E)], ou ++ [a], by simp; omega, hI2, ho2, by rw [hR]; simp, rfl⟩, wkA ?_⟩
    rw [cP_snoc]
    sym =>
    simp [Za2,Za3,Zez,Zfc,Zna,Znb,Znr,Zof,Zpa,Zpc,Zpd,Zpg,Zpo,Zpu,Zqb,Zqc,Zqf,Zqg,Zqh,Zqi,Zqk,Zql,Zqm,Zqn,List.length_append,eq_self,true_and,and_true]
    tactic =>
    have h9 := cP_okI src (rs ++ [(a, E)])
    rw [cP_snoc] at h9
    exact rs_self h9
end Go.Proofs.Ytbmdahhhgpbchaa.OpF
