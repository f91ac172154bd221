import Derived.Test.YtdjjibmjinllnaaDelC
namespace Go.Proofs.Ytdjjibmjinllnaa.DelD
open Go Go.Sim Go.Sim.E Go.RowKit Go.Proofs Go.Proofs.Ytdjjibmjinllnaa.Cod Go.Proofs.Ytdjjibmjinllnaa.Tab Go.Proofs.Ytdjjibmjinllnaa.Bse Go.Proofs.Ytdjjibmjinllnaa.DelA Go.Proofs.Ytdjjibmjinllnaa.DelB Go.Proofs.Ytdjjibmjinllnaa.DelC
set_option linter.unusedVariables false
set_option linter.unusedSimpArgs false
set_option maxRecDepth 100000
set_option maxHeartbeats 4000000
/-- What a piece makes. -/
def pcx (old : List Int) (p : Pc) : List Int := if 0 < p.2.2.length then p.2.2 else (old.drop p.1.toNat).take p.2.1.toNat
def apF (old : List Int) : List Pc → List Int → List Int × Int
  | [], out => (out, 0)
  | p :: l, out => if rightF p = true then (if (old.length : Int) < p.1 then ([], 3) else if (old.length : Int) - p.1 < p.2.1 then ([], 3) else if 1048576 < out.length + (pcx old p).length then ([], 10) else apF old l (out ++ pcx old p)) else ([], 3)
theorem apF_drop (old : List Int) (l : List Pc) (out : List Int) (i : Nat) (h : i < l.length) : apF old (l.drop i) out = if rightF l[i] = true then (if (old.length : Int) < l[i].1 then ([], 3) else if (old.length : Int) - l[i].1 < l[i].2.1 then ([], 3) else if 1048576 < out.length + (pcx old l[i]).length then ([], 10) else apF old (l.drop (i + 1)) (out ++ pcx old l[i])) else ([], 3) := by
  rw [List.drop_eq_getElem_cons h]; rfl
theorem right_pos {p : Pc} (h : rightF p = true) : 0 ≤ p.1 ∧ 0 ≤ p.2.1 := by
  unfold rightF at h
  split at h
  · split at h
    · simp at h; omega
    · cases h
  · split at h
    · simp at h; omega
    · cases h
def i28 (old : List Int) (l : List Pc) (R : List Int × Int) (k : Nat) (s : St) : Prop := ∃ (i : Nat) (out : List Int), i + k = l.length ∧ apF old (l.drop i) out = R ∧ out.length ≤ 1048576 ∧ s = ⟨[(0, fB old), (6, .lv 0 0 out.length), (10, fP l), (11, I (IN l.length)), (12, I (IN i))], [(0, ⟨cB out, 1, 0⟩)], 1⟩
theorem apply_con (old : List Int) (l : List Pc) (ho : old.length ≤ 1000000) (hl : okL l) : Con Try.prog 28 [] [fB old, fP l] [] (.tu [fB (apF old l []).1, I (apF old l []).2]) := by
  refine con_j b28 rfl ?_
  have hl1 := hl.1
  obtain ⟨R, hR⟩ : ∃ R, R = apF old l [] := ⟨_, rfl⟩
  rw [← hR]
  sym =>
  simp [Zaa,Zab,Zad,Zae,Zaf,Zag,Zah,Zai,Zak,Zal,Zam,Zan,Zao,Zap,Zaq,Zar,Zav,Zaw,Zax,Zay,Zaz,Za0,Za1,Za2,Za3,Za4,Za5,Za6,Za7,Za8,Za9,Zba,Zbb,Zbd,Zbf,Zbj,Zbt,Zbv,Zb1,Zch,Zcn,Zcv,Zc3,Zc5,Zdc,Zdd,Zde,Zdi,Zev,Zew,Zex,Zez,Ze0,Ze1,Ze2,Ze3,Ze4,Ze5,Ze8,Zfb,Zfc,Zfd,Zfe,Zff,Zfg,Zfh,Zfi,Zfj,Zfl,Zfn,Zfq,Zfr,Zf1,Zf3,Zgd,Zgg,Zgr,Zgs,Zgt,Zgu,Zgv,Zgw,Zgx,Zg4,Zg6,Zhn,Zho,Zhs,Zht,Zhu,Zh6,Zh7,Zh9,Zin,Ziu,Ziv,Ziw,Zix,Ziz,Zi0,Zi1,Zi6,Zjh,Zji,Zjn,Zjw,Zj7,Zla,Zlb,Zlc,Zld,Zle,Zlf,Zlh,Zlk,Zlm,Zlz,Zmt,Zmv,Zmw,Zmx,Zmz,Zm3,Zm5,Zm6,Zm7,Zm9,Zna,Znb,Zne,Znf,Zng,Znh,Znn,Zno,Znp,Znr,Zns,Znt,Znu,Znw,Zn1,Zn5,Zof,Zog,Zos,Zot,Zo3,Zo4,Zo6,Zo7,Zo8,Zo9,Zpb,Zpc,Zpi,Zpo,Zpr,Zpw,Zpz,Zp1,Zp2,Zp9,Zqd,Zqe,Zqf,Zqg,Zqh,Zqi,Zqj,Zqk,Zql,Zqm,Zqn,List.length_append,List.length_drop,eq_self,true_and,and_true,Nat.zero_add,Nat.mul_one]
  tactic =>
  refine lpA (i28 old l R) l.length [] _ ⟨0, [], by omega, hR.symm, by simp, rfl⟩ (wkA ?_) ?_
  · sym =>
    simp [Zaa,Zab,Zad,Zae,Zaf,Zag,Zah,Zai,Zak,Zal,Zam,Zan,Zao,Zap,Zaq,Zar,Zav,Zaw,Zax,Zay,Zaz,Za0,Za1,Za2,Za3,Za4,Za5,Za6,Za7,Za8,Za9,Zba,Zbb,Zbd,Zbf,Zbj,Zbt,Zbv,Zb1,Zch,Zcn,Zcv,Zc3,Zc5,Zdc,Zdd,Zde,Zdi,Zev,Zew,Zex,Zez,Ze0,Ze1,Ze2,Ze3,Ze4,Ze5,Ze8,Zfb,Zfc,Zfd,Zfe,Zff,Zfg,Zfh,Zfi,Zfj,Zfl,Zfn,Zfq,Zfr,Zf1,Zf3,Zgd,Zgg,Zgr,Zgs,Zgt,Zgu,Zgv,Zgw,Zgx,Zg4,Zg6,Zhn,Zho,Zhs,Zht,Zhu,Zh6,Zh7,Zh9,Zin,Ziu,Ziv,Ziw,Zix,Ziz,Zi0,Zi1,Zi6,Zjh,Zji,Zjn,Zjw,Zj7,Zla,Zlb,Zlc,Zld,Zle,Zlf,Zlh,Zlk,Zlm,Zlz,Zmt,Zmv,Zmw,Zmx,Zmz,Zm3,Zm5,Zm6,Zm7,Zm9,Zna,Znb,Zne,Znf,Zng,Znh,Znn,Zno,Znp,Znr,Zns,Znt,Znu,Znw,Zn1,Zn5,Zof,Zog,Zos,Zot,Zo3,Zo4,Zo6,Zo7,Zo8,Zo9,Zpb,Zpc,Zpi,Zpo,Zpr,Zpw,Zpz,Zp1,Zp2,Zp9,Zqd,Zqe,Zqf,Zqg,Zqh,Zqi,Zqj,Zqk,Zql,Zqm,Zqn,List.length_append,List.length_drop,eq_self,true_and,and_true,Nat.zero_add,Nat.mul_one]
    tactic =>
    rfl
  rintro k s ⟨i, out, hi, ha, hob, rfl⟩
  by_cases h : i < l.length
  · have hw := w64s i (by omega)
    have g0 := cP_q0 l i h
    have g1 := cP_q1 l i h
    have g2 : (cP l).getD (i * 3 + 1 + 1) .un = fB l[i].2.2 := cP_q2 l i h
    have hPl := cP_length l
    have hol := cB_length out
    have hql := hl.2 l[i] (List.getElem_mem h)
    rw [apF_drop old l out i h] at ha
    obtain ⟨p, hp⟩ : ∃ p, p = l[i] := ⟨_, rfl⟩
    rw [← hp] at g0 g1 g2 hql ha
    obtain ⟨a, b, q⟩ := p
    simp only at g0 g1 g2 hql
    have hrc := right_con a b q
    by_cases hr : rightF (a, b, q) = true
    · obtain ⟨h0, h1⟩ := right_pos hr
      simp only at h0 h1
      obtain ⟨A, rfl⟩ := Int.eq_ofNat_of_zero_le h0
      obtain ⟨B, rfl⟩ := Int.eq_ofNat_of_zero_le h1
      have hx : pcx old ((A : Int), (B : Int), q) = if 0 < q.length then q else (old.drop A).take B := rfl
      rw [if_pos hr, hx] at ha
      rw [hr] at hrc
      simp only at ha
      change Con Try.prog 57 [] [.ag [I (IN A), I (IN B), fB q]] [] (Bo true) at hrc
      change (cP l).getD (i * 3) .un = I (IN A) at g0
      change (cP l).getD (i * 3 + 1) .un = I (IN B) at g1
      by_cases h2 : old.length < A
      · have h2' : (old.length : Int) < (A : Int) := by omega
        rw [if_pos h2'] at ha
        sym =>
        simp [Zaa,Zab,Zad,Zae,Zaf,Zag,Zah,Zai,Zak,Zal,Zam,Zan,Zao,Zap,Zaq,Zar,Zav,Zaw,Zax,Zay,Zaz,Za0,Za1,Za2,Za3,Za4,Za5,Za6,Za7,Za8,Za9,Zba,Zbb,Zbd,Zbf,Zbj,Zbt,Zbv,Zb1,Zch,Zcn,Zcv,Zc3,Zc5,Zdc,Zdd,Zde,Zdi,Zev,Zew,Zex,Zez,Ze0,Ze1,Ze2,Ze3,Ze4,Ze5,Ze8,Zfb,Zfc,Zfd,Zfe,Zff,Zfg,Zfh,Zfi,Zfj,Zfl,Zfn,Zfq,Zfr,Zf1,Zf3,Zgd,Zgg,Zgr,Zgs,Zgt,Zgu,Zgv,Zgw,Zgx,Zg4,Zg6,Zhn,Zho,Zhs,Zht,Zhu,Zh6,Zh7,Zh9,Zin,Ziu,Ziv,Ziw,Zix,Ziz,Zi0,Zi1,Zi6,Zjh,Zji,Zjn,Zjw,Zj7,Zla,Zlb,Zlc,Zld,Zle,Zlf,Zlh,Zlk,Zlm,Zlz,Zmt,Zmv,Zmw,Zmx,Zmz,Zm3,Zm5,Zm6,Zm7,Zm9,Zna,Znb,Zne,Znf,Zng,Znh,Znn,Zno,Znp,Znr,Zns,Znt,Znu,Znw,Zn1,Zn5,Zof,Zog,Zos,Zot,Zo3,Zo4,Zo6,Zo7,Zo8,Zo9,Zpb,Zpc,Zpi,Zpo,Zpr,Zpw,Zpz,Zp1,Zp2,Zp9,Zqd,Zqe,Zqf,Zqg,Zqh,Zqi,Zqj,Zqk,Zql,Zqm,Zqn,List.length_append,List.length_drop,eq_self,true_and,and_true,Nat.zero_add,Nat.mul_one,h,hw,g0,g1,g2,callable_57]
        tactic =>
        and_intros <;> try (first | omega | rfl | assumption | simp only [IN]; omega)
        refine cl none (hrc) trivial ?_
        sym =>
        simp [Zaa,Zab,Zad,Zae,Zaf,Zag,Zah,Zai,Zak,Zal,Zam,Zan,Zao,Zap,Zaq,Zar,Zav,Zaw,Zax,Zay,Zaz,Za0,Za1,Za2,Za3,Za4,Za5,Za6,Za7,Za8,Za9,Zba,Zbb,Zbd,Zbf,Zbj,Zbt,Zbv,Zb1,Zch,Zcn,Zcv,Zc3,Zc5,Zdc,Zdd,Zde,Zdi,Zev,Zew,Zex,Zez,Ze0,Ze1,Ze2,Ze3,Ze4,Ze5,Ze8,Zfb,Zfc,Zfd,Zfe,Zff,Zfg,Zfh,Zfi,Zfj,Zfl,Zfn,Zfq,Zfr,Zf1,Zf3,Zgd,Zgg,Zgr,Zgs,Zgt,Zgu,Zgv,Zgw,Zgx,Zg4,Zg6,Zhn,Zho,Zhs,Zht,Zhu,Zh6,Zh7,Zh9,Zin,Ziu,Ziv,Ziw,Zix,Ziz,Zi0,Zi1,Zi6,Zjh,Zji,Zjn,Zjw,Zj7,Zla,Zlb,Zlc,Zld,Zle,Zlf,Zlh,Zlk,Zlm,Zlz,Zmt,Zmv,Zmw,Zmx,Zmz,Zm3,Zm5,Zm6,Zm7,Zm9,Zna,Znb,Zne,Znf,Zng,Znh,Znn,Zno,Znp,Znr,Zns,Znt,Znu,Znw,Zn1,Zn5,Zof,Zog,Zos,Zot,Zo3,Zo4,Zo6,Zo7,Zo8,Zo9,Zpb,Zpc,Zpi,Zpo,Zpr,Zpw,Zpz,Zp1,Zp2,Zp9,Zqd,Zqe,Zqf,Zqg,Zqh,Zqi,Zqj,Zqk,Zql,Zqm,Zqn,List.length_append,List.length_drop,eq_self,true_and,and_true,Nat.zero_add,Nat.mul_one,h2]
        tactic =>
        refine endA ?_
        rw [← ha]
        sym =>
        simp [Zaa,Zab,Zad,Zae,Zaf,Zag,Zah,Zai,Zak,Zal,Zam,Zan,Zao,Zap,Zaq,Zar,Zav,Zaw,Zax,Zay,Zaz,Za0,Za1,Za2,Za3,Za4,Za5,Za6,Za7,Za8,Za9,Zba,Zbb,Zbd,Zbf,Zbj,Zbt,Zbv,Zb1,Zch,Zcn,Zcv,Zc3,Zc5,Zdc,Zdd,Zde,Zdi,Zev,Zew,Zex,Zez,Ze0,Ze1,Ze2,Ze3,Ze4,Ze5,Ze8,Zfb,Zfc,Zfd,Zfe,Zff,Zfg,Zfh,Zfi,Zfj,Zfl,Zfn,Zfq,Zfr,Zf1,Zf3,Zgd,Zgg,Zgr,Zgs,Zgt,Zgu,Zgv,Zgw,Zgx,Zg4,Zg6,Zhn,Zho,Zhs,Zht,Zhu,Zh6,Zh7,Zh9,Zin,Ziu,Ziv,Ziw,Zix,Ziz,Zi0,Zi1,Zi6,Zjh,Zji,Zjn,Zjw,Zj7,Zla,Zlb,Zlc,Zld,Zle,Zlf,Zlh,Zlk,Zlm,Zlz,Zmt,Zmv,Zmw,Zmx,Zmz,Zm3,Zm5,Zm6,Zm7,Zm9,Zna,Znb,Zne,Znf,Zng,Znh,Znn,Zno,Znp,Znr,Zns,Znt,Znu,Znw,Zn1,Zn5,Zof,Zog,Zos,Zot,Zo3,Zo4,Zo6,Zo7,Zo8,Zo9,Zpb,Zpc,Zpi,Zpo,Zpr,Zpw,Zpz,Zp1,Zp2,Zp9,Zqd,Zqe,Zqf,Zqg,Zqh,Zqi,Zqj,Zqk,Zql,Zqm,Zqn,List.length_append,List.length_drop,eq_self,true_and,and_true,Nat.zero_add,Nat.mul_one]
        tactic =>
        rfl
      have h2' : ¬ (old.length : Int) < (A : Int) := by omega
      rw [if_neg h2'] at ha
      have hwd : IntKind.i64.wrap (IN old.length - IN A) = IN (old.length - A) := w64d _ _ (by omega) (by omega)
      by_cases h3 : old.length - A < B
      · have h3' : (old.length : Int) - (A : Int) < (B : Int) := by omega
        rw [if_pos h3'] at ha
        sym =>
        simp [Zaa,Zab,Zad,Zae,Zaf,Zag,Zah,Zai,Zak,Zal,Zam,Zan,Zao,Zap,Zaq,Zar,Zav,Zaw,Zax,Zay,Zaz,Za0,Za1,Za2,Za3,Za4,Za5,Za6,Za7,Za8,Za9,Zba,Zbb,Zbd,Zbf,Zbj,Zbt,Zbv,Zb1,Zch,Zcn,Zcv,Zc3,Zc5,Zdc,Zdd,Zde,Zdi,Zev,Zew,Zex,Zez,Ze0,Ze1,Ze2,Ze3,Ze4,Ze5,Ze8,Zfb,Zfc,Zfd,Zfe,Zff,Zfg,Zfh,Zfi,Zfj,Zfl,Zfn,Zfq,Zfr,Zf1,Zf3,Zgd,Zgg,Zgr,Zgs,Zgt,Zgu,Zgv,Zgw,Zgx,Zg4,Zg6,Zhn,Zho,Zhs,Zht,Zhu,Zh6,Zh7,Zh9,Zin,Ziu,Ziv,Ziw,Zix,Ziz,Zi0,Zi1,Zi6,Zjh,Zji,Zjn,Zjw,Zj7,Zla,Zlb,Zlc,Zld,Zle,Zlf,Zlh,Zlk,Zlm,Zlz,Zmt,Zmv,Zmw,Zmx,Zmz,Zm3,Zm5,Zm6,Zm7,Zm9,Zna,Znb,Zne,Znf,Zng,Znh,Znn,Zno,Znp,Znr,Zns,Znt,Znu,Znw,Zn1,Zn5,Zof,Zog,Zos,Zot,Zo3,Zo4,Zo6,Zo7,Zo8,Zo9,Zpb,Zpc,Zpi,Zpo,Zpr,Zpw,Zpz,Zp1,Zp2,Zp9,Zqd,Zqe,Zqf,Zqg,Zqh,Zqi,Zqj,Zqk,Zql,Zqm,Zqn,List.length_append,List.length_drop,eq_self,true_and,and_true,Nat.zero_add,Nat.mul_one,h,hw,g0,g1,g2,callable_57]
        tactic =>
        and_intros <;> try (first | omega | rfl | assumption | simp only [IN]; omega)
        refine cl none (hrc) trivial ?_
        sym =>
        simp [Zaa,Zab,Zad,Zae,Zaf,Zag,Zah,Zai,Zak,Zal,Zam,Zan,Zao,Zap,Zaq,Zar,Zav,Zaw,Zax,Zay,Zaz,Za0,Za1,Za2,Za3,Za4,Za5,Za6,Za7,Za8,Za9,Zba,Zbb,Zbd,Zbf,Zbj,Zbt,Zbv,Zb1,Zch,Zcn,Zcv,Zc3,Zc5,Zdc,Zdd,Zde,Zdi,Zev,Zew,Zex,Zez,Ze0,Ze1,Ze2,Ze3,Ze4,Ze5,Ze8,Zfb,Zfc,Zfd,Zfe,Zff,Zfg,Zfh,Zfi,Zfj,Zfl,Zfn,Zfq,Zfr,Zf1,Zf3,Zgd,Zgg,Zgr,Zgs,Zgt,Zgu,Zgv,Zgw,Zgx,Zg4,Zg6,Zhn,Zho,Zhs,Zht,Zhu,Zh6,Zh7,Zh9,Zin,Ziu,Ziv,Ziw,Zix,Ziz,Zi0,Zi1,Zi6,Zjh,Zji,Zjn,Zjw,Zj7,Zla,Zlb,Zlc,Zld,Zle,Zlf,Zlh,Zlk,Zlm,Zlz,Zmt,Zmv,Zmw,Zmx,Zmz,Zm3,Zm5,Zm6,Zm7,Zm9,Zna,Znb,Zne,Znf,Zng,Znh,Znn,Zno,Znp,Znr,Zns,Znt,Znu,Znw,Zn1,Zn5,Zof,Zog,Zos,Zot,Zo3,Zo4,Zo6,Zo7,Zo8,Zo9,Zpb,Zpc,Zpi,Zpo,Zpr,Zpw,Zpz,Zp1,Zp2,Zp9,Zqd,Zqe,Zqf,Zqg,Zqh,Zqi,Zqj,Zqk,Zql,Zqm,Zqn,List.length_append,List.length_drop,eq_self,true_and,and_true,Nat.zero_add,Nat.mul_one,h2,hwd,h3]
        tactic =>
        refine endA ?_
        rw [← ha]
        sym =>
        simp [Zaa,Zab,Zad,Zae,Zaf,Zag,Zah,Zai,Zak,Zal,Zam,Zan,Zao,Zap,Zaq,Zar,Zav,Zaw,Zax,Zay,Zaz,Za0,Za1,Za2,Za3,Za4,Za5,Za6,Za7,Za8,Za9,Zba,Zbb,Zbd,Zbf,Zbj,Zbt,Zbv,Zb1,Zch,Zcn,Zcv,Zc3,Zc5,Zdc,Zdd,Zde,Zdi,Zev,Zew,Zex,Zez,Ze0,Ze1,Ze2,Ze3,Ze4,Ze5,Ze8,Zfb,Zfc,Zfd,Zfe,Zff,Zfg,Zfh,Zfi,Zfj,Zfl,Zfn,Zfq,Zfr,Zf1,Zf3,Zgd,Zgg,Zgr,Zgs,Zgt,Zgu,Zgv,Zgw,Zgx,Zg4,Zg6,Zhn,Zho,Zhs,Zht,Zhu,Zh6,Zh7,Zh9,Zin,Ziu,Ziv,Ziw,Zix,Ziz,Zi0,Zi1,Zi6,Zjh,Zji,Zjn,Zjw,Zj7,Zla,Zlb,Zlc,Zld,Zle,Zlf,Zlh,Zlk,Zlm,Zlz,Zmt,Zmv,Zmw,Zmx,Zmz,Zm3,Zm5,Zm6,Zm7,Zm9,Zna,Znb,Zne,Znf,Zng,Znh,Znn,Zno,Znp,Znr,Zns,Znt,Znu,Znw,Zn1,Zn5,Zof,Zog,Zos,Zot,Zo3,Zo4,Zo6,Zo7,Zo8,Zo9,Zpb,Zpc,Zpi,Zpo,Zpr,Zpw,Zpz,Zp1,Zp2,Zp9,Zqd,Zqe,Zqf,Zqg,Zqh,Zqi,Zqj,Zqk,Zql,Zqm,Zqn,List.length_append,List.length_drop,eq_self,true_and,and_true,Nat.zero_add,Nat.mul_one]
        tactic =>
        rfl
      have h3' : ¬ (old.length : Int) - (A : Int) < (B : Int) := by omega
      rw [if_neg h3'] at ha
      have hoc := own_con (IN A) (IN B) q
      sym =>
      simp [Zaa,Zab,Zad,Zae,Zaf,Zag,Zah,Zai,Zak,Zal,Zam,Zan,Zao,Zap,Zaq,Zar,Zav,Zaw,Zax,Zay,Zaz,Za0,Za1,Za2,Za3,Za4,Za5,Za6,Za7,Za8,Za9,Zba,Zbb,Zbd,Zbf,Zbj,Zbt,Zbv,Zb1,Zch,Zcn,Zcv,Zc3,Zc5,Zdc,Zdd,Zde,Zdi,Zev,Zew,Zex,Zez,Ze0,Ze1,Ze2,Ze3,Ze4,Ze5,Ze8,Zfb,Zfc,Zfd,Zfe,Zff,Zfg,Zfh,Zfi,Zfj,Zfl,Zfn,Zfq,Zfr,Zf1,Zf3,Zgd,Zgg,Zgr,Zgs,Zgt,Zgu,Zgv,Zgw,Zgx,Zg4,Zg6,Zhn,Zho,Zhs,Zht,Zhu,Zh6,Zh7,Zh9,Zin,Ziu,Ziv,Ziw,Zix,Ziz,Zi0,Zi1,Zi6,Zjh,Zji,Zjn,Zjw,Zj7,Zla,Zlb,Zlc,Zld,Zle,Zlf,Zlh,Zlk,Zlm,Zlz,Zmt,Zmv,Zmw,Zmx,Zmz,Zm3,Zm5,Zm6,Zm7,Zm9,Zna,Znb,Zne,Znf,Zng,Znh,Znn,Zno,Znp,Znr,Zns,Znt,Znu,Znw,Zn1,Zn5,Zof,Zog,Zos,Zot,Zo3,Zo4,Zo6,Zo7,Zo8,Zo9,Zpb,Zpc,Zpi,Zpo,Zpr,Zpw,Zpz,Zp1,Zp2,Zp9,Zqd,Zqe,Zqf,Zqg,Zqh,Zqi,Zqj,Zqk,Zql,Zqm,Zqn,List.length_append,List.length_drop,eq_self,true_and,and_true,Nat.zero_add,Nat.mul_one,h,hw,g0,g1,g2,callable_57]
      tactic =>
      and_intros <;> try (first | omega | rfl | assumption | simp only [IN]; omega)
      refine cl none (hrc) trivial ?_
      sym =>
      simp [Zaa,Zab,Zad,Zae,Zaf,Zag,Zah,Zai,Zak,Zal,Zam,Zan,Zao,Zap,Zaq,Zar,Zav,Zaw,Zax,Zay,Zaz,Za0,Za1,Za2,Za3,Za4,Za5,Za6,Za7,Za8,Za9,Zba,Zbb,Zbd,Zbf,Zbj,Zbt,Zbv,Zb1,Zch,Zcn,Zcv,Zc3,Zc5,Zdc,Zdd,Zde,Zdi,Zev,Zew,Zex,Zez,Ze0,Ze1,Ze2,Ze3,Ze4,Ze5,Ze8,Zfb,Zfc,Zfd,Zfe,Zff,Zfg,Zfh,Zfi,Zfj,Zfl,Zfn,Zfq,Zfr,Zf1,Zf3,Zgd,Zgg,Zgr,Zgs,Zgt,Zgu,Zgv,Zgw,Zgx,Zg4,Zg6,Zhn,Zho,Zhs,Zht,Zhu,Zh6,Zh7,Zh9,Zin,Ziu,Ziv,Ziw,Zix,Ziz,Zi0,Zi1,Zi6,Zjh,Zji,Zjn,Zjw,Zj7,Zla,Zlb,Zlc,Zld,Zle,Zlf,Zlh,Zlk,Zlm,Zlz,Zmt,Zmv,Zmw,Zmx,Zmz,Zm3,Zm5,Zm6,Zm7,Zm9,Zna,Znb,Zne,Znf,Zng,Znh,Znn,Zno,Znp,Znr,Zns,Znt,Znu,Znw,Zn1,Zn5,Zof,Zog,Zos,Zot,Zo3,Zo4,Zo6,Zo7,Zo8,Zo9,Zpb,Zpc,Zpi,Zpo,Zpr,Zpw,Zpz,Zp1,Zp2,Zp9,Zqd,Zqe,Zqf,Zqg,Zqh,Zqi,Zqj,Zqk,Zql,Zqm,Zqn,List.length_append,List.length_drop,eq_self,true_and,and_true,Nat.zero_add,Nat.mul_one,h2,hwd,h3,callable_56]
      tactic =>
      refine cl none (hoc) trivial ?_
      by_cases hq : 0 < q.length
      · rw [if_pos hq] at ha
        have hws : IntKind.i64.wrap (IN (out.length + q.length)) = IN (out.length + q.length) := by simp only [IN]; rw [w64 _ (by omega)]
        by_cases hm : 1048576 < out.length + q.length
        · rw [if_pos hm] at ha
          have hm' : IN (out.length + q.length) > (1048576 : Int) := by simp only [IN]; omega
          sym =>
          simp [Zaa,Zab,Zad,Zae,Zaf,Zag,Zah,Zai,Zak,Zal,Zam,Zan,Zao,Zap,Zaq,Zar,Zav,Zaw,Zax,Zay,Zaz,Za0,Za1,Za2,Za3,Za4,Za5,Za6,Za7,Za8,Za9,Zba,Zbb,Zbd,Zbf,Zbj,Zbt,Zbv,Zb1,Zch,Zcn,Zcv,Zc3,Zc5,Zdc,Zdd,Zde,Zdi,Zev,Zew,Zex,Zez,Ze0,Ze1,Ze2,Ze3,Ze4,Ze5,Ze8,Zfb,Zfc,Zfd,Zfe,Zff,Zfg,Zfh,Zfi,Zfj,Zfl,Zfn,Zfq,Zfr,Zf1,Zf3,Zgd,Zgg,Zgr,Zgs,Zgt,Zgu,Zgv,Zgw,Zgx,Zg4,Zg6,Zhn,Zho,Zhs,Zht,Zhu,Zh6,Zh7,Zh9,Zin,Ziu,Ziv,Ziw,Zix,Ziz,Zi0,Zi1,Zi6,Zjh,Zji,Zjn,Zjw,Zj7,Zla,Zlb,Zlc,Zld,Zle,Zlf,Zlh,Zlk,Zlm,Zlz,Zmt,Zmv,Zmw,Zmx,Zmz,Zm3,Zm5,Zm6,Zm7,Zm9,Zna,Znb,Zne,Znf,Zng,Znh,Znn,Zno,Znp,Znr,Zns,Znt,Znu,Znw,Zn1,Zn5,Zof,Zog,Zos,Zot,Zo3,Zo4,Zo6,Zo7,Zo8,Zo9,Zpb,Zpc,Zpi,Zpo,Zpr,Zpw,Zpz,Zp1,Zp2,Zp9,Zqd,Zqe,Zqf,Zqg,Zqh,Zqi,Zqj,Zqk,Zql,Zqm,Zqn,List.length_append,List.length_drop,eq_self,true_and,and_true,Nat.zero_add,Nat.mul_one,hq,hws,hm']
          tactic =>
          refine endA ?_
          rw [← ha]
          sym =>
          simp [Zaa,Zab,Zad,Zae,Zaf,Zag,Zah,Zai,Zak,Zal,Zam,Zan,Zao,Zap,Zaq,Zar,Zav,Zaw,Zax,Zay,Zaz,Za0,Za1,Za2,Za3,Za4,Za5,Za6,Za7,Za8,Za9,Zba,Zbb,Zbd,Zbf,Zbj,Zbt,Zbv,Zb1,Zch,Zcn,Zcv,Zc3,Zc5,Zdc,Zdd,Zde,Zdi,Zev,Zew,Zex,Zez,Ze0,Ze1,Ze2,Ze3,Ze4,Ze5,Ze8,Zfb,Zfc,Zfd,Zfe,Zff,Zfg,Zfh,Zfi,Zfj,Zfl,Zfn,Zfq,Zfr,Zf1,Zf3,Zgd,Zgg,Zgr,Zgs,Zgt,Zgu,Zgv,Zgw,Zgx,Zg4,Zg6,Zhn,Zho,Zhs,Zht,Zhu,Zh6,Zh7,Zh9,Zin,Ziu,Ziv,Ziw,Zix,Ziz,Zi0,Zi1,Zi6,Zjh,Zji,Zjn,Zjw,Zj7,Zla,Zlb,Zlc,Zld,Zle,Zlf,Zlh,Zlk,Zlm,Zlz,Zmt,Zmv,Zmw,Zmx,Zmz,Zm3,Zm5,Zm6,Zm7,Zm9,Zna,Znb,Zne,Znf,Zng,Znh,Znn,Zno,Znp,Znr,Zns,Znt,Znu,Znw,Zn1,Zn5,Zof,Zog,Zos,Zot,Zo3,Zo4,Zo6,Zo7,Zo8,Zo9,Zpb,Zpc,Zpi,Zpo,Zpr,Zpw,Zpz,Zp1,Zp2,Zp9,Zqd,Zqe,Zqf,Zqg,Zqh,Zqi,Zqj,Zqk,Zql,Zqm,Zqn,List.length_append,List.length_drop,eq_self,true_and,and_true,Nat.zero_add,Nat.mul_one]
          tactic =>
          rfl
        · rw [if_neg hm] at ha
          have hm' : ¬ IN (out.length + q.length) > (1048576 : Int) := by simp only [IN]; omega
          have hqF := cB_okF q
          have hqc := cB_length q
          sym =>
          simp [Zaa,Zab,Zad,Zae,Zaf,Zag,Zah,Zai,Zak,Zal,Zam,Zan,Zao,Zap,Zaq,Zar,Zav,Zaw,Zax,Zay,Zaz,Za0,Za1,Za2,Za3,Za4,Za5,Za6,Za7,Za8,Za9,Zba,Zbb,Zbd,Zbf,Zbj,Zbt,Zbv,Zb1,Zch,Zcn,Zcv,Zc3,Zc5,Zdc,Zdd,Zde,Zdi,Zev,Zew,Zex,Zez,Ze0,Ze1,Ze2,Ze3,Ze4,Ze5,Ze8,Zfb,Zfc,Zfd,Zfe,Zff,Zfg,Zfh,Zfi,Zfj,Zfl,Zfn,Zfq,Zfr,Zf1,Zf3,Zgd,Zgg,Zgr,Zgs,Zgt,Zgu,Zgv,Zgw,Zgx,Zg4,Zg6,Zhn,Zho,Zhs,Zht,Zhu,Zh6,Zh7,Zh9,Zin,Ziu,Ziv,Ziw,Zix,Ziz,Zi0,Zi1,Zi6,Zjh,Zji,Zjn,Zjw,Zj7,Zla,Zlb,Zlc,Zld,Zle,Zlf,Zlh,Zlk,Zlm,Zlz,Zmt,Zmv,Zmw,Zmx,Zmz,Zm3,Zm5,Zm6,Zm7,Zm9,Zna,Znb,Zne,Znf,Zng,Znh,Znn,Zno,Znp,Znr,Zns,Znt,Znu,Znw,Zn1,Zn5,Zof,Zog,Zos,Zot,Zo3,Zo4,Zo6,Zo7,Zo8,Zo9,Zpb,Zpc,Zpi,Zpo,Zpr,Zpw,Zpz,Zp1,Zp2,Zp9,Zqd,Zqe,Zqf,Zqg,Zqh,Zqi,Zqj,Zqk,Zql,Zqm,Zqn,List.length_append,List.length_drop,eq_self,true_and,and_true,Nat.zero_add,Nat.mul_one,hq,hws,hm',hw]
          tactic =>
          and_intros <;> try (first | omega | rfl | assumption | simp only [IN]; omega)
          unfold NextL; refine ⟨(k - 1), [(0, 40)], _, by omega, ⟨i + 1, out ++ q, by omega, ha, by rw [List.length_append]; omega, rfl⟩, wkA ?_⟩
          sym =>
          simp [Zaa,Zab,Zad,Zae,Zaf,Zag,Zah,Zai,Zak,Zal,Zam,Zan,Zao,Zap,Zaq,Zar,Zav,Zaw,Zax,Zay,Zaz,Za0,Za1,Za2,Za3,Za4,Za5,Za6,Za7,Za8,Za9,Zba,Zbb,Zbd,Zbf,Zbj,Zbt,Zbv,Zb1,Zch,Zcn,Zcv,Zc3,Zc5,Zdc,Zdd,Zde,Zdi,Zev,Zew,Zex,Zez,Ze0,Ze1,Ze2,Ze3,Ze4,Ze5,Ze8,Zfb,Zfc,Zfd,Zfe,Zff,Zfg,Zfh,Zfi,Zfj,Zfl,Zfn,Zfq,Zfr,Zf1,Zf3,Zgd,Zgg,Zgr,Zgs,Zgt,Zgu,Zgv,Zgw,Zgx,Zg4,Zg6,Zhn,Zho,Zhs,Zht,Zhu,Zh6,Zh7,Zh9,Zin,Ziu,Ziv,Ziw,Zix,Ziz,Zi0,Zi1,Zi6,Zjh,Zji,Zjn,Zjw,Zj7,Zla,Zlb,Zlc,Zld,Zle,Zlf,Zlh,Zlk,Zlm,Zlz,Zmt,Zmv,Zmw,Zmx,Zmz,Zm3,Zm5,Zm6,Zm7,Zm9,Zna,Znb,Zne,Znf,Zng,Znh,Znn,Zno,Znp,Znr,Zns,Znt,Znu,Znw,Zn1,Zn5,Zof,Zog,Zos,Zot,Zo3,Zo4,Zo6,Zo7,Zo8,Zo9,Zpb,Zpc,Zpi,Zpo,Zpr,Zpw,Zpz,Zp1,Zp2,Zp9,Zqd,Zqe,Zqf,Zqg,Zqh,Zqi,Zqj,Zqk,Zql,Zqm,Zqn,List.length_append,List.length_drop,eq_self,true_and,and_true,Nat.zero_add,Nat.mul_one,List.length_append]
          tactic =>
          exact cB_rs _ _ _ _ _ (cB_append _ _).symm
      · rw [if_neg hq] at ha
        obtain ⟨X, hX⟩ : ∃ X, X = (old.drop A).take B := ⟨_, rfl⟩
        have hXl : X.length = B := by rw [hX, List.length_take, List.length_drop]; omega
        have hXc : List.take B (List.drop A (cB old)) = cB X := by rw [hX, cB_take, cB_drop]
        rw [← hX, hXl] at ha
        have hwa : IntKind.i64.wrap (IN (A + B)) = IN (A + B) := by simp only [IN]; rw [w64 _ (by omega)]
        have hws : IntKind.i64.wrap (IN (out.length + B)) = IN (out.length + B) := by simp only [IN]; rw [w64 _ (by omega)]
        have hab : A + B - A = B := by omega
        have hXF := cB_okF X
        have hXcl : (cB X).length = B := by rw [cB_length, hXl]
        by_cases hm : 1048576 < out.length + B
        · rw [if_pos hm] at ha
          have hm' : IN (out.length + B) > (1048576 : Int) := by simp only [IN]; omega
          sym =>
          simp [Zaa,Zab,Zad,Zae,Zaf,Zag,Zah,Zai,Zak,Zal,Zam,Zan,Zao,Zap,Zaq,Zar,Zav,Zaw,Zax,Zay,Zaz,Za0,Za1,Za2,Za3,Za4,Za5,Za6,Za7,Za8,Za9,Zba,Zbb,Zbd,Zbf,Zbj,Zbt,Zbv,Zb1,Zch,Zcn,Zcv,Zc3,Zc5,Zdc,Zdd,Zde,Zdi,Zev,Zew,Zex,Zez,Ze0,Ze1,Ze2,Ze3,Ze4,Ze5,Ze8,Zfb,Zfc,Zfd,Zfe,Zff,Zfg,Zfh,Zfi,Zfj,Zfl,Zfn,Zfq,Zfr,Zf1,Zf3,Zgd,Zgg,Zgr,Zgs,Zgt,Zgu,Zgv,Zgw,Zgx,Zg4,Zg6,Zhn,Zho,Zhs,Zht,Zhu,Zh6,Zh7,Zh9,Zin,Ziu,Ziv,Ziw,Zix,Ziz,Zi0,Zi1,Zi6,Zjh,Zji,Zjn,Zjw,Zj7,Zla,Zlb,Zlc,Zld,Zle,Zlf,Zlh,Zlk,Zlm,Zlz,Zmt,Zmv,Zmw,Zmx,Zmz,Zm3,Zm5,Zm6,Zm7,Zm9,Zna,Znb,Zne,Znf,Zng,Znh,Znn,Zno,Znp,Znr,Zns,Znt,Znu,Znw,Zn1,Zn5,Zof,Zog,Zos,Zot,Zo3,Zo4,Zo6,Zo7,Zo8,Zo9,Zpb,Zpc,Zpi,Zpo,Zpr,Zpw,Zpz,Zp1,Zp2,Zp9,Zqd,Zqe,Zqf,Zqg,Zqh,Zqi,Zqj,Zqk,Zql,Zqm,Zqn,List.length_append,List.length_drop,eq_self,true_and,and_true,Nat.zero_add,Nat.mul_one,hq,hwa,hws,hm',hab,hXc]
          tactic =>
          and_intros <;> try (first | omega | rfl | assumption | simp only [IN]; omega)
          refine endA ?_
          rw [← ha]
          sym =>
          simp [Zaa,Zab,Zad,Zae,Zaf,Zag,Zah,Zai,Zak,Zal,Zam,Zan,Zao,Zap,Zaq,Zar,Zav,Zaw,Zax,Zay,Zaz,Za0,Za1,Za2,Za3,Za4,Za5,Za6,Za7,Za8,Za9,Zba,Zbb,Zbd,Zbf,Zbj,Zbt,Zbv,Zb1,Zch,Zcn,Zcv,Zc3,Zc5,Zdc,Zdd,Zde,Zdi,Zev,Zew,Zex,Zez,Ze0,Ze1,Ze2,Ze3,Ze4,Ze5,Ze8,Zfb,Zfc,Zfd,Zfe,Zff,Zfg,Zfh,Zfi,Zfj,Zfl,Zfn,Zfq,Zfr,Zf1,Zf3,Zgd,Zgg,Zgr,Zgs,Zgt,Zgu,Zgv,Zgw,Zgx,Zg4,Zg6,Zhn,Zho,Zhs,Zht,Zhu,Zh6,Zh7,Zh9,Zin,Ziu,Ziv,Ziw,Zix,Ziz,Zi0,Zi1,Zi6,Zjh,Zji,Zjn,Zjw,Zj7,Zla,Zlb,Zlc,Zld,Zle,Zlf,Zlh,Zlk,Zlm,Zlz,Zmt,Zmv,Zmw,Zmx,Zmz,Zm3,Zm5,Zm6,Zm7,Zm9,Zna,Znb,Zne,Znf,Zng,Znh,Znn,Zno,Znp,Znr,Zns,Znt,Znu,Znw,Zn1,Zn5,Zof,Zog,Zos,Zot,Zo3,Zo4,Zo6,Zo7,Zo8,Zo9,Zpb,Zpc,Zpi,Zpo,Zpr,Zpw,Zpz,Zp1,Zp2,Zp9,Zqd,Zqe,Zqf,Zqg,Zqh,Zqi,Zqj,Zqk,Zql,Zqm,Zqn,List.length_append,List.length_drop,eq_self,true_and,and_true,Nat.zero_add,Nat.mul_one]
          tactic =>
          rfl
        · rw [if_neg hm] at ha
          have hm' : ¬ IN (out.length + B) > (1048576 : Int) := by simp only [IN]; omega
          sym =>
          simp [Zaa,Zab,Zad,Zae,Zaf,Zag,Zah,Zai,Zak,Zal,Zam,Zan,Zao,Zap,Zaq,Zar,Zav,Zaw,Zax,Zay,Zaz,Za0,Za1,Za2,Za3,Za4,Za5,Za6,Za7,Za8,Za9,Zba,Zbb,Zbd,Zbf,Zbj,Zbt,Zbv,Zb1,Zch,Zcn,Zcv,Zc3,Zc5,Zdc,Zdd,Zde,Zdi,Zev,Zew,Zex,Zez,Ze0,Ze1,Ze2,Ze3,Ze4,Ze5,Ze8,Zfb,Zfc,Zfd,Zfe,Zff,Zfg,Zfh,Zfi,Zfj,Zfl,Zfn,Zfq,Zfr,Zf1,Zf3,Zgd,Zgg,Zgr,Zgs,Zgt,Zgu,Zgv,Zgw,Zgx,Zg4,Zg6,Zhn,Zho,Zhs,Zht,Zhu,Zh6,Zh7,Zh9,Zin,Ziu,Ziv,Ziw,Zix,Ziz,Zi0,Zi1,Zi6,Zjh,Zji,Zjn,Zjw,Zj7,Zla,Zlb,Zlc,Zld,Zle,Zlf,Zlh,Zlk,Zlm,Zlz,Zmt,Zmv,Zmw,Zmx,Zmz,Zm3,Zm5,Zm6,Zm7,Zm9,Zna,Znb,Zne,Znf,Zng,Znh,Znn,Zno,Znp,Znr,Zns,Znt,Znu,Znw,Zn1,Zn5,Zof,Zog,Zos,Zot,Zo3,Zo4,Zo6,Zo7,Zo8,Zo9,Zpb,Zpc,Zpi,Zpo,Zpr,Zpw,Zpz,Zp1,Zp2,Zp9,Zqd,Zqe,Zqf,Zqg,Zqh,Zqi,Zqj,Zqk,Zql,Zqm,Zqn,List.length_append,List.length_drop,eq_self,true_and,and_true,Nat.zero_add,Nat.mul_one,hq,hwa,hws,hm',hab,hXc,hw]
          tactic =>
          and_intros <;> try (first | omega | rfl | assumption | simp only [IN]; omega)
          unfold NextL; refine ⟨(k - 1), [(0, 50)], _, by omega, ⟨i + 1, out ++ X, by omega, ha, by rw [List.length_append]; omega, rfl⟩, wkA ?_⟩
          sym =>
          simp [Zaa,Zab,Zad,Zae,Zaf,Zag,Zah,Zai,Zak,Zal,Zam,Zan,Zao,Zap,Zaq,Zar,Zav,Zaw,Zax,Zay,Zaz,Za0,Za1,Za2,Za3,Za4,Za5,Za6,Za7,Za8,Za9,Zba,Zbb,Zbd,Zbf,Zbj,Zbt,Zbv,Zb1,Zch,Zcn,Zcv,Zc3,Zc5,Zdc,Zdd,Zde,Zdi,Zev,Zew,Zex,Zez,Ze0,Ze1,Ze2,Ze3,Ze4,Ze5,Ze8,Zfb,Zfc,Zfd,Zfe,Zff,Zfg,Zfh,Zfi,Zfj,Zfl,Zfn,Zfq,Zfr,Zf1,Zf3,Zgd,Zgg,Zgr,Zgs,Zgt,Zgu,Zgv,Zgw,Zgx,Zg4,Zg6,Zhn,Zho,Zhs,Zht,Zhu,Zh6,Zh7,Zh9,Zin,Ziu,Ziv,Ziw,Zix,Ziz,Zi0,Zi1,Zi6,Zjh,Zji,Zjn,Zjw,Zj7,Zla,Zlb,Zlc,Zld,Zle,Zlf,Zlh,Zlk,Zlm,Zlz,Zmt,Zmv,Zmw,Zmx,Zmz,Zm3,Zm5,Zm6,Zm7,Zm9,Zna,Znb,Zne,Znf,Zng,Znh,Znn,Zno,Znp,Znr,Zns,Znt,Znu,Znw,Zn1,Zn5,Zof,Zog,Zos,Zot,Zo3,Zo4,Zo6,Zo7,Zo8,Zo9,Zpb,Zpc,Zpi,Zpo,Zpr,Zpw,Zpz,Zp1,Zp2,Zp9,Zqd,Zqe,Zqf,Zqg,Zqh,Zqi,Zqj,Zqk,Zql,Zqm,Zqn,List.length_append,List.length_drop,eq_self,true_and,and_true,Nat.zero_add,Nat.mul_one,List.length_append,hXl]
          tactic =>
          exact cB_rs _ _ _ _ _ (cB_append _ _).symm
    · rw [if_neg hr] at ha
      have hrf : rightF (a, b, q) = false := by simpa using hr
      rw [hrf] at hrc
      sym =>
      simp [Zaa,Zab,Zad,Zae,Zaf,Zag,Zah,Zai,Zak,Zal,Zam,Zan,Zao,Zap,Zaq,Zar,Zav,Zaw,Zax,Zay,Zaz,Za0,Za1,Za2,Za3,Za4,Za5,Za6,Za7,Za8,Za9,Zba,Zbb,Zbd,Zbf,Zbj,Zbt,Zbv,Zb1,Zch,Zcn,Zcv,Zc3,Zc5,Zdc,Zdd,Zde,Zdi,Zev,Zew,Zex,Zez,Ze0,Ze1,Ze2,Ze3,Ze4,Ze5,Ze8,Zfb,Zfc,Zfd,Zfe,Zff,Zfg,Zfh,Zfi,Zfj,Zfl,Zfn,Zfq,Zfr,Zf1,Zf3,Zgd,Zgg,Zgr,Zgs,Zgt,Zgu,Zgv,Zgw,Zgx,Zg4,Zg6,Zhn,Zho,Zhs,Zht,Zhu,Zh6,Zh7,Zh9,Zin,Ziu,Ziv,Ziw,Zix,Ziz,Zi0,Zi1,Zi6,Zjh,Zji,Zjn,Zjw,Zj7,Zla,Zlb,Zlc,Zld,Zle,Zlf,Zlh,Zlk,Zlm,Zlz,Zmt,Zmv,Zmw,Zmx,Zmz,Zm3,Zm5,Zm6,Zm7,Zm9,Zna,Znb,Zne,Znf,Zng,Znh,Znn,Zno,Znp,Znr,Zns,Znt,Znu,Znw,Zn1,Zn5,Zof,Zog,Zos,Zot,Zo3,Zo4,Zo6,Zo7,Zo8,Zo9,Zpb,Zpc,Zpi,Zpo,Zpr,Zpw,Zpz,Zp1,Zp2,Zp9,Zqd,Zqe,Zqf,Zqg,Zqh,Zqi,Zqj,Zqk,Zql,Zqm,Zqn,List.length_append,List.length_drop,eq_self,true_and,and_true,Nat.zero_add,Nat.mul_one,h,hw,g0,g1,g2,callable_57]
      tactic =>
      and_intros <;> try (first | omega | rfl | assumption | simp only [IN]; omega)
      refine cl none (hrc) trivial ?_
      sym =>
      simp [Zaa,Zab,Zad,Zae,Zaf,Zag,Zah,Zai,Zak,Zal,Zam,Zan,Zao,Zap,Zaq,Zar,Zav,Zaw,Zax,Zay,Zaz,Za0,Za1,Za2,Za3,Za4,Za5,Za6,Za7,Za8,Za9,Zba,Zbb,Zbd,Zbf,Zbj,Zbt,Zbv,Zb1,Zch,Zcn,Zcv,Zc3,Zc5,Zdc,Zdd,Zde,Zdi,Zev,Zew,Zex,Zez,Ze0,Ze1,Ze2,Ze3,Ze4,Ze5,Ze8,Zfb,Zfc,Zfd,Zfe,Zff,Zfg,Zfh,Zfi,Zfj,Zfl,Zfn,Zfq,Zfr,Zf1,Zf3,Zgd,Zgg,Zgr,Zgs,Zgt,Zgu,Zgv,Zgw,Zgx,Zg4,Zg6,Zhn,Zho,Zhs,Zht,Zhu,Zh6,Zh7,Zh9,Zin,Ziu,Ziv,Ziw,Zix,Ziz,Zi0,Zi1,Zi6,Zjh,Zji,Zjn,Zjw,Zj7,Zla,Zlb,Zlc,Zld,Zle,Zlf,Zlh,Zlk,Zlm,Zlz,Zmt,Zmv,Zmw,Zmx,Zmz,Zm3,Zm5,Zm6,Zm7,Zm9,Zna,Znb,Zne,Znf,Zng,Znh,Znn,Zno,Znp,Znr,Zns,Znt,Znu,Znw,Zn1,Zn5,Zof,Zog,Zos,Zot,Zo3,Zo4,Zo6,Zo7,Zo8,Zo9,Zpb,Zpc,Zpi,Zpo,Zpr,Zpw,Zpz,Zp1,Zp2,Zp9,Zqd,Zqe,Zqf,Zqg,Zqh,Zqi,Zqj,Zqk,Zql,Zqm,Zqn,List.length_append,List.length_drop,eq_self,true_and,and_true,Nat.zero_add,Nat.mul_one]
      tactic =>
      refine endA ?_
      rw [← ha]
      sym =>
      simp [Zaa,Zab,Zad,Zae,Zaf,Zag,Zah,Zai,Zak,Zal,Zam,Zan,Zao,Zap,Zaq,Zar,Zav,Zaw,Zax,Zay,Zaz,Za0,Za1,Za2,Za3,Za4,Za5,Za6,Za7,Za8,Za9,Zba,Zbb,Zbd,Zbf,Zbj,Zbt,Zbv,Zb1,Zch,Zcn,Zcv,Zc3,Zc5,Zdc,Zdd,Zde,Zdi,Zev,Zew,Zex,Zez,Ze0,Ze1,Ze2,Ze3,Ze4,Ze5,Ze8,Zfb,Zfc,Zfd,Zfe,Zff,Zfg,Zfh,Zfi,Zfj,Zfl,Zfn,Zfq,Zfr,Zf1,Zf3,Zgd,Zgg,Zgr,Zgs,Zgt,Zgu,Zgv,Zgw,Zgx,Zg4,Zg6,Zhn,Zho,Zhs,Zht,Zhu,Zh6,Zh7,Zh9,Zin,Ziu,Ziv,Ziw,Zix,Ziz,Zi0,Zi1,Zi6,Zjh,Zji,Zjn,Zjw,Zj7,Zla,Zlb,Zlc,Zld,Zle,Zlf,Zlh,Zlk,Zlm,Zlz,Zmt,Zmv,Zmw,Zmx,Zmz,Zm3,Zm5,Zm6,Zm7,Zm9,Zna,Znb,Zne,Znf,Zng,Znh,Znn,Zno,Znp,Znr,Zns,Znt,Znu,Znw,Zn1,Zn5,Zof,Zog,Zos,Zot,Zo3,Zo4,Zo6,Zo7,Zo8,Zo9,Zpb,Zpc,Zpi,Zpo,Zpr,Zpw,Zpz,Zp1,Zp2,Zp9,Zqd,Zqe,Zqf,Zqg,Zqh,Zqi,Zqj,Zqk,Zql,Zqm,Zqn,List.length_append,List.length_drop,eq_self,true_and,and_true,Nat.zero_add,Nat.mul_one]
      tactic =>
      rfl
  · rw [List.drop_of_length_le (by omega)] at ha
    simp only [apF] at ha
    sym =>
    simp [Zaa,Zab,Zad,Zae,Zaf,Zag,Zah,Zai,Zak,Zal,Zam,Zan,Zao,Zap,Zaq,Zar,Zav,Zaw,Zax,Zay,Zaz,Za0,Za1,Za2,Za3,Za4,Za5,Za6,Za7,Za8,Za9,Zba,Zbb,Zbd,Zbf,Zbj,Zbt,Zbv,Zb1,Zch,Zcn,Zcv,Zc3,Zc5,Zdc,Zdd,Zde,Zdi,Zev,Zew,Zex,Zez,Ze0,Ze1,Ze2,Ze3,Ze4,Ze5,Ze8,Zfb,Zfc,Zfd,Zfe,Zff,Zfg,Zfh,Zfi,Zfj,Zfl,Zfn,Zfq,Zfr,Zf1,Zf3,Zgd,Zgg,Zgr,Zgs,Zgt,Zgu,Zgv,Zgw,Zgx,Zg4,Zg6,Zhn,Zho,Zhs,Zht,Zhu,Zh6,Zh7,Zh9,Zin,Ziu,Ziv,Ziw,Zix,Ziz,Zi0,Zi1,Zi6,Zjh,Zji,Zjn,Zjw,Zj7,Zla,Zlb,Zlc,Zld,Zle,Zlf,Zlh,Zlk,Zlm,Zlz,Zmt,Zmv,Zmw,Zmx,Zmz,Zm3,Zm5,Zm6,Zm7,Zm9,Zna,Znb,Zne,Znf,Zng,Znh,Znn,Zno,Znp,Znr,Zns,Znt,Znu,Znw,Zn1,Zn5,Zof,Zog,Zos,Zot,Zo3,Zo4,Zo6,Zo7,Zo8,Zo9,Zpb,Zpc,Zpi,Zpo,Zpr,Zpw,Zpz,Zp1,Zp2,Zp9,Zqd,Zqe,Zqf,Zqg,Zqh,Zqi,Zqj,Zqk,Zql,Zqm,Zqn,List.length_append,List.length_drop,eq_self,true_and,and_true,Nat.zero_add,Nat.mul_one,h]
    tactic =>
    refine endA ?_
    rw [← ha]
    sym =>
    simp [Zaa,Zab,Zad,Zae,Zaf,Zag,Zah,Zai,Zak,Zal,Zam,Zan,Zao,Zap,Zaq,Zar,Zav,Zaw,Zax,Zay,Zaz,Za0,Za1,Za2,Za3,Za4,Za5,Za6,Za7,Za8,Za9,Zba,Zbb,Zbd,Zbf,Zbj,Zbt,Zbv,Zb1,Zch,Zcn,Zcv,Zc3,Zc5,Zdc,Zdd,Zde,Zdi,Zev,Zew,Zex,Zez,Ze0,Ze1,Ze2,Ze3,Ze4,Ze5,Ze8,Zfb,Zfc,Zfd,Zfe,Zff,Zfg,Zfh,Zfi,Zfj,Zfl,Zfn,Zfq,Zfr,Zf1,Zf3,Zgd,Zgg,Zgr,Zgs,Zgt,Zgu,Zgv,Zgw,Zgx,Zg4,Zg6,Zhn,Zho,Zhs,Zht,Zhu,Zh6,Zh7,Zh9,Zin,Ziu,Ziv,Ziw,Zix,Ziz,Zi0,Zi1,Zi6,Zjh,Zji,Zjn,Zjw,Zj7,Zla,Zlb,Zlc,Zld,Zle,Zlf,Zlh,Zlk,Zlm,Zlz,Zmt,Zmv,Zmw,Zmx,Zmz,Zm3,Zm5,Zm6,Zm7,Zm9,Zna,Znb,Zne,Znf,Zng,Znh,Znn,Zno,Znp,Znr,Zns,Znt,Znu,Znw,Zn1,Zn5,Zof,Zog,Zos,Zot,Zo3,Zo4,Zo6,Zo7,Zo8,Zo9,Zpb,Zpc,Zpi,Zpo,Zpr,Zpw,Zpz,Zp1,Zp2,Zp9,Zqd,Zqe,Zqf,Zqg,Zqh,Zqi,Zqj,Zqk,Zql,Zqm,Zqn,List.length_append,List.length_drop,eq_self,true_and,and_true,Nat.zero_add,Nat.mul_one]
    tactic =>
    exact ⟨(cB_all out).symm, by rw [cB_length]; exact Nat.le_refl _, cB_okI out⟩
def i37 (old : List Int) (l : List Pc) (R : List Int × Int) (k : Nat) (s : St) : Prop := ∃ (i : Nat) (out : List Int), i + k = l.length ∧ apF old (l.drop i) out = R ∧ out.length ≤ 1048576 ∧ s = ⟨[(0, fB old), (1, fP l), (6, .lv 0 0 out.length), (7, I (IN i))], [(0, ⟨cB out, 1, 0⟩)], 1⟩
theorem rapply_con (old : List Int) (l : List Pc) (ho : old.length ≤ 1000000) (hl : okL l) : Con Try.prog 37 [] [fB old, fP l] [] (.tu [fB (apF old l []).1, I (apF old l []).2]) := by
  refine con_j b37 rfl ?_
  have hl1 := hl.1
  obtain ⟨R, hR⟩ : ∃ R, R = apF old l [] := ⟨_, rfl⟩
  rw [← hR]
  sym =>
  simp [Zaa,Zab,Zad,Zae,Zaf,Zag,Zah,Zai,Zak,Zal,Zam,Zan,Zao,Zap,Zaq,Zar,Zav,Zaw,Zax,Zay,Zaz,Za0,Za1,Za2,Za3,Za4,Za5,Za6,Za7,Za8,Za9,Zba,Zbb,Zbd,Zbf,Zbj,Zbt,Zbv,Zb1,Zch,Zcn,Zcv,Zc3,Zc5,Zdc,Zdd,Zde,Zdi,Zev,Zew,Zex,Zez,Ze0,Ze1,Ze2,Ze3,Ze4,Ze5,Ze8,Zfb,Zfc,Zfd,Zfe,Zff,Zfg,Zfh,Zfi,Zfj,Zfl,Zfn,Zfq,Zfr,Zfz,Zf1,Zf3,Zgd,Zgg,Zgr,Zgs,Zgt,Zgu,Zgv,Zgw,Zgx,Zg4,Zg6,Zhn,Zho,Zhs,Zht,Zhu,Zh6,Zh7,Zh9,Zin,Ziu,Ziv,Ziw,Zix,Ziz,Zi0,Zi1,Zi6,Zjb,Zjh,Zji,Zjn,Zjw,Zj7,Zla,Zlb,Zlc,Zld,Zle,Zlf,Zlh,Zlk,Zlm,Zlz,Zmt,Zmv,Zmw,Zmx,Zmz,Zm3,Zm5,Zm6,Zm7,Zm9,Zna,Znb,Zne,Znf,Zng,Znh,Znn,Zno,Znp,Znr,Zns,Znt,Znu,Znw,Zny,Zn1,Zn5,Zof,Zog,Zos,Zot,Zo3,Zo4,Zo6,Zo7,Zo8,Zo9,Zpb,Zpc,Zpi,Zpo,Zpr,Zpw,Zpz,Zp1,Zp2,Zp9,Zqd,Zqe,Zqf,Zqg,Zqh,Zqi,Zqj,Zqk,Zql,Zqm,Zqn,List.length_append,List.length_drop,eq_self,true_and,and_true,Nat.zero_add,Nat.mul_one]
  tactic =>
  refine lpA (i37 old l R) l.length [] _ ⟨0, [], by omega, hR.symm, by simp, rfl⟩ (wkA ?_) ?_
  · sym =>
    simp [Zaa,Zab,Zad,Zae,Zaf,Zag,Zah,Zai,Zak,Zal,Zam,Zan,Zao,Zap,Zaq,Zar,Zav,Zaw,Zax,Zay,Zaz,Za0,Za1,Za2,Za3,Za4,Za5,Za6,Za7,Za8,Za9,Zba,Zbb,Zbd,Zbf,Zbj,Zbt,Zbv,Zb1,Zch,Zcn,Zcv,Zc3,Zc5,Zdc,Zdd,Zde,Zdi,Zev,Zew,Zex,Zez,Ze0,Ze1,Ze2,Ze3,Ze4,Ze5,Ze8,Zfb,Zfc,Zfd,Zfe,Zff,Zfg,Zfh,Zfi,Zfj,Zfl,Zfn,Zfq,Zfr,Zfz,Zf1,Zf3,Zgd,Zgg,Zgr,Zgs,Zgt,Zgu,Zgv,Zgw,Zgx,Zg4,Zg6,Zhn,Zho,Zhs,Zht,Zhu,Zh6,Zh7,Zh9,Zin,Ziu,Ziv,Ziw,Zix,Ziz,Zi0,Zi1,Zi6,Zjb,Zjh,Zji,Zjn,Zjw,Zj7,Zla,Zlb,Zlc,Zld,Zle,Zlf,Zlh,Zlk,Zlm,Zlz,Zmt,Zmv,Zmw,Zmx,Zmz,Zm3,Zm5,Zm6,Zm7,Zm9,Zna,Znb,Zne,Znf,Zng,Znh,Znn,Zno,Znp,Znr,Zns,Znt,Znu,Znw,Zny,Zn1,Zn5,Zof,Zog,Zos,Zot,Zo3,Zo4,Zo6,Zo7,Zo8,Zo9,Zpb,Zpc,Zpi,Zpo,Zpr,Zpw,Zpz,Zp1,Zp2,Zp9,Zqd,Zqe,Zqf,Zqg,Zqh,Zqi,Zqj,Zqk,Zql,Zqm,Zqn,List.length_append,List.length_drop,eq_self,true_and,and_true,Nat.zero_add,Nat.mul_one]
    tactic =>
    rfl
  rintro k s ⟨i, out, hi, ha, hob, rfl⟩
  by_cases h : i < l.length
  · have hw := w64s i (by omega)
    have g0 := cP_q0 l i h
    have g1 := cP_q1 l i h
    have g2 : (cP l).getD (i * 3 + 1 + 1) .un = fB l[i].2.2 := cP_q2 l i h
    have hPl := cP_length l
    have hol := cB_length out
    have hql := hl.2 l[i] (List.getElem_mem h)
    rw [apF_drop old l out i h] at ha
    obtain ⟨p, hp⟩ : ∃ p, p = l[i] := ⟨_, rfl⟩
    rw [← hp] at g0 g1 g2 hql ha
    obtain ⟨a, b, q⟩ := p
    simp only at g0 g1 g2 hql
    have hrc := rright_con a b q
    by_cases hr : rightF (a, b, q) = true
    · obtain ⟨h0, h1⟩ := right_pos hr
      simp only at h0 h1
      obtain ⟨A, rfl⟩ := Int.eq_ofNat_of_zero_le h0
      obtain ⟨B, rfl⟩ := Int.eq_ofNat_of_zero_le h1
      have hx : pcx old ((A : Int), (B : Int), q) = if 0 < q.length then q else (old.drop A).take B := rfl
      rw [if_pos hr, hx] at ha
      rw [hr] at hrc
      simp only at ha
      change Con Try.prog 62 [] [.ag [I (IN A), I (IN B), fB q]] [] (Bo true) at hrc
      change (cP l).getD (i * 3) .un = I (IN A) at g0
      change (cP l).getD (i * 3 + 1) .un = I (IN B) at g1
      by_cases h2 : old.length < A
      · have h2' : (old.length : Int) < (A : Int) := by omega
        rw [if_pos h2'] at ha
        sym =>
        simp [Zaa,Zab,Zad,Zae,Zaf,Zag,Zah,Zai,Zak,Zal,Zam,Zan,Zao,Zap,Zaq,Zar,Zav,Zaw,Zax,Zay,Zaz,Za0,Za1,Za2,Za3,Za4,Za5,Za6,Za7,Za8,Za9,Zba,Zbb,Zbd,Zbf,Zbj,Zbt,Zbv,Zb1,Zch,Zcn,Zcv,Zc3,Zc5,Zdc,Zdd,Zde,Zdi,Zev,Zew,Zex,Zez,Ze0,Ze1,Ze2,Ze3,Ze4,Ze5,Ze8,Zfb,Zfc,Zfd,Zfe,Zff,Zfg,Zfh,Zfi,Zfj,Zfl,Zfn,Zfq,Zfr,Zfz,Zf1,Zf3,Zgd,Zgg,Zgr,Zgs,Zgt,Zgu,Zgv,Zgw,Zgx,Zg4,Zg6,Zhn,Zho,Zhs,Zht,Zhu,Zh6,Zh7,Zh9,Zin,Ziu,Ziv,Ziw,Zix,Ziz,Zi0,Zi1,Zi6,Zjb,Zjh,Zji,Zjn,Zjw,Zj7,Zla,Zlb,Zlc,Zld,Zle,Zlf,Zlh,Zlk,Zlm,Zlz,Zmt,Zmv,Zmw,Zmx,Zmz,Zm3,Zm5,Zm6,Zm7,Zm9,Zna,Znb,Zne,Znf,Zng,Znh,Znn,Zno,Znp,Znr,Zns,Znt,Znu,Znw,Zny,Zn1,Zn5,Zof,Zog,Zos,Zot,Zo3,Zo4,Zo6,Zo7,Zo8,Zo9,Zpb,Zpc,Zpi,Zpo,Zpr,Zpw,Zpz,Zp1,Zp2,Zp9,Zqd,Zqe,Zqf,Zqg,Zqh,Zqi,Zqj,Zqk,Zql,Zqm,Zqn,List.length_append,List.length_drop,eq_self,true_and,and_true,Nat.zero_add,Nat.mul_one,h,hw,g0,g1,g2,callable_62]
        tactic =>
        and_intros <;> try (first | omega | rfl | assumption | simp only [IN]; omega)
        refine cl none (hrc) trivial ?_
        sym =>
        simp [Zaa,Zab,Zad,Zae,Zaf,Zag,Zah,Zai,Zak,Zal,Zam,Zan,Zao,Zap,Zaq,Zar,Zav,Zaw,Zax,Zay,Zaz,Za0,Za1,Za2,Za3,Za4,Za5,Za6,Za7,Za8,Za9,Zba,Zbb,Zbd,Zbf,Zbj,Zbt,Zbv,Zb1,Zch,Zcn,Zcv,Zc3,Zc5,Zdc,Zdd,Zde,Zdi,Zev,Zew,Zex,Zez,Ze0,Ze1,Ze2,Ze3,Ze4,Ze5,Ze8,Zfb,Zfc,Zfd,Zfe,Zff,Zfg,Zfh,Zfi,Zfj,Zfl,Zfn,Zfq,Zfr,Zfz,Zf1,Zf3,Zgd,Zgg,Zgr,Zgs,Zgt,Zgu,Zgv,Zgw,Zgx,Zg4,Zg6,Zhn,Zho,Zhs,Zht,Zhu,Zh6,Zh7,Zh9,Zin,Ziu,Ziv,Ziw,Zix,Ziz,Zi0,Zi1,Zi6,Zjb,Zjh,Zji,Zjn,Zjw,Zj7,Zla,Zlb,Zlc,Zld,Zle,Zlf,Zlh,Zlk,Zlm,Zlz,Zmt,Zmv,Zmw,Zmx,Zmz,Zm3,Zm5,Zm6,Zm7,Zm9,Zna,Znb,Zne,Znf,Zng,Znh,Znn,Zno,Znp,Znr,Zns,Znt,Znu,Znw,Zny,Zn1,Zn5,Zof,Zog,Zos,Zot,Zo3,Zo4,Zo6,Zo7,Zo8,Zo9,Zpb,Zpc,Zpi,Zpo,Zpr,Zpw,Zpz,Zp1,Zp2,Zp9,Zqd,Zqe,Zqf,Zqg,Zqh,Zqi,Zqj,Zqk,Zql,Zqm,Zqn,List.length_append,List.length_drop,eq_self,true_and,and_true,Nat.zero_add,Nat.mul_one,h2]
        tactic =>
        refine endA ?_
        rw [← ha]
        sym =>
        simp [Zaa,Zab,Zad,Zae,Zaf,Zag,Zah,Zai,Zak,Zal,Zam,Zan,Zao,Zap,Zaq,Zar,Zav,Zaw,Zax,Zay,Zaz,Za0,Za1,Za2,Za3,Za4,Za5,Za6,Za7,Za8,Za9,Zba,Zbb,Zbd,Zbf,Zbj,Zbt,Zbv,Zb1,Zch,Zcn,Zcv,Zc3,Zc5,Zdc,Zdd,Zde,Zdi,Zev,Zew,Zex,Zez,Ze0,Ze1,Ze2,Ze3,Ze4,Ze5,Ze8,Zfb,Zfc,Zfd,Zfe,Zff,Zfg,Zfh,Zfi,Zfj,Zfl,Zfn,Zfq,Zfr,Zfz,Zf1,Zf3,Zgd,Zgg,Zgr,Zgs,Zgt,Zgu,Zgv,Zgw,Zgx,Zg4,Zg6,Zhn,Zho,Zhs,Zht,Zhu,Zh6,Zh7,Zh9,Zin,Ziu,Ziv,Ziw,Zix,Ziz,Zi0,Zi1,Zi6,Zjb,Zjh,Zji,Zjn,Zjw,Zj7,Zla,Zlb,Zlc,Zld,Zle,Zlf,Zlh,Zlk,Zlm,Zlz,Zmt,Zmv,Zmw,Zmx,Zmz,Zm3,Zm5,Zm6,Zm7,Zm9,Zna,Znb,Zne,Znf,Zng,Znh,Znn,Zno,Znp,Znr,Zns,Znt,Znu,Znw,Zny,Zn1,Zn5,Zof,Zog,Zos,Zot,Zo3,Zo4,Zo6,Zo7,Zo8,Zo9,Zpb,Zpc,Zpi,Zpo,Zpr,Zpw,Zpz,Zp1,Zp2,Zp9,Zqd,Zqe,Zqf,Zqg,Zqh,Zqi,Zqj,Zqk,Zql,Zqm,Zqn,List.length_append,List.length_drop,eq_self,true_and,and_true,Nat.zero_add,Nat.mul_one]
        tactic =>
        rfl
      have h2' : ¬ (old.length : Int) < (A : Int) := by omega
      rw [if_neg h2'] at ha
      have hwd : IntKind.i64.wrap (IN old.length - IN A) = IN (old.length - A) := w64d _ _ (by omega) (by omega)
      by_cases h3 : old.length - A < B
      · have h3' : (old.length : Int) - (A : Int) < (B : Int) := by omega
        rw [if_pos h3'] at ha
        sym =>
        simp [Zaa,Zab,Zad,Zae,Zaf,Zag,Zah,Zai,Zak,Zal,Zam,Zan,Zao,Zap,Zaq,Zar,Zav,Zaw,Zax,Zay,Zaz,Za0,Za1,Za2,Za3,Za4,Za5,Za6,Za7,Za8,Za9,Zba,Zbb,Zbd,Zbf,Zbj,Zbt,Zbv,Zb1,Zch,Zcn,Zcv,Zc3,Zc5,Zdc,Zdd,Zde,Zdi,Zev,Zew,Zex,Zez,Ze0,Ze1,Ze2,Ze3,Ze4,Ze5,Ze8,Zfb,Zfc,Zfd,Zfe,Zff,Zfg,Zfh,Zfi,Zfj,Zfl,Zfn,Zfq,Zfr,Zfz,Zf1,Zf3,Zgd,Zgg,Zgr,Zgs,Zgt,Zgu,Zgv,Zgw,Zgx,Zg4,Zg6,Zhn,Zho,Zhs,Zht,Zhu,Zh6,Zh7,Zh9,Zin,Ziu,Ziv,Ziw,Zix,Ziz,Zi0,Zi1,Zi6,Zjb,Zjh,Zji,Zjn,Zjw,Zj7,Zla,Zlb,Zlc,Zld,Zle,Zlf,Zlh,Zlk,Zlm,Zlz,Zmt,Zmv,Zmw,Zmx,Zmz,Zm3,Zm5,Zm6,Zm7,Zm9,Zna,Znb,Zne,Znf,Zng,Znh,Znn,Zno,Znp,Znr,Zns,Znt,Znu,Znw,Zny,Zn1,Zn5,Zof,Zog,Zos,Zot,Zo3,Zo4,Zo6,Zo7,Zo8,Zo9,Zpb,Zpc,Zpi,Zpo,Zpr,Zpw,Zpz,Zp1,Zp2,Zp9,Zqd,Zqe,Zqf,Zqg,Zqh,Zqi,Zqj,Zqk,Zql,Zqm,Zqn,List.length_append,List.length_drop,eq_self,true_and,and_true,Nat.zero_add,Nat.mul_one,h,hw,g0,g1,g2,callable_62]
        tactic =>
        and_intros <;> try (first | omega | rfl | assumption | simp only [IN]; omega)
        refine cl none (hrc) trivial ?_
        sym =>
        simp [Zaa,Zab,Zad,Zae,Zaf,Zag,Zah,Zai,Zak,Zal,Zam,Zan,Zao,Zap,Zaq,Zar,Zav,Zaw,Zax,Zay,Zaz,Za0,Za1,Za2,Za3,Za4,Za5,Za6,Za7,Za8,Za9,Zba,Zbb,Zbd,Zbf,Zbj,Zbt,Zbv,Zb1,Zch,Zcn,Zcv,Zc3,Zc5,Zdc,Zdd,Zde,Zdi,Zev,Zew,Zex,Zez,Ze0,Ze1,Ze2,Ze3,Ze4,Ze5,Ze8,Zfb,Zfc,Zfd,Zfe,Zff,Zfg,Zfh,Zfi,Zfj,Zfl,Zfn,Zfq,Zfr,Zfz,Zf1,Zf3,Zgd,Zgg,Zgr,Zgs,Zgt,Zgu,Zgv,Zgw,Zgx,Zg4,Zg6,Zhn,Zho,Zhs,Zht,Zhu,Zh6,Zh7,Zh9,Zin,Ziu,Ziv,Ziw,Zix,Ziz,Zi0,Zi1,Zi6,Zjb,Zjh,Zji,Zjn,Zjw,Zj7,Zla,Zlb,Zlc,Zld,Zle,Zlf,Zlh,Zlk,Zlm,Zlz,Zmt,Zmv,Zmw,Zmx,Zmz,Zm3,Zm5,Zm6,Zm7,Zm9,Zna,Znb,Zne,Znf,Zng,Znh,Znn,Zno,Znp,Znr,Zns,Znt,Znu,Znw,Zny,Zn1,Zn5,Zof,Zog,Zos,Zot,Zo3,Zo4,Zo6,Zo7,Zo8,Zo9,Zpb,Zpc,Zpi,Zpo,Zpr,Zpw,Zpz,Zp1,Zp2,Zp9,Zqd,Zqe,Zqf,Zqg,Zqh,Zqi,Zqj,Zqk,Zql,Zqm,Zqn,List.length_append,List.length_drop,eq_self,true_and,and_true,Nat.zero_add,Nat.mul_one,h2,hwd,h3]
        tactic =>
        refine endA ?_
        rw [← ha]
        sym =>
        simp [Zaa,Zab,Zad,Zae,Zaf,Zag,Zah,Zai,Zak,Zal,Zam,Zan,Zao,Zap,Zaq,Zar,Zav,Zaw,Zax,Zay,Zaz,Za0,Za1,Za2,Za3,Za4,Za5,Za6,Za7,Za8,Za9,Zba,Zbb,Zbd,Zbf,Zbj,Zbt,Zbv,Zb1,Zch,Zcn,Zcv,Zc3,Zc5,Zdc,Zdd,Zde,Zdi,Zev,Zew,Zex,Zez,Ze0,Ze1,Ze2,Ze3,Ze4,Ze5,Ze8,Zfb,Zfc,Zfd,Zfe,Zff,Zfg,Zfh,Zfi,Zfj,Zfl,Zfn,Zfq,Zfr,Zfz,Zf1,Zf3,Zgd,Zgg,Zgr,Zgs,Zgt,Zgu,Zgv,Zgw,Zgx,Zg4,Zg6,Zhn,Zho,Zhs,Zht,Zhu,Zh6,Zh7,Zh9,Zin,Ziu,Ziv,Ziw,Zix,Ziz,Zi0,Zi1,Zi6,Zjb,Zjh,Zji,Zjn,Zjw,Zj7,Zla,Zlb,Zlc,Zld,Zle,Zlf,Zlh,Zlk,Zlm,Zlz,Zmt,Zmv,Zmw,Zmx,Zmz,Zm3,Zm5,Zm6,Zm7,Zm9,Zna,Znb,Zne,Znf,Zng,Znh,Znn,Zno,Znp,Znr,Zns,Znt,Znu,Znw,Zny,Zn1,Zn5,Zof,Zog,Zos,Zot,Zo3,Zo4,Zo6,Zo7,Zo8,Zo9,Zpb,Zpc,Zpi,Zpo,Zpr,Zpw,Zpz,Zp1,Zp2,Zp9,Zqd,Zqe,Zqf,Zqg,Zqh,Zqi,Zqj,Zqk,Zql,Zqm,Zqn,List.length_append,List.length_drop,eq_self,true_and,and_true,Nat.zero_add,Nat.mul_one]
        tactic =>
        rfl
      have h3' : ¬ (old.length : Int) - (A : Int) < (B : Int) := by omega
      rw [if_neg h3'] at ha
      sym =>
      simp [Zaa,Zab,Zad,Zae,Zaf,Zag,Zah,Zai,Zak,Zal,Zam,Zan,Zao,Zap,Zaq,Zar,Zav,Zaw,Zax,Zay,Zaz,Za0,Za1,Za2,Za3,Za4,Za5,Za6,Za7,Za8,Za9,Zba,Zbb,Zbd,Zbf,Zbj,Zbt,Zbv,Zb1,Zch,Zcn,Zcv,Zc3,Zc5,Zdc,Zdd,Zde,Zdi,Zev,Zew,Zex,Zez,Ze0,Ze1,Ze2,Ze3,Ze4,Ze5,Ze8,Zfb,Zfc,Zfd,Zfe,Zff,Zfg,Zfh,Zfi,Zfj,Zfl,Zfn,Zfq,Zfr,Zfz,Zf1,Zf3,Zgd,Zgg,Zgr,Zgs,Zgt,Zgu,Zgv,Zgw,Zgx,Zg4,Zg6,Zhn,Zho,Zhs,Zht,Zhu,Zh6,Zh7,Zh9,Zin,Ziu,Ziv,Ziw,Zix,Ziz,Zi0,Zi1,Zi6,Zjb,Zjh,Zji,Zjn,Zjw,Zj7,Zla,Zlb,Zlc,Zld,Zle,Zlf,Zlh,Zlk,Zlm,Zlz,Zmt,Zmv,Zmw,Zmx,Zmz,Zm3,Zm5,Zm6,Zm7,Zm9,Zna,Znb,Zne,Znf,Zng,Znh,Znn,Zno,Znp,Znr,Zns,Znt,Znu,Znw,Zny,Zn1,Zn5,Zof,Zog,Zos,Zot,Zo3,Zo4,Zo6,Zo7,Zo8,Zo9,Zpb,Zpc,Zpi,Zpo,Zpr,Zpw,Zpz,Zp1,Zp2,Zp9,Zqd,Zqe,Zqf,Zqg,Zqh,Zqi,Zqj,Zqk,Zql,Zqm,Zqn,List.length_append,List.length_drop,eq_self,true_and,and_true,Nat.zero_add,Nat.mul_one,h,hw,g0,g1,g2,callable_62]
      tactic =>
      and_intros <;> try (first | omega | rfl | assumption | simp only [IN]; omega)
      refine cl none (hrc) trivial ?_
      by_cases hq : 0 < q.length
      · have hqz : ¬ q.length = 0 := by omega
        rw [if_pos hq] at ha
        have hws : IntKind.i64.wrap (IN (out.length + q.length)) = IN (out.length + q.length) := by simp only [IN]; rw [w64 _ (by omega)]
        by_cases hm : 1048576 < out.length + q.length
        · rw [if_pos hm] at ha
          have hm' : IN (out.length + q.length) > (1048576 : Int) := by simp only [IN]; omega
          sym =>
          simp [Zaa,Zab,Zad,Zae,Zaf,Zag,Zah,Zai,Zak,Zal,Zam,Zan,Zao,Zap,Zaq,Zar,Zav,Zaw,Zax,Zay,Zaz,Za0,Za1,Za2,Za3,Za4,Za5,Za6,Za7,Za8,Za9,Zba,Zbb,Zbd,Zbf,Zbj,Zbt,Zbv,Zb1,Zch,Zcn,Zcv,Zc3,Zc5,Zdc,Zdd,Zde,Zdi,Zev,Zew,Zex,Zez,Ze0,Ze1,Ze2,Ze3,Ze4,Ze5,Ze8,Zfb,Zfc,Zfd,Zfe,Zff,Zfg,Zfh,Zfi,Zfj,Zfl,Zfn,Zfq,Zfr,Zfz,Zf1,Zf3,Zgd,Zgg,Zgr,Zgs,Zgt,Zgu,Zgv,Zgw,Zgx,Zg4,Zg6,Zhn,Zho,Zhs,Zht,Zhu,Zh6,Zh7,Zh9,Zin,Ziu,Ziv,Ziw,Zix,Ziz,Zi0,Zi1,Zi6,Zjb,Zjh,Zji,Zjn,Zjw,Zj7,Zla,Zlb,Zlc,Zld,Zle,Zlf,Zlh,Zlk,Zlm,Zlz,Zmt,Zmv,Zmw,Zmx,Zmz,Zm3,Zm5,Zm6,Zm7,Zm9,Zna,Znb,Zne,Znf,Zng,Znh,Znn,Zno,Znp,Znr,Zns,Znt,Znu,Znw,Zny,Zn1,Zn5,Zof,Zog,Zos,Zot,Zo3,Zo4,Zo6,Zo7,Zo8,Zo9,Zpb,Zpc,Zpi,Zpo,Zpr,Zpw,Zpz,Zp1,Zp2,Zp9,Zqd,Zqe,Zqf,Zqg,Zqh,Zqi,Zqj,Zqk,Zql,Zqm,Zqn,List.length_append,List.length_drop,eq_self,true_and,and_true,Nat.zero_add,Nat.mul_one,h2,hwd,h3,hqz,hws,hm']
          tactic =>
          refine endA ?_
          rw [← ha]
          sym =>
          simp [Zaa,Zab,Zad,Zae,Zaf,Zag,Zah,Zai,Zak,Zal,Zam,Zan,Zao,Zap,Zaq,Zar,Zav,Zaw,Zax,Zay,Zaz,Za0,Za1,Za2,Za3,Za4,Za5,Za6,Za7,Za8,Za9,Zba,Zbb,Zbd,Zbf,Zbj,Zbt,Zbv,Zb1,Zch,Zcn,Zcv,Zc3,Zc5,Zdc,Zdd,Zde,Zdi,Zev,Zew,Zex,Zez,Ze0,Ze1,Ze2,Ze3,Ze4,Ze5,Ze8,Zfb,Zfc,Zfd,Zfe,Zff,Zfg,Zfh,Zfi,Zfj,Zfl,Zfn,Zfq,Zfr,Zfz,Zf1,Zf3,Zgd,Zgg,Zgr,Zgs,Zgt,Zgu,Zgv,Zgw,Zgx,Zg4,Zg6,Zhn,Zho,Zhs,Zht,Zhu,Zh6,Zh7,Zh9,Zin,Ziu,Ziv,Ziw,Zix,Ziz,Zi0,Zi1,Zi6,Zjb,Zjh,Zji,Zjn,Zjw,Zj7,Zla,Zlb,Zlc,Zld,Zle,Zlf,Zlh,Zlk,Zlm,Zlz,Zmt,Zmv,Zmw,Zmx,Zmz,Zm3,Zm5,Zm6,Zm7,Zm9,Zna,Znb,Zne,Znf,Zng,Znh,Znn,Zno,Znp,Znr,Zns,Znt,Znu,Znw,Zny,Zn1,Zn5,Zof,Zog,Zos,Zot,Zo3,Zo4,Zo6,Zo7,Zo8,Zo9,Zpb,Zpc,Zpi,Zpo,Zpr,Zpw,Zpz,Zp1,Zp2,Zp9,Zqd,Zqe,Zqf,Zqg,Zqh,Zqi,Zqj,Zqk,Zql,Zqm,Zqn,List.length_append,List.length_drop,eq_self,true_and,and_true,Nat.zero_add,Nat.mul_one]
          tactic =>
          rfl
        · rw [if_neg hm] at ha
          have hm' : ¬ IN (out.length + q.length) > (1048576 : Int) := by simp only [IN]; omega
          have hqF := cB_okF q
          have hqc := cB_length q
          sym =>
          simp [Zaa,Zab,Zad,Zae,Zaf,Zag,Zah,Zai,Zak,Zal,Zam,Zan,Zao,Zap,Zaq,Zar,Zav,Zaw,Zax,Zay,Zaz,Za0,Za1,Za2,Za3,Za4,Za5,Za6,Za7,Za8,Za9,Zba,Zbb,Zbd,Zbf,Zbj,Zbt,Zbv,Zb1,Zch,Zcn,Zcv,Zc3,Zc5,Zdc,Zdd,Zde,Zdi,Zev,Zew,Zex,Zez,Ze0,Ze1,Ze2,Ze3,Ze4,Ze5,Ze8,Zfb,Zfc,Zfd,Zfe,Zff,Zfg,Zfh,Zfi,Zfj,Zfl,Zfn,Zfq,Zfr,Zfz,Zf1,Zf3,Zgd,Zgg,Zgr,Zgs,Zgt,Zgu,Zgv,Zgw,Zgx,Zg4,Zg6,Zhn,Zho,Zhs,Zht,Zhu,Zh6,Zh7,Zh9,Zin,Ziu,Ziv,Ziw,Zix,Ziz,Zi0,Zi1,Zi6,Zjb,Zjh,Zji,Zjn,Zjw,Zj7,Zla,Zlb,Zlc,Zld,Zle,Zlf,Zlh,Zlk,Zlm,Zlz,Zmt,Zmv,Zmw,Zmx,Zmz,Zm3,Zm5,Zm6,Zm7,Zm9,Zna,Znb,Zne,Znf,Zng,Znh,Znn,Zno,Znp,Znr,Zns,Znt,Znu,Znw,Zny,Zn1,Zn5,Zof,Zog,Zos,Zot,Zo3,Zo4,Zo6,Zo7,Zo8,Zo9,Zpb,Zpc,Zpi,Zpo,Zpr,Zpw,Zpz,Zp1,Zp2,Zp9,Zqd,Zqe,Zqf,Zqg,Zqh,Zqi,Zqj,Zqk,Zql,Zqm,Zqn,List.length_append,List.length_drop,eq_self,true_and,and_true,Nat.zero_add,Nat.mul_one,h2,hwd,h3,hqz,hws,hm',hw]
          tactic =>
          and_intros <;> try (first | omega | rfl | assumption | simp only [IN]; omega)
          unfold NextL; refine ⟨(k - 1), [(0, 45)], _, by omega, ⟨i + 1, out ++ q, by omega, ha, by rw [List.length_append]; omega, rfl⟩, wkA ?_⟩
          sym =>
          simp [Zaa,Zab,Zad,Zae,Zaf,Zag,Zah,Zai,Zak,Zal,Zam,Zan,Zao,Zap,Zaq,Zar,Zav,Zaw,Zax,Zay,Zaz,Za0,Za1,Za2,Za3,Za4,Za5,Za6,Za7,Za8,Za9,Zba,Zbb,Zbd,Zbf,Zbj,Zbt,Zbv,Zb1,Zch,Zcn,Zcv,Zc3,Zc5,Zdc,Zdd,Zde,Zdi,Zev,Zew,Zex,Zez,Ze0,Ze1,Ze2,Ze3,Ze4,Ze5,Ze8,Zfb,Zfc,Zfd,Zfe,Zff,Zfg,Zfh,Zfi,Zfj,Zfl,Zfn,Zfq,Zfr,Zfz,Zf1,Zf3,Zgd,Zgg,Zgr,Zgs,Zgt,Zgu,Zgv,Zgw,Zgx,Zg4,Zg6,Zhn,Zho,Zhs,Zht,Zhu,Zh6,Zh7,Zh9,Zin,Ziu,Ziv,Ziw,Zix,Ziz,Zi0,Zi1,Zi6,Zjb,Zjh,Zji,Zjn,Zjw,Zj7,Zla,Zlb,Zlc,Zld,Zle,Zlf,Zlh,Zlk,Zlm,Zlz,Zmt,Zmv,Zmw,Zmx,Zmz,Zm3,Zm5,Zm6,Zm7,Zm9,Zna,Znb,Zne,Znf,Zng,Znh,Znn,Zno,Znp,Znr,Zns,Znt,Znu,Znw,Zny,Zn1,Zn5,Zof,Zog,Zos,Zot,Zo3,Zo4,Zo6,Zo7,Zo8,Zo9,Zpb,Zpc,Zpi,Zpo,Zpr,Zpw,Zpz,Zp1,Zp2,Zp9,Zqd,Zqe,Zqf,Zqg,Zqh,Zqi,Zqj,Zqk,Zql,Zqm,Zqn,List.length_append,List.length_drop,eq_self,true_and,and_true,Nat.zero_add,Nat.mul_one,List.length_append]
          tactic =>
          exact cB_rs _ _ _ _ _ (cB_append _ _).symm
      · have hqz : q.length = 0 := by omega
        have hqz2 := eq_true hqz
        rw [if_neg hq] at ha
        obtain ⟨X, hX⟩ : ∃ X, X = (old.drop A).take B := ⟨_, rfl⟩
        have hXl : X.length = B := by rw [hX, List.length_take, List.length_drop]; omega
        have hXc : List.take B (List.drop A (cB old)) = cB X := by rw [hX, cB_take, cB_drop]
        rw [← hX, hXl] at ha
        have hwa : IntKind.i64.wrap (IN (A + B)) = IN (A + B) := by simp only [IN]; rw [w64 _ (by omega)]
        have hws : IntKind.i64.wrap (IN (out.length + B)) = IN (out.length + B) := by simp only [IN]; rw [w64 _ (by omega)]
        have hab : A + B - A = B := by omega
        have hXF := cB_okF X
        have hXcl : (cB X).length = B := by rw [cB_length, hXl]
        by_cases hm : 1048576 < out.length + B
        · rw [if_pos hm] at ha
          have hm' : IN (out.length + B) > (1048576 : Int) := by simp only [IN]; omega
          sym =>
          simp [Zaa,Zab,Zad,Zae,Zaf,Zag,Zah,Zai,Zak,Zal,Zam,Zan,Zao,Zap,Zaq,Zar,Zav,Zaw,Zax,Zay,Zaz,Za0,Za1,Za2,Za3,Za4,Za5,Za6,Za7,Za8,Za9,Zba,Zbb,Zbd,Zbf,Zbj,Zbt,Zbv,Zb1,Zch,Zcn,Zcv,Zc3,Zc5,Zdc,Zdd,Zde,Zdi,Zev,Zew,Zex,Zez,Ze0,Ze1,Ze2,Ze3,Ze4,Ze5,Ze8,Zfb,Zfc,Zfd,Zfe,Zff,Zfg,Zfh,Zfi,Zfj,Zfl,Zfn,Zfq,Zfr,Zfz,Zf1,Zf3,Zgd,Zgg,Zgr,Zgs,Zgt,Zgu,Zgv,Zgw,Zgx,Zg4,Zg6,Zhn,Zho,Zhs,Zht,Zhu,Zh6,Zh7,Zh9,Zin,Ziu,Ziv,Ziw,Zix,Ziz,Zi0,Zi1,Zi6,Zjb,Zjh,Zji,Zjn,Zjw,Zj7,Zla,Zlb,Zlc,Zld,Zle,Zlf,Zlh,Zlk,Zlm,Zlz,Zmt,Zmv,Zmw,Zmx,Zmz,Zm3,Zm5,Zm6,Zm7,Zm9,Zna,Znb,Zne,Znf,Zng,Znh,Znn,Zno,Znp,Znr,Zns,Znt,Znu,Znw,Zny,Zn1,Zn5,Zof,Zog,Zos,Zot,Zo3,Zo4,Zo6,Zo7,Zo8,Zo9,Zpb,Zpc,Zpi,Zpo,Zpr,Zpw,Zpz,Zp1,Zp2,Zp9,Zqd,Zqe,Zqf,Zqg,Zqh,Zqi,Zqj,Zqk,Zql,Zqm,Zqn,List.length_append,List.length_drop,eq_self,true_and,and_true,Nat.zero_add,Nat.mul_one,h2,hwd,h3,hqz2,hwa,hws,hm',hab,hXc]
          tactic =>
          and_intros <;> try (first | omega | rfl | assumption | simp only [IN]; omega)
          refine endA ?_
          rw [← ha]
          sym =>
          simp [Zaa,Zab,Zad,Zae,Zaf,Zag,Zah,Zai,Zak,Zal,Zam,Zan,Zao,Zap,Zaq,Zar,Zav,Zaw,Zax,Zay,Zaz,Za0,Za1,Za2,Za3,Za4,Za5,Za6,Za7,Za8,Za9,Zba,Zbb,Zbd,Zbf,Zbj,Zbt,Zbv,Zb1,Zch,Zcn,Zcv,Zc3,Zc5,Zdc,Zdd,Zde,Zdi,Zev,Zew,Zex,Zez,Ze0,Ze1,Ze2,Ze3,Ze4,Ze5,Ze8,Zfb,Zfc,Zfd,Zfe,Zff,Zfg,Zfh,Zfi,Zfj,Zfl,Zfn,Zfq,Zfr,Zfz,Zf1,Zf3,Zgd,Zgg,Zgr,Zgs,Zgt,Zgu,Zgv,Zgw,Zgx,Zg4,Zg6,Zhn,Zho,Zhs,Zht,Zhu,Zh6,Zh7,Zh9,Zin,Ziu,Ziv,Ziw,Zix,Ziz,Zi0,Zi1,Zi6,Zjb,Zjh,Zji,Zjn,Zjw,Zj7,Zla,Zlb,Zlc,Zld,Zle,Zlf,Zlh,Zlk,Zlm,Zlz,Zmt,Zmv,Zmw,Zmx,Zmz,Zm3,Zm5,Zm6,Zm7,Zm9,Zna,Znb,Zne,Znf,Zng,Znh,Znn,Zno,Znp,Znr,Zns,Znt,Znu,Znw,Zny,Zn1,Zn5,Zof,Zog,Zos,Zot,Zo3,Zo4,Zo6,Zo7,Zo8,Zo9,Zpb,Zpc,Zpi,Zpo,Zpr,Zpw,Zpz,Zp1,Zp2,Zp9,Zqd,Zqe,Zqf,Zqg,Zqh,Zqi,Zqj,Zqk,Zql,Zqm,Zqn,List.length_append,List.length_drop,eq_self,true_and,and_true,Nat.zero_add,Nat.mul_one]
          tactic =>
          rfl
        · rw [if_neg hm] at ha
          have hm' : ¬ IN (out.length + B) > (1048576 : Int) := by simp only [IN]; omega
          sym =>
          simp [Zaa,Zab,Zad,Zae,Zaf,Zag,Zah,Zai,Zak,Zal,Zam,Zan,Zao,Zap,Zaq,Zar,Zav,Zaw,Zax,Zay,Zaz,Za0,Za1,Za2,Za3,Za4,Za5,Za6,Za7,Za8,Za9,Zba,Zbb,Zbd,Zbf,Zbj,Zbt,Zbv,Zb1,Zch,Zcn,Zcv,Zc3,Zc5,Zdc,Zdd,Zde,Zdi,Zev,Zew,Zex,Zez,Ze0,Ze1,Ze2,Ze3,Ze4,Ze5,Ze8,Zfb,Zfc,Zfd,Zfe,Zff,Zfg,Zfh,Zfi,Zfj,Zfl,Zfn,Zfq,Zfr,Zfz,Zf1,Zf3,Zgd,Zgg,Zgr,Zgs,Zgt,Zgu,Zgv,Zgw,Zgx,Zg4,Zg6,Zhn,Zho,Zhs,Zht,Zhu,Zh6,Zh7,Zh9,Zin,Ziu,Ziv,Ziw,Zix,Ziz,Zi0,Zi1,Zi6,Zjb,Zjh,Zji,Zjn,Zjw,Zj7,Zla,Zlb,Zlc,Zld,Zle,Zlf,Zlh,Zlk,Zlm,Zlz,Zmt,Zmv,Zmw,Zmx,Zmz,Zm3,Zm5,Zm6,Zm7,Zm9,Zna,Znb,Zne,Znf,Zng,Znh,Znn,Zno,Znp,Znr,Zns,Znt,Znu,Znw,Zny,Zn1,Zn5,Zof,Zog,Zos,Zot,Zo3,Zo4,Zo6,Zo7,Zo8,Zo9,Zpb,Zpc,Zpi,Zpo,Zpr,Zpw,Zpz,Zp1,Zp2,Zp9,Zqd,Zqe,Zqf,Zqg,Zqh,Zqi,Zqj,Zqk,Zql,Zqm,Zqn,List.length_append,List.length_drop,eq_self,true_and,and_true,Nat.zero_add,Nat.mul_one,h2,hwd,h3,hqz2,hwa,hws,hm',hab,hXc,hw]
          tactic =>
          and_intros <;> try (first | omega | rfl | assumption | simp only [IN]; omega)
          unfold NextL; refine ⟨(k - 1), [(0, 56)], _, by omega, ⟨i + 1, out ++ X, by omega, ha, by rw [List.length_append]; omega, rfl⟩, wkA ?_⟩
          sym =>
          simp [Zaa,Zab,Zad,Zae,Zaf,Zag,Zah,Zai,Zak,Zal,Zam,Zan,Zao,Zap,Zaq,Zar,Zav,Zaw,Zax,Zay,Zaz,Za0,Za1,Za2,Za3,Za4,Za5,Za6,Za7,Za8,Za9,Zba,Zbb,Zbd,Zbf,Zbj,Zbt,Zbv,Zb1,Zch,Zcn,Zcv,Zc3,Zc5,Zdc,Zdd,Zde,Zdi,Zev,Zew,Zex,Zez,Ze0,Ze1,Ze2,Ze3,Ze4,Ze5,Ze8,Zfb,Zfc,Zfd,Zfe,Zff,Zfg,Zfh,Zfi,Zfj,Zfl,Zfn,Zfq,Zfr,Zfz,Zf1,Zf3,Zgd,Zgg,Zgr,Zgs,Zgt,Zgu,Zgv,Zgw,Zgx,Zg4,Zg6,Zhn,Zho,Zhs,Zht,Zhu,Zh6,Zh7,Zh9,Zin,Ziu,Ziv,Ziw,Zix,Ziz,Zi0,Zi1,Zi6,Zjb,Zjh,Zji,Zjn,Zjw,Zj7,Zla,Zlb,Zlc,Zld,Zle,Zlf,Zlh,Zlk,Zlm,Zlz,Zmt,Zmv,Zmw,Zmx,Zmz,Zm3,Zm5,Zm6,Zm7,Zm9,Zna,Znb,Zne,Znf,Zng,Znh,Znn,Zno,Znp,Znr,Zns,Znt,Znu,Znw,Zny,Zn1,Zn5,Zof,Zog,Zos,Zot,Zo3,Zo4,Zo6,Zo7,Zo8,Zo9,Zpb,Zpc,Zpi,Zpo,Zpr,Zpw,Zpz,Zp1,Zp2,Zp9,Zqd,Zqe,Zqf,Zqg,Zqh,Zqi,Zqj,Zqk,Zql,Zqm,Zqn,List.length_append,List.length_drop,eq_self,true_and,and_true,Nat.zero_add,Nat.mul_one,List.length_append,hXl]
          tactic =>
          exact cB_rs _ _ _ _ _ (cB_append _ _).symm
    · rw [if_neg hr] at ha
      have hrf : rightF (a, b, q) = false := by simpa using hr
      rw [hrf] at hrc
      sym =>
      simp [Zaa,Zab,Zad,Zae,Zaf,Zag,Zah,Zai,Zak,Zal,Zam,Zan,Zao,Zap,Zaq,Zar,Zav,Zaw,Zax,Zay,Zaz,Za0,Za1,Za2,Za3,Za4,Za5,Za6,Za7,Za8,Za9,Zba,Zbb,Zbd,Zbf,Zbj,Zbt,Zbv,Zb1,Zch,Zcn,Zcv,Zc3,Zc5,Zdc,Zdd,Zde,Zdi,Zev,Zew,Zex,Zez,Ze0,Ze1,Ze2,Ze3,Ze4,Ze5,Ze8,Zfb,Zfc,Zfd,Zfe,Zff,Zfg,Zfh,Zfi,Zfj,Zfl,Zfn,Zfq,Zfr,Zfz,Zf1,Zf3,Zgd,Zgg,Zgr,Zgs,Zgt,Zgu,Zgv,Zgw,Zgx,Zg4,Zg6,Zhn,Zho,Zhs,Zht,Zhu,Zh6,Zh7,Zh9,Zin,Ziu,Ziv,Ziw,Zix,Ziz,Zi0,Zi1,Zi6,Zjb,Zjh,Zji,Zjn,Zjw,Zj7,Zla,Zlb,Zlc,Zld,Zle,Zlf,Zlh,Zlk,Zlm,Zlz,Zmt,Zmv,Zmw,Zmx,Zmz,Zm3,Zm5,Zm6,Zm7,Zm9,Zna,Znb,Zne,Znf,Zng,Znh,Znn,Zno,Znp,Znr,Zns,Znt,Znu,Znw,Zny,Zn1,Zn5,Zof,Zog,Zos,Zot,Zo3,Zo4,Zo6,Zo7,Zo8,Zo9,Zpb,Zpc,Zpi,Zpo,Zpr,Zpw,Zpz,Zp1,Zp2,Zp9,Zqd,Zqe,Zqf,Zqg,Zqh,Zqi,Zqj,Zqk,Zql,Zqm,Zqn,List.length_append,List.length_drop,eq_self,true_and,and_true,Nat.zero_add,Nat.mul_one,h,hw,g0,g1,g2,callable_62]
      tactic =>
      and_intros <;> try (first | omega | rfl | assumption | simp only [IN]; omega)
      refine cl none (hrc) trivial ?_
      sym =>
      simp [Zaa,Zab,Zad,Zae,Zaf,Zag,Zah,Zai,Zak,Zal,Zam,Zan,Zao,Zap,Zaq,Zar,Zav,Zaw,Zax,Zay,Zaz,Za0,Za1,Za2,Za3,Za4,Za5,Za6,Za7,Za8,Za9,Zba,Zbb,Zbd,Zbf,Zbj,Zbt,Zbv,Zb1,Zch,Zcn,Zcv,Zc3,Zc5,Zdc,Zdd,Zde,Zdi,Zev,Zew,Zex,Zez,Ze0,Ze1,Ze2,Ze3,Ze4,Ze5,Ze8,Zfb,Zfc,Zfd,Zfe,Zff,Zfg,Zfh,Zfi,Zfj,Zfl,Zfn,Zfq,Zfr,Zfz,Zf1,Zf3,Zgd,Zgg,Zgr,Zgs,Zgt,Zgu,Zgv,Zgw,Zgx,Zg4,Zg6,Zhn,Zho,Zhs,Zht,Zhu,Zh6,Zh7,Zh9,Zin,Ziu,Ziv,Ziw,Zix,Ziz,Zi0,Zi1,Zi6,Zjb,Zjh,Zji,Zjn,Zjw,Zj7,Zla,Zlb,Zlc,Zld,Zle,Zlf,Zlh,Zlk,Zlm,Zlz,Zmt,Zmv,Zmw,Zmx,Zmz,Zm3,Zm5,Zm6,Zm7,Zm9,Zna,Znb,Zne,Znf,Zng,Znh,Znn,Zno,Znp,Znr,Zns,Znt,Znu,Znw,Zny,Zn1,Zn5,Zof,Zog,Zos,Zot,Zo3,Zo4,Zo6,Zo7,Zo8,Zo9,Zpb,Zpc,Zpi,Zpo,Zpr,Zpw,Zpz,Zp1,Zp2,Zp9,Zqd,Zqe,Zqf,Zqg,Zqh,Zqi,Zqj,Zqk,Zql,Zqm,Zqn,List.length_append,List.length_drop,eq_self,true_and,and_true,Nat.zero_add,Nat.mul_one]
      tactic =>
      refine endA ?_
      rw [← ha]
      sym =>
      simp [Zaa,Zab,Zad,Zae,Zaf,Zag,Zah,Zai,Zak,Zal,Zam,Zan,Zao,Zap,Zaq,Zar,Zav,Zaw,Zax,Zay,Zaz,Za0,Za1,Za2,Za3,Za4,Za5,Za6,Za7,Za8,Za9,Zba,Zbb,Zbd,Zbf,Zbj,Zbt,Zbv,Zb1,Zch,Zcn,Zcv,Zc3,Zc5,Zdc,Zdd,Zde,Zdi,Zev,Zew,Zex,Zez,Ze0,Ze1,Ze2,Ze3,Ze4,Ze5,Ze8,Zfb,Zfc,Zfd,Zfe,Zff,Zfg,Zfh,Zfi,Zfj,Zfl,Zfn,Zfq,Zfr,Zfz,Zf1,Zf3,Zgd,Zgg,Zgr,Zgs,Zgt,Zgu,Zgv,Zgw,Zgx,Zg4,Zg6,Zhn,Zho,Zhs,Zht,Zhu,Zh6,Zh7,Zh9,Zin,Ziu,Ziv,Ziw,Zix,Ziz,Zi0,Zi1,Zi6,Zjb,Zjh,Zji,Zjn,Zjw,Zj7,Zla,Zlb,Zlc,Zld,Zle,Zlf,Zlh,Zlk,Zlm,Zlz,Zmt,Zmv,Zmw,Zmx,Zmz,Zm3,Zm5,Zm6,Zm7,Zm9,Zna,Znb,Zne,Znf,Zng,Znh,Znn,Zno,Znp,Znr,Zns,Znt,Znu,Znw,Zny,Zn1,Zn5,Zof,Zog,Zos,Zot,Zo3,Zo4,Zo6,Zo7,Zo8,Zo9,Zpb,Zpc,Zpi,Zpo,Zpr,Zpw,Zpz,Zp1,Zp2,Zp9,Zqd,Zqe,Zqf,Zqg,Zqh,Zqi,Zqj,Zqk,Zql,Zqm,Zqn,List.length_append,List.length_drop,eq_self,true_and,and_true,Nat.zero_add,Nat.mul_one]
      tactic =>
      rfl
  · rw [List.drop_of_length_le (by omega)] at ha
    simp only [apF] at ha
    sym =>
    simp [Zaa,Zab,Zad,Zae,Zaf,Zag,Zah,Zai,Zak,Zal,Zam,Zan,Zao,Zap,Zaq,Zar,Zav,Zaw,Zax,Zay,Zaz,Za0,Za1,Za2,Za3,Za4,Za5,Za6,Za7,Za8,Za9,Zba,Zbb,Zbd,Zbf,Zbj,Zbt,Zbv,Zb1,Zch,Zcn,Zcv,Zc3,Zc5,Zdc,Zdd,Zde,Zdi,Zev,Zew,Zex,Zez,Ze0,Ze1,Ze2,Ze3,Ze4,Ze5,Ze8,Zfb,Zfc,Zfd,Zfe,Zff,Zfg,Zfh,Zfi,Zfj,Zfl,Zfn,Zfq,Zfr,Zfz,Zf1,Zf3,Zgd,Zgg,Zgr,Zgs,Zgt,Zgu,Zgv,Zgw,Zgx,Zg4,Zg6,Zhn,Zho,Zhs,Zht,Zhu,Zh6,Zh7,Zh9,Zin,Ziu,Ziv,Ziw,Zix,Ziz,Zi0,Zi1,Zi6,Zjb,Zjh,Zji,Zjn,Zjw,Zj7,Zla,Zlb,Zlc,Zld,Zle,Zlf,Zlh,Zlk,Zlm,Zlz,Zmt,Zmv,Zmw,Zmx,Zmz,Zm3,Zm5,Zm6,Zm7,Zm9,Zna,Znb,Zne,Znf,Zng,Znh,Znn,Zno,Znp,Znr,Zns,Znt,Znu,Znw,Zny,Zn1,Zn5,Zof,Zog,Zos,Zot,Zo3,Zo4,Zo6,Zo7,Zo8,Zo9,Zpb,Zpc,Zpi,Zpo,Zpr,Zpw,Zpz,Zp1,Zp2,Zp9,Zqd,Zqe,Zqf,Zqg,Zqh,Zqi,Zqj,Zqk,Zql,Zqm,Zqn,List.length_append,List.length_drop,eq_self,true_and,and_true,Nat.zero_add,Nat.mul_one,h]
    tactic =>
    refine endA ?_
    rw [← ha]
    sym =>
    simp [Zaa,Zab,Zad,Zae,Zaf,Zag,Zah,Zai,Zak,Zal,Zam,Zan,Zao,Zap,Zaq,Zar,Zav,Zaw,Zax,Zay,Zaz,Za0,Za1,Za2,Za3,Za4,Za5,Za6,Za7,Za8,Za9,Zba,Zbb,Zbd,Zbf,Zbj,Zbt,Zbv,Zb1,Zch,Zcn,Zcv,Zc3,Zc5,Zdc,Zdd,Zde,Zdi,Zev,Zew,Zex,Zez,Ze0,Ze1,Ze2,Ze3,Ze4,Ze5,Ze8,Zfb,Zfc,Zfd,Zfe,Zff,Zfg,Zfh,Zfi,Zfj,Zfl,Zfn,Zfq,Zfr,Zfz,Zf1,Zf3,Zgd,Zgg,Zgr,Zgs,Zgt,Zgu,Zgv,Zgw,Zgx,Zg4,Zg6,Zhn,Zho,Zhs,Zht,Zhu,Zh6,Zh7,Zh9,Zin,Ziu,Ziv,Ziw,Zix,Ziz,Zi0,Zi1,Zi6,Zjb,Zjh,Zji,Zjn,Zjw,Zj7,Zla,Zlb,Zlc,Zld,Zle,Zlf,Zlh,Zlk,Zlm,Zlz,Zmt,Zmv,Zmw,Zmx,Zmz,Zm3,Zm5,Zm6,Zm7,Zm9,Zna,Znb,Zne,Znf,Zng,Znh,Znn,Zno,Znp,Znr,Zns,Znt,Znu,Znw,Zny,Zn1,Zn5,Zof,Zog,Zos,Zot,Zo3,Zo4,Zo6,Zo7,Zo8,Zo9,Zpb,Zpc,Zpi,Zpo,Zpr,Zpw,Zpz,Zp1,Zp2,Zp9,Zqd,Zqe,Zqf,Zqg,Zqh,Zqi,Zqj,Zqk,Zql,Zqm,Zqn,List.length_append,List.length_drop,eq_self,true_and,and_true,Nat.zero_add,Nat.mul_one]
    tactic =>
    exact ⟨(cB_all out).symm, by rw [cB_length]; exact Nat.le_refl _, cB_okI out⟩
end Go.Proofs.Ytdjjibmjinllnaa.DelD
