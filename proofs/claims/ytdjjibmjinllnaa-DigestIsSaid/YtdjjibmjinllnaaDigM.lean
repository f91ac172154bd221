import Derived.Test.YtdjjibmjinllnaaCodB
import Derived.Test.YtdjjibmjinllnaaDigC
namespace Go.Proofs.Ytdjjibmjinllnaa.DigM
open Go Go.Sim Go.Sim.E Go.RowKit Go.Proofs Go.Proofs.Ytdjjibmjinllnaa.Cod Go.Proofs.Ytdjjibmjinllnaa.Tab Go.Proofs.Ytdjjibmjinllnaa.DigA Go.Proofs.Ytdjjibmjinllnaa.DigB Go.Proofs.Ytdjjibmjinllnaa.DigC
set_option linter.unusedVariables false
set_option linter.unusedSimpArgs false
set_option maxRecDepth 100000
set_option maxHeartbeats 4000000
def cI (l : List Int) : List AV := l.map fun n => .sc (.int .i64 n)
theorem cI_length (l : List Int) : (cI l).length = l.length := by simp [cI]
theorem cI_get (l : List Int) (i : Nat) (h : i < l.length) : (cI l).getD i .un = I (l.getD i 0) := by simp [cI, List.getD_eq_getElem?_getD, List.getElem?_eq_getElem h]
theorem cI_okI (l : List Int) : okI (cI l) := okI_map _ (fun _ => rfl) _
theorem cI_okF (l : List Int) : okF (cI l) := by
  intro x hx
  obtain ⟨a, _, rfl⟩ := List.mem_map.1 hx
  rfl
theorem cI_append (a b : List Int) : cI (a ++ b) = cI a ++ cI b := by simp [cI]
theorem cI_rs (P Q R) (l : List Int) (c : List AV) (h : c = cI l) : rv1s P Q R c (cI l) := by subst h; exact rs_self (cI_okI _)
def noDiv (n : Int) (l : List Int) : Bool := l.all fun q => !decide (n.tmod q = 0)
def prs : Nat → List Int
  | 0 => []
  | j + 1 => if noDiv (2 + (j : Int)) (prs j) = true then prs j ++ [2 + (j : Int)] else prs j
theorem prs_pos : ∀ j, ∀ q ∈ prs j, q ≠ 0
  | 0, q, h => by simp [prs] at h
  | j + 1, q, h => by
    rw [prs] at h
    split at h
    · rcases List.mem_append.1 h with h | h
      · exact prs_pos j q h
      · simp at h; omega
    · exact prs_pos j q h
theorem prs_len : ∀ j, (prs j).length ≤ j
  | 0 => Nat.le_refl _
  | j + 1 => by
    have := prs_len j
    rw [prs]
    split
    · simp; omega
    · omega
def i40 (k : Nat) (s : St) : Prop := ∃ j : Nat, j ≤ 310 ∧ j + k = 398 ∧ s = ⟨[(0, I (IN 64)), (3, .lv 0 0 (prs j).length), (4, I (2 + (j : Int)))], [(0, ⟨cI (prs j), 1, 0⟩)], 1⟩
def j40 (n : Int) (l : List Int) (k : Nat) (s : St) : Prop := ∃ i : Nat, i + k = l.length ∧ s = ⟨[(0, I (IN 64)), (3, .lv 0 0 l.length), (4, I n), (5, Bo (noDiv n (l.take i))), (6, I (IN i))], [(0, ⟨cI l, 1, 0⟩)], 1⟩
theorem prs_310 : (prs 310).length = 64 := by decide +kernel
theorem prs_309 : (prs 309).length = 63 := by decide +kernel
theorem prs_mono : ∀ (d j : Nat), (prs j).length ≤ (prs (j + d)).length
  | 0, j => Nat.le_refl _
  | d + 1, j => by
    refine Nat.le_trans (prs_mono d j) ?_
    rw [← Nat.add_assoc, prs]
    split
    · simp
    · exact Nat.le_refl _
theorem noDiv_step (n : Int) (l : List Int) (i : Nat) (h : i < l.length) : noDiv n (l.take (i + 1)) = (noDiv n (l.take i) && !decide (n.tmod (l.getD i 0) = 0)) := by
  unfold noDiv
  rw [List.take_add_one, List.getElem?_eq_getElem h, List.all_append, List.getD_eq_getElem?_getD, List.getElem?_eq_getElem h]
  simp
theorem primes_con : Con Try.prog 40 [] [I 64] [] (.fz 64 (cI (prs 310))) := by
  show Con Try.prog 40 [] [I (IN 64)] [] (.fz 64 (cI (prs 310)))
  refine con_j b40 rfl ?_
  sym =>
  simp [Zaa,Zab,Zad,Zae,Zaf,Zag,Zah,Zai,Zak,Zal,Zam,Zan,Zap,Zaq,Zav,Zaw,Zay,Zaz,Za0,Za1,Za2,Za3,Za4,Za5,Za6,Za7,Za8,Za9,Zba,Zbb,Zbd,Zbf,Zbt,Zb1,Zcn,Zcz,Zc5,Zev,Zew,Zex,Zez,Ze0,Ze2,Ze3,Ze4,Ze5,Ze8,Zfb,Zfc,Zfd,Zfe,Zff,Zfg,Zfh,Zfi,Zfk,Zfl,Zfn,Zfq,Zfu,Zf0,Zf1,Zgr,Zgs,Zgt,Zgv,Zg4,Zg5,Zhf,Zhg,Zhh,Zho,Zh6,Zh9,Ziq,Zir,Zix,Ziz,Zi0,Zi2,Zi3,Zi7,Zjj,Zjk,Zjo,Zmt,Zmv,Zmw,Zmx,Zmz,Zm2,Zm6,Zna,Znb,Znh,Znl,Znm,Znn,Zno,Znp,Znr,Zns,Znt,Znw,Zn5,Zos,Zot,Zow,Zo7,Zo8,Zo9,Zpc,Zpo,Zpr,Zp0,Zp1,Zp2,Zqf,Zqg,Zqh,Zqi,Zqj,Zqk,Zql,Zqm,Zqn,Zqr,Zqs,List.length_append,eq_self,true_and,and_true,Nat.zero_add,Nat.mul_one,Bool.true_and,Bool.false_and]
  tactic =>
  refine lpA i40 398 [] _ ⟨0, by omega, by omega, rfl⟩ (wkA ?_) ?_
  · sym =>
    simp [Zaa,Zab,Zad,Zae,Zaf,Zag,Zah,Zai,Zak,Zal,Zam,Zan,Zap,Zaq,Zav,Zaw,Zay,Zaz,Za0,Za1,Za2,Za3,Za4,Za5,Za6,Za7,Za8,Za9,Zba,Zbb,Zbd,Zbf,Zbt,Zb1,Zcn,Zcz,Zc5,Zev,Zew,Zex,Zez,Ze0,Ze2,Ze3,Ze4,Ze5,Ze8,Zfb,Zfc,Zfd,Zfe,Zff,Zfg,Zfh,Zfi,Zfk,Zfl,Zfn,Zfq,Zfu,Zf0,Zf1,Zgr,Zgs,Zgt,Zgv,Zg4,Zg5,Zhf,Zhg,Zhh,Zho,Zh6,Zh9,Ziq,Zir,Zix,Ziz,Zi0,Zi2,Zi3,Zi7,Zjj,Zjk,Zjo,Zmt,Zmv,Zmw,Zmx,Zmz,Zm2,Zm6,Zna,Znb,Znh,Znl,Znm,Znn,Zno,Znp,Znr,Zns,Znt,Znw,Zn5,Zos,Zot,Zow,Zo7,Zo8,Zo9,Zpc,Zpo,Zpr,Zp0,Zp1,Zp2,Zqf,Zqg,Zqh,Zqi,Zqj,Zqk,Zql,Zqm,Zqn,Zqr,Zqs,List.length_append,eq_self,true_and,and_true,Nat.zero_add,Nat.mul_one,Bool.true_and,Bool.false_and]
    tactic =>
    exact ⟨⟨rfl, rfl⟩, rfl⟩
  rintro k s ⟨j, hj3, hj, rfl⟩
  have hstep : prs (j + 1) = if noDiv (2 + (j : Int)) (prs j) = true then prs j ++ [2 + (j : Int)] else prs j := rfl
  have hpos := prs_pos j
  have hlen := prs_len j
  have hm := prs_mono (310 - j) j
  rw [show j + (310 - j) = 310 from by omega, prs_310] at hm
  by_cases h : (prs j).length < 64
  · have hj2 : j < 310 := by
      rcases Nat.lt_or_ge j 310 with h2 | h2
      · exact h2
      · have e : j = 310 := by omega
        rw [e, prs_310] at h; omega
    obtain ⟨l, hl⟩ : ∃ l, l = prs j := ⟨_, rfl⟩
    rw [← hl] at hstep hpos hlen hm h ⊢
    have h4 : 2 + (j : Int) < 400 := by omega
    have h5 : IN l.length < IN 64 := by simp only [IN]; omega
    have hw : IntKind.i64.wrap (2 + (j : Int) + 1) = 2 + ((j + 1 : Nat) : Int) := by rw [w64 _ (by omega)]; omega
    obtain ⟨n, hn⟩ : ∃ n : Int, n = 2 + (j : Int) := ⟨_, rfl⟩
    rw [← hn] at hstep h4 hw ⊢
    sym =>
    simp [Zaa,Zab,Zad,Zae,Zaf,Zag,Zah,Zai,Zak,Zal,Zam,Zan,Zap,Zaq,Zav,Zaw,Zay,Zaz,Za0,Za1,Za2,Za3,Za4,Za5,Za6,Za7,Za8,Za9,Zba,Zbb,Zbd,Zbf,Zbt,Zb1,Zcn,Zcz,Zc5,Zev,Zew,Zex,Zez,Ze0,Ze2,Ze3,Ze4,Ze5,Ze8,Zfb,Zfc,Zfd,Zfe,Zff,Zfg,Zfh,Zfi,Zfk,Zfl,Zfn,Zfq,Zfu,Zf0,Zf1,Zgr,Zgs,Zgt,Zgv,Zg4,Zg5,Zhf,Zhg,Zhh,Zho,Zh6,Zh9,Ziq,Zir,Zix,Ziz,Zi0,Zi2,Zi3,Zi7,Zjj,Zjk,Zjo,Zmt,Zmv,Zmw,Zmx,Zmz,Zm2,Zm6,Zna,Znb,Znh,Znl,Znm,Znn,Zno,Znp,Znr,Zns,Znt,Znw,Zn5,Zos,Zot,Zow,Zo7,Zo8,Zo9,Zpc,Zpo,Zpr,Zp0,Zp1,Zp2,Zqf,Zqg,Zqh,Zqi,Zqj,Zqk,Zql,Zqm,Zqn,Zqr,Zqs,List.length_append,eq_self,true_and,and_true,Nat.zero_add,Nat.mul_one,Bool.true_and,Bool.false_and,h,h4,h5]
    tactic =>
    refine lpA (j40 n l) l.length [(0, 0)] _ ⟨0, by omega, rfl⟩ (wkA ?_) ?_
    · sym =>
      simp [Zaa,Zab,Zad,Zae,Zaf,Zag,Zah,Zai,Zak,Zal,Zam,Zan,Zap,Zaq,Zav,Zaw,Zay,Zaz,Za0,Za1,Za2,Za3,Za4,Za5,Za6,Za7,Za8,Za9,Zba,Zbb,Zbd,Zbf,Zbt,Zb1,Zcn,Zcz,Zc5,Zev,Zew,Zex,Zez,Ze0,Ze2,Ze3,Ze4,Ze5,Ze8,Zfb,Zfc,Zfd,Zfe,Zff,Zfg,Zfh,Zfi,Zfk,Zfl,Zfn,Zfq,Zfu,Zf0,Zf1,Zgr,Zgs,Zgt,Zgv,Zg4,Zg5,Zhf,Zhg,Zhh,Zho,Zh6,Zh9,Ziq,Zir,Zix,Ziz,Zi0,Zi2,Zi3,Zi7,Zjj,Zjk,Zjo,Zmt,Zmv,Zmw,Zmx,Zmz,Zm2,Zm6,Zna,Znb,Znh,Znl,Znm,Znn,Zno,Znp,Znr,Zns,Znt,Znw,Zn5,Zos,Zot,Zow,Zo7,Zo8,Zo9,Zpc,Zpo,Zpr,Zp0,Zp1,Zp2,Zqf,Zqg,Zqh,Zqi,Zqj,Zqk,Zql,Zqm,Zqn,Zqr,Zqs,List.length_append,eq_self,true_and,and_true,Nat.zero_add,Nat.mul_one,Bool.true_and,Bool.false_and]
      tactic =>
      exact ⟨rfl, rs_self (cI_okI l)⟩
    rintro k2 s ⟨i, hi, rfl⟩
    by_cases h2 : i < l.length
    · have hw2 := w64s i (by omega)
      have hg := cI_get l i h2
      have hq : l.getD i 0 ≠ 0 := by
        rw [List.getD_eq_getElem?_getD, List.getElem?_eq_getElem h2]
        exact hpos _ (List.getElem_mem h2)
      have hnd := noDiv_step n l i h2
      rcases hb : noDiv n (l.take i) with _ | _
      · rw [hb] at hnd
        sym =>
        simp [Zaa,Zab,Zad,Zae,Zaf,Zag,Zah,Zai,Zak,Zal,Zam,Zan,Zap,Zaq,Zav,Zaw,Zay,Zaz,Za0,Za1,Za2,Za3,Za4,Za5,Za6,Za7,Za8,Za9,Zba,Zbb,Zbd,Zbf,Zbt,Zb1,Zcn,Zcz,Zc5,Zev,Zew,Zex,Zez,Ze0,Ze2,Ze3,Ze4,Ze5,Ze8,Zfb,Zfc,Zfd,Zfe,Zff,Zfg,Zfh,Zfi,Zfk,Zfl,Zfn,Zfq,Zfu,Zf0,Zf1,Zgr,Zgs,Zgt,Zgv,Zg4,Zg5,Zhf,Zhg,Zhh,Zho,Zh6,Zh9,Ziq,Zir,Zix,Ziz,Zi0,Zi2,Zi3,Zi7,Zjj,Zjk,Zjo,Zmt,Zmv,Zmw,Zmx,Zmz,Zm2,Zm6,Zna,Znb,Znh,Znl,Znm,Znn,Zno,Znp,Znr,Zns,Znt,Znw,Zn5,Zos,Zot,Zow,Zo7,Zo8,Zo9,Zpc,Zpo,Zpr,Zp0,Zp1,Zp2,Zqf,Zqg,Zqh,Zqi,Zqj,Zqk,Zql,Zqm,Zqn,Zqr,Zqs,List.length_append,eq_self,true_and,and_true,Nat.zero_add,Nat.mul_one,Bool.true_and,Bool.false_and,h2,hw2]
        tactic =>
        unfold NextL; refine ⟨(k2 - 1), [(0, 0)], _, by omega, ⟨i + 1, by omega, rfl⟩, wkA ?_⟩
        rw [hnd]
        sym =>
        simp [Zaa,Zab,Zad,Zae,Zaf,Zag,Zah,Zai,Zak,Zal,Zam,Zan,Zap,Zaq,Zav,Zaw,Zay,Zaz,Za0,Za1,Za2,Za3,Za4,Za5,Za6,Za7,Za8,Za9,Zba,Zbb,Zbd,Zbf,Zbt,Zb1,Zcn,Zcz,Zc5,Zev,Zew,Zex,Zez,Ze0,Ze2,Ze3,Ze4,Ze5,Ze8,Zfb,Zfc,Zfd,Zfe,Zff,Zfg,Zfh,Zfi,Zfk,Zfl,Zfn,Zfq,Zfu,Zf0,Zf1,Zgr,Zgs,Zgt,Zgv,Zg4,Zg5,Zhf,Zhg,Zhh,Zho,Zh6,Zh9,Ziq,Zir,Zix,Ziz,Zi0,Zi2,Zi3,Zi7,Zjj,Zjk,Zjo,Zmt,Zmv,Zmw,Zmx,Zmz,Zm2,Zm6,Zna,Znb,Znh,Znl,Znm,Znn,Zno,Znp,Znr,Zns,Znt,Znw,Zn5,Zos,Zot,Zow,Zo7,Zo8,Zo9,Zpc,Zpo,Zpr,Zp0,Zp1,Zp2,Zqf,Zqg,Zqh,Zqi,Zqj,Zqk,Zql,Zqm,Zqn,Zqr,Zqs,List.length_append,eq_self,true_and,and_true,Nat.zero_add,Nat.mul_one,Bool.true_and,Bool.false_and]
        tactic =>
        exact rs_self (cI_okI l)
      · rw [hb] at hnd
        sym =>
        simp [Zaa,Zab,Zad,Zae,Zaf,Zag,Zah,Zai,Zak,Zal,Zam,Zan,Zap,Zaq,Zav,Zaw,Zay,Zaz,Za0,Za1,Za2,Za3,Za4,Za5,Za6,Za7,Za8,Za9,Zba,Zbb,Zbd,Zbf,Zbt,Zb1,Zcn,Zcz,Zc5,Zev,Zew,Zex,Zez,Ze0,Ze2,Ze3,Ze4,Ze5,Ze8,Zfb,Zfc,Zfd,Zfe,Zff,Zfg,Zfh,Zfi,Zfk,Zfl,Zfn,Zfq,Zfu,Zf0,Zf1,Zgr,Zgs,Zgt,Zgv,Zg4,Zg5,Zhf,Zhg,Zhh,Zho,Zh6,Zh9,Ziq,Zir,Zix,Ziz,Zi0,Zi2,Zi3,Zi7,Zjj,Zjk,Zjo,Zmt,Zmv,Zmw,Zmx,Zmz,Zm2,Zm6,Zna,Znb,Znh,Znl,Znm,Znn,Zno,Znp,Znr,Zns,Znt,Znw,Zn5,Zos,Zot,Zow,Zo7,Zo8,Zo9,Zpc,Zpo,Zpr,Zp0,Zp1,Zp2,Zqf,Zqg,Zqh,Zqi,Zqj,Zqk,Zql,Zqm,Zqn,Zqr,Zqs,List.length_append,eq_self,true_and,and_true,Nat.zero_add,Nat.mul_one,Bool.true_and,Bool.false_and,h2,hw2,hg,cI_length]
        tactic =>
        refine ⟨by omega, hq, ?_⟩
        unfold NextL; refine ⟨(k2 - 1), [(0, 0)], _, by omega, ⟨i + 1, by omega, rfl⟩, wkA ?_⟩
        rw [hnd]
        sym =>
        simp [Zaa,Zab,Zad,Zae,Zaf,Zag,Zah,Zai,Zak,Zal,Zam,Zan,Zap,Zaq,Zav,Zaw,Zay,Zaz,Za0,Za1,Za2,Za3,Za4,Za5,Za6,Za7,Za8,Za9,Zba,Zbb,Zbd,Zbf,Zbt,Zb1,Zcn,Zcz,Zc5,Zev,Zew,Zex,Zez,Ze0,Ze2,Ze3,Ze4,Ze5,Ze8,Zfb,Zfc,Zfd,Zfe,Zff,Zfg,Zfh,Zfi,Zfk,Zfl,Zfn,Zfq,Zfu,Zf0,Zf1,Zgr,Zgs,Zgt,Zgv,Zg4,Zg5,Zhf,Zhg,Zhh,Zho,Zh6,Zh9,Ziq,Zir,Zix,Ziz,Zi0,Zi2,Zi3,Zi7,Zjj,Zjk,Zjo,Zmt,Zmv,Zmw,Zmx,Zmz,Zm2,Zm6,Zna,Znb,Znh,Znl,Znm,Znn,Zno,Znp,Znr,Zns,Znt,Znw,Zn5,Zos,Zot,Zow,Zo7,Zo8,Zo9,Zpc,Zpo,Zpr,Zp0,Zp1,Zp2,Zqf,Zqg,Zqh,Zqi,Zqj,Zqk,Zql,Zqm,Zqn,Zqr,Zqs,List.length_append,eq_self,true_and,and_true,Nat.zero_add,Nat.mul_one,Bool.true_and,Bool.false_and]
        tactic =>
        exact rs_self (cI_okI l)
    · have e : l.take i = l := List.take_of_length_le (by omega)
      rw [e]
      rcases hb : noDiv n l with _ | _
      · rw [hb] at hstep
        sym =>
        simp [Zaa,Zab,Zad,Zae,Zaf,Zag,Zah,Zai,Zak,Zal,Zam,Zan,Zap,Zaq,Zav,Zaw,Zay,Zaz,Za0,Za1,Za2,Za3,Za4,Za5,Za6,Za7,Za8,Za9,Zba,Zbb,Zbd,Zbf,Zbt,Zb1,Zcn,Zcz,Zc5,Zev,Zew,Zex,Zez,Ze0,Ze2,Ze3,Ze4,Ze5,Ze8,Zfb,Zfc,Zfd,Zfe,Zff,Zfg,Zfh,Zfi,Zfk,Zfl,Zfn,Zfq,Zfu,Zf0,Zf1,Zgr,Zgs,Zgt,Zgv,Zg4,Zg5,Zhf,Zhg,Zhh,Zho,Zh6,Zh9,Ziq,Zir,Zix,Ziz,Zi0,Zi2,Zi3,Zi7,Zjj,Zjk,Zjo,Zmt,Zmv,Zmw,Zmx,Zmz,Zm2,Zm6,Zna,Znb,Znh,Znl,Znm,Znn,Zno,Znp,Znr,Zns,Znt,Znw,Zn5,Zos,Zot,Zow,Zo7,Zo8,Zo9,Zpc,Zpo,Zpr,Zp0,Zp1,Zp2,Zqf,Zqg,Zqh,Zqi,Zqj,Zqk,Zql,Zqm,Zqn,Zqr,Zqs,List.length_append,eq_self,true_and,and_true,Nat.zero_add,Nat.mul_one,Bool.true_and,Bool.false_and,h2,hw]
        tactic =>
        unfold NextL; refine ⟨(k - 1), [(0, 0)], _, by omega, ⟨j + 1, by omega, by omega, rfl⟩, wkA ?_⟩
        rw [hstep]
        simp only [Bool.false_eq_true, if_false]
        sym =>
        simp [Zaa,Zab,Zad,Zae,Zaf,Zag,Zah,Zai,Zak,Zal,Zam,Zan,Zap,Zaq,Zav,Zaw,Zay,Zaz,Za0,Za1,Za2,Za3,Za4,Za5,Za6,Za7,Za8,Za9,Zba,Zbb,Zbd,Zbf,Zbt,Zb1,Zcn,Zcz,Zc5,Zev,Zew,Zex,Zez,Ze0,Ze2,Ze3,Ze4,Ze5,Ze8,Zfb,Zfc,Zfd,Zfe,Zff,Zfg,Zfh,Zfi,Zfk,Zfl,Zfn,Zfq,Zfu,Zf0,Zf1,Zgr,Zgs,Zgt,Zgv,Zg4,Zg5,Zhf,Zhg,Zhh,Zho,Zh6,Zh9,Ziq,Zir,Zix,Ziz,Zi0,Zi2,Zi3,Zi7,Zjj,Zjk,Zjo,Zmt,Zmv,Zmw,Zmx,Zmz,Zm2,Zm6,Zna,Znb,Znh,Znl,Znm,Znn,Zno,Znp,Znr,Zns,Znt,Znw,Zn5,Zos,Zot,Zow,Zo7,Zo8,Zo9,Zpc,Zpo,Zpr,Zp0,Zp1,Zp2,Zqf,Zqg,Zqh,Zqi,Zqj,Zqk,Zql,Zqm,Zqn,Zqr,Zqs,List.length_append,eq_self,true_and,and_true,Nat.zero_add,Nat.mul_one,Bool.true_and,Bool.false_and]
        tactic =>
        exact rs_self (cI_okI l)
      · rw [hb] at hstep
        sym =>
        simp [Zaa,Zab,Zad,Zae,Zaf,Zag,Zah,Zai,Zak,Zal,Zam,Zan,Zap,Zaq,Zav,Zaw,Zay,Zaz,Za0,Za1,Za2,Za3,Za4,Za5,Za6,Za7,Za8,Za9,Zba,Zbb,Zbd,Zbf,Zbt,Zb1,Zcn,Zcz,Zc5,Zev,Zew,Zex,Zez,Ze0,Ze2,Ze3,Ze4,Ze5,Ze8,Zfb,Zfc,Zfd,Zfe,Zff,Zfg,Zfh,Zfi,Zfk,Zfl,Zfn,Zfq,Zfu,Zf0,Zf1,Zgr,Zgs,Zgt,Zgv,Zg4,Zg5,Zhf,Zhg,Zhh,Zho,Zh6,Zh9,Ziq,Zir,Zix,Ziz,Zi0,Zi2,Zi3,Zi7,Zjj,Zjk,Zjo,Zmt,Zmv,Zmw,Zmx,Zmz,Zm2,Zm6,Zna,Znb,Znh,Znl,Znm,Znn,Zno,Znp,Znr,Zns,Znt,Znw,Zn5,Zos,Zot,Zow,Zo7,Zo8,Zo9,Zpc,Zpo,Zpr,Zp0,Zp1,Zp2,Zqf,Zqg,Zqh,Zqi,Zqj,Zqk,Zql,Zqm,Zqn,Zqr,Zqs,List.length_append,eq_self,true_and,and_true,Nat.zero_add,Nat.mul_one,Bool.true_and,Bool.false_and,h2,hw,cI_length]
        tactic =>
        refine ⟨⟨by omega, by omega, by omega⟩, ?_⟩
        unfold NextL; refine ⟨(k - 1), [(0, 9)], _, by omega, ⟨j + 1, by omega, by omega, rfl⟩, wkA ?_⟩
        rw [hstep]
        simp only [if_true]
        sym =>
        simp [Zaa,Zab,Zad,Zae,Zaf,Zag,Zah,Zai,Zak,Zal,Zam,Zan,Zap,Zaq,Zav,Zaw,Zay,Zaz,Za0,Za1,Za2,Za3,Za4,Za5,Za6,Za7,Za8,Za9,Zba,Zbb,Zbd,Zbf,Zbt,Zb1,Zcn,Zcz,Zc5,Zev,Zew,Zex,Zez,Ze0,Ze2,Ze3,Ze4,Ze5,Ze8,Zfb,Zfc,Zfd,Zfe,Zff,Zfg,Zfh,Zfi,Zfk,Zfl,Zfn,Zfq,Zfu,Zf0,Zf1,Zgr,Zgs,Zgt,Zgv,Zg4,Zg5,Zhf,Zhg,Zhh,Zho,Zh6,Zh9,Ziq,Zir,Zix,Ziz,Zi0,Zi2,Zi3,Zi7,Zjj,Zjk,Zjo,Zmt,Zmv,Zmw,Zmx,Zmz,Zm2,Zm6,Zna,Znb,Znh,Znl,Znm,Znn,Zno,Znp,Znr,Zns,Znt,Znw,Zn5,Zos,Zot,Zow,Zo7,Zo8,Zo9,Zpc,Zpo,Zpr,Zp0,Zp1,Zp2,Zqf,Zqg,Zqh,Zqi,Zqj,Zqk,Zql,Zqm,Zqn,Zqr,Zqs,List.length_append,eq_self,true_and,and_true,Nat.zero_add,Nat.mul_one,Bool.true_and,Bool.false_and]
        tactic =>
        exact cI_rs _ _ _ _ _ (by rw [cI_append]; rfl)
  · have e : j = 310 := by
      rcases Nat.lt_or_ge j 310 with h2 | h2
      · have := prs_mono (309 - j) j
        rw [show j + (309 - j) = 309 from by omega, prs_309] at this; omega
      · omega
    subst e
    have hl := prs_310
    obtain ⟨l, hll⟩ : ∃ l, l = prs 310 := ⟨_, rfl⟩
    rw [← hll] at hl ⊢
    have h4 : (2 + ((310 : Nat) : Int)) < 400 := by omega
    obtain ⟨n, hn⟩ : ∃ n : Int, n = 2 + ((310 : Nat) : Int) := ⟨_, rfl⟩
    rw [← hn] at h4 ⊢
    rw [hl]
    sym =>
    simp [Zaa,Zab,Zad,Zae,Zaf,Zag,Zah,Zai,Zak,Zal,Zam,Zan,Zap,Zaq,Zav,Zaw,Zay,Zaz,Za0,Za1,Za2,Za3,Za4,Za5,Za6,Za7,Za8,Za9,Zba,Zbb,Zbd,Zbf,Zbt,Zb1,Zcn,Zcz,Zc5,Zev,Zew,Zex,Zez,Ze0,Ze2,Ze3,Ze4,Ze5,Ze8,Zfb,Zfc,Zfd,Zfe,Zff,Zfg,Zfh,Zfi,Zfk,Zfl,Zfn,Zfq,Zfu,Zf0,Zf1,Zgr,Zgs,Zgt,Zgv,Zg4,Zg5,Zhf,Zhg,Zhh,Zho,Zh6,Zh9,Ziq,Zir,Zix,Ziz,Zi0,Zi2,Zi3,Zi7,Zjj,Zjk,Zjo,Zmt,Zmv,Zmw,Zmx,Zmz,Zm2,Zm6,Zna,Znb,Znh,Znl,Znm,Znn,Zno,Znp,Znr,Zns,Znt,Znw,Zn5,Zos,Zot,Zow,Zo7,Zo8,Zo9,Zpc,Zpo,Zpr,Zp0,Zp1,Zp2,Zqf,Zqg,Zqh,Zqi,Zqj,Zqk,Zql,Zqm,Zqn,Zqr,Zqs,List.length_append,eq_self,true_and,and_true,Nat.zero_add,Nat.mul_one,Bool.true_and,Bool.false_and,h4]
    tactic =>
    refine endA ?_
    sym =>
    simp [Zaa,Zab,Zad,Zae,Zaf,Zag,Zah,Zai,Zak,Zal,Zam,Zan,Zap,Zaq,Zav,Zaw,Zay,Zaz,Za0,Za1,Za2,Za3,Za4,Za5,Za6,Za7,Za8,Za9,Zba,Zbb,Zbd,Zbf,Zbt,Zb1,Zcn,Zcz,Zc5,Zev,Zew,Zex,Zez,Ze0,Ze2,Ze3,Ze4,Ze5,Ze8,Zfb,Zfc,Zfd,Zfe,Zff,Zfg,Zfh,Zfi,Zfk,Zfl,Zfn,Zfq,Zfu,Zf0,Zf1,Zgr,Zgs,Zgt,Zgv,Zg4,Zg5,Zhf,Zhg,Zhh,Zho,Zh6,Zh9,Ziq,Zir,Zix,Ziz,Zi0,Zi2,Zi3,Zi7,Zjj,Zjk,Zjo,Zmt,Zmv,Zmw,Zmx,Zmz,Zm2,Zm6,Zna,Znb,Znh,Znl,Znm,Znn,Zno,Znp,Znr,Zns,Znt,Znw,Zn5,Zos,Zot,Zow,Zo7,Zo8,Zo9,Zpc,Zpo,Zpr,Zp0,Zp1,Zp2,Zqf,Zqg,Zqh,Zqi,Zqj,Zqk,Zql,Zqm,Zqn,Zqr,Zqs,List.length_append,eq_self,true_and,and_true,Nat.zero_add,Nat.mul_one,Bool.true_and,Bool.false_and]
    tactic =>
    refine ⟨?_, by rw [cI_length, hl]; exact Nat.le_refl _, cI_okI l⟩
    exact (List.take_of_length_le (by rw [cI_length, hl]; exact Nat.le_refl _)).symm
end Go.Proofs.Ytdjjibmjinllnaa.DigM
