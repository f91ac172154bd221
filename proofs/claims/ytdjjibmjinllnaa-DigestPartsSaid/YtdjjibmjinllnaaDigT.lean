import Derived.Test.YtdjjibmjinllnaaDigC
import Derived.Test.YtdjjibmjinllnaaCodC
namespace Go.Proofs.Ytdjjibmjinllnaa.DigT
open Go Go.Sim Go.Sim.E Go.RowKit Go.Proofs Go.Proofs.Ytdjjibmjinllnaa.Cod Go.Proofs.Ytdjjibmjinllnaa.Tab Go.Proofs.Ytdjjibmjinllnaa.DigA Go.Proofs.Ytdjjibmjinllnaa.DigB Go.Proofs.Ytdjjibmjinllnaa.DigC
set_option linter.unusedVariables false
set_option linter.unusedSimpArgs false
set_option maxRecDepth 100000
set_option maxHeartbeats 4000000
def cL (l : List (List Int)) : List AV := l.map fun p => .fz p.length (cB p)
abbrev fL (l : List (List Int)) : AV := .fz l.length (cL l)
theorem cL_length (l : List (List Int)) : (cL l).length = l.length := by simp [cL]
theorem cL_get (l : List (List Int)) (i : Nat) (h : i < l.length) : (cL l).getD i .un = fB l[i] := by
  simp [cL, List.getD_eq_getElem?_getD, List.getElem?_eq_getElem h]
def i4 (l : List (List Int)) (more : List Int) (k : Nat) (s : St) : Prop := ∃ i : Nat, ∃ A : List Int, i + k = l.length ∧ A = (l.take i).flatten ∧ A.length ≤ 300 * i ∧
  s = ⟨[(1, fB more), (5, .lv 1 0 A.length), (6, .pt 0 0), (20, fL l), (21, I (IN l.length)), (22, I (IN i))], [(0, ⟨cSt (stS A) (stL A) (IN A.length), 1, 0⟩), (1, ⟨cB A, 1, 0⟩)], 2⟩
theorem clone_m (S l : List Int) (g : Int) (hl : l.length ≤ 1000) : Con Try.prog 18 [(0, ⟨cSt S l g, 1, 0⟩)] [.pt 0 0] [(0, ⟨cSt S l g, 1, 0⟩), (1, ⟨cSt S l g, 1, 0⟩)] (.pt 1 0) := by
  refine con_n b18 rfl ?_
  sym =>
  simp [Zaa,Zab,Zad,Zae,Zaf,Zak,Zal,Zam,Zaz,Za0,Za1,Za2,Za3,Za4,Za5,Za9,Zba,Zbb,Zbj,Zbt,Zbv,Zcd,Zcv,Zc3,Zdc,Zdd,Zde,Zdi,Zev,Zew,Zez,Ze0,Ze1,Ze2,Ze3,Ze5,Ze8,Zfc,Zfd,Zfe,Zfh,Zgd,Zgg,Zgr,Zgs,Zgt,Zgv,Zgw,Zgx,Zhj,Zhk,Zin,Ziu,Ziv,Ziw,Zi6,Zje,Zjg,Zjh,Zji,Zjl,Zjm,Zjn,Zjp,Zjs,Zju,Zjw,Zj7,Zj9,Zkl,Zla,Zlb,Zle,Zll,Zlu,Zly,Zlz,Zl0,Zl1,Zl2,Zmk,Zmt,Zmv,Zmw,Zmx,Zmz,Zm2,Zm5,Zm6,Zm9,Zna,Znb,Zne,Znf,Zng,Znh,Znn,Zno,Znp,Znr,Zos,Zot,Zo3,Zo7,Zpa,Zpg,Zpu,Zpy,Zp1,Zp2,Zp3,Zqb,Zqc,Zq5,Zq6,Zqh,Zqi,Zqk,Zql,Zqm,Zqn,Zqo,eq_self,true_and,and_true,Nat.zero_add,Nat.mul_one,callable_46]
  tactic =>
  refine cl none (ok_con' _ rfl (by simp)) trivial ?_
  have hr : rdb (cSt S l g) 0 11 = cSt S l g := rdb_all rfl
  sym =>
  simp [Zaa,Zab,Zad,Zae,Zaf,Zak,Zal,Zam,Zaz,Za0,Za1,Za2,Za3,Za4,Za5,Za9,Zba,Zbb,Zbj,Zbt,Zbv,Zcd,Zcv,Zc3,Zdc,Zdd,Zde,Zdi,Zev,Zew,Zez,Ze0,Ze1,Ze2,Ze3,Ze5,Ze8,Zfc,Zfd,Zfe,Zfh,Zgd,Zgg,Zgr,Zgs,Zgt,Zgv,Zgw,Zgx,Zhj,Zhk,Zin,Ziu,Ziv,Ziw,Zi6,Zje,Zjg,Zjh,Zji,Zjl,Zjm,Zjn,Zjp,Zjs,Zju,Zjw,Zj7,Zj9,Zkl,Zla,Zlb,Zle,Zll,Zlu,Zly,Zlz,Zl0,Zl1,Zl2,Zmk,Zmt,Zmv,Zmw,Zmx,Zmz,Zm2,Zm5,Zm6,Zm9,Zna,Znb,Zne,Znf,Zng,Znh,Znn,Zno,Znp,Znr,Zos,Zot,Zo3,Zo7,Zpa,Zpg,Zpu,Zpy,Zp1,Zp2,Zp3,Zqb,Zqc,Zq5,Zq6,Zqh,Zqi,Zqk,Zql,Zqm,Zqn,Zqo,eq_self,true_and,and_true,Nat.zero_add,Nat.mul_one,callable_47,hr]
  tactic =>
  refine cl (some ⟨cB l, 1, 0⟩) (bclone_con l (by omega)) ?_ ?_
  · exact ⟨rfl, cB_okI l⟩
  sym =>
  simp [Zaa,Zab,Zad,Zae,Zaf,Zak,Zal,Zam,Zaz,Za0,Za1,Za2,Za3,Za4,Za5,Za9,Zba,Zbb,Zbj,Zbt,Zbv,Zcd,Zcv,Zc3,Zdc,Zdd,Zde,Zdi,Zev,Zew,Zez,Ze0,Ze1,Ze2,Ze3,Ze5,Ze8,Zfc,Zfd,Zfe,Zfh,Zgd,Zgg,Zgr,Zgs,Zgt,Zgv,Zgw,Zgx,Zhj,Zhk,Zin,Ziu,Ziv,Ziw,Zi6,Zje,Zjg,Zjh,Zji,Zjl,Zjm,Zjn,Zjp,Zjs,Zju,Zjw,Zj7,Zj9,Zkl,Zla,Zlb,Zle,Zll,Zlu,Zly,Zlz,Zl0,Zl1,Zl2,Zmk,Zmt,Zmv,Zmw,Zmx,Zmz,Zm2,Zm5,Zm6,Zm9,Zna,Znb,Zne,Znf,Zng,Znh,Znn,Zno,Znp,Znr,Zos,Zot,Zo3,Zo7,Zpa,Zpg,Zpu,Zpy,Zp1,Zp2,Zp3,Zqb,Zqc,Zq5,Zq6,Zqh,Zqi,Zqk,Zql,Zqm,Zqn,Zqo,eq_self,true_and,and_true,Nat.zero_add,Nat.mul_one]
  tactic =>
  refine endM [(0, 0), (1, 8)] (nx := 15) ?_
  sym =>
  simp [Zaa,Zab,Zad,Zae,Zaf,Zak,Zal,Zam,Zaz,Za0,Za1,Za2,Za3,Za4,Za5,Za9,Zba,Zbb,Zbj,Zbt,Zbv,Zcd,Zcv,Zc3,Zdc,Zdd,Zde,Zdi,Zev,Zew,Zez,Ze0,Ze1,Ze2,Ze3,Ze5,Ze8,Zfc,Zfd,Zfe,Zfh,Zgd,Zgg,Zgr,Zgs,Zgt,Zgv,Zgw,Zgx,Zhj,Zhk,Zin,Ziu,Ziv,Ziw,Zi6,Zje,Zjg,Zjh,Zji,Zjl,Zjm,Zjn,Zjp,Zjs,Zju,Zjw,Zj7,Zj9,Zkl,Zla,Zlb,Zle,Zll,Zlu,Zly,Zlz,Zl0,Zl1,Zl2,Zmk,Zmt,Zmv,Zmw,Zmx,Zmz,Zm2,Zm5,Zm6,Zm9,Zna,Znb,Zne,Znf,Zng,Znh,Znn,Zno,Znp,Znr,Zos,Zot,Zo3,Zo7,Zpa,Zpg,Zpu,Zpy,Zp1,Zp2,Zp3,Zqb,Zqc,Zq5,Zq6,Zqh,Zqi,Zqk,Zql,Zqm,Zqn,Zqo,eq_self,true_and,and_true,Nat.zero_add,Nat.mul_one]
  tactic =>
  exact ⟨(List.take_of_length_le (by rw [cB_length]; exact Nat.le_refl _)).symm, by rw [cB_length]; exact Nat.le_refl _, cB_okI l⟩
theorem parts_con (l : List (List Int)) (more : List Int) : Con Try.prog 4 [] [fL l, fB more] [] (Bo true) := by
  refine con_j b4 rfl ?_
  by_cases g1 : 20 < l.length
  · have h1 : (20 : Int) < IN l.length := by simp only [IN]; omega
    sym =>
    simp [Zaa,Zab,Zad,Zae,Zaf,Zag,Zah,Zai,Zak,Zal,Zam,Zan,Zao,Zap,Zaq,Zar,Zav,Zaw,Zax,Zay,Zaz,Za0,Za1,Za2,Za3,Za4,Za5,Za6,Za7,Za8,Za9,Zba,Zbb,Zbd,Zbf,Zbh,Zbl,Zbt,Zb1,Zcn,Zc5,Zdc,Zdd,Zde,Zqx,Zqy,Zqz,Zq0,Zq1,Zdi,Zev,Zew,Zex,Zez,Ze0,Ze2,Ze3,Ze4,Ze5,Zfb,Zfc,Zfd,Zfe,Zff,Zfg,Zfh,Zfi,Zfj,Zfl,Zfn,Zfq,Zfz,Zf0,Zf1,Zf3,Zga,Zgb,Zgc,Zgh,Zgi,Zgr,Zgu,Zgv,Zg4,Zg6,Zho,Zh6,Zh7,Zh9,Zix,Ziy,Ziz,Zi0,Zi1,Zi2,Zi3,Zjl,Zjm,Zjp,Zjr,Zju,Zjw,Zj9,Zkv,Zla,Zlb,Zle,Zll,Zlt,Zlu,Zlx,Zly,Zlz,Zl0,Zl1,Zq3,Zq4,Zl2,Zmn,Zmt,Zmv,Zmw,Zmx,Zmz,Zm2,Zm6,Zna,Znb,Zne,Znf,Zng,Znh,Znr,Zns,Znt,Znw,Zn5,Zos,Zot,Zo3,Zo6,Zo7,Zo8,Zo9,Zpa,Zpc,Zpg,Zpi,Zpo,Zpr,Zpu,Zqb,Zqc,Zqf,Zqg,Zqh,Zqi,Zqj,Zqk,Zql,Zqm,Zqn,Zqr,List.length_append,eq_self,true_and,and_true,Nat.zero_add,Nat.mul_one,h1,callable_11]
    tactic =>
    refine cl none (alive_con) trivial ?_
    sym =>
    simp [Zaa,Zab,Zad,Zae,Zaf,Zag,Zah,Zai,Zak,Zal,Zam,Zan,Zao,Zap,Zaq,Zar,Zav,Zaw,Zax,Zay,Zaz,Za0,Za1,Za2,Za3,Za4,Za5,Za6,Za7,Za8,Za9,Zba,Zbb,Zbd,Zbf,Zbh,Zbl,Zbt,Zb1,Zcn,Zc5,Zdc,Zdd,Zde,Zqx,Zqy,Zqz,Zq0,Zq1,Zdi,Zev,Zew,Zex,Zez,Ze0,Ze2,Ze3,Ze4,Ze5,Zfb,Zfc,Zfd,Zfe,Zff,Zfg,Zfh,Zfi,Zfj,Zfl,Zfn,Zfq,Zfz,Zf0,Zf1,Zf3,Zga,Zgb,Zgc,Zgh,Zgi,Zgr,Zgu,Zgv,Zg4,Zg6,Zho,Zh6,Zh7,Zh9,Zix,Ziy,Ziz,Zi0,Zi1,Zi2,Zi3,Zjl,Zjm,Zjp,Zjr,Zju,Zjw,Zj9,Zkv,Zla,Zlb,Zle,Zll,Zlt,Zlu,Zlx,Zly,Zlz,Zl0,Zl1,Zq3,Zq4,Zl2,Zmn,Zmt,Zmv,Zmw,Zmx,Zmz,Zm2,Zm6,Zna,Znb,Zne,Znf,Zng,Znh,Znr,Zns,Znt,Znw,Zn5,Zos,Zot,Zo3,Zo6,Zo7,Zo8,Zo9,Zpa,Zpc,Zpg,Zpi,Zpo,Zpr,Zpu,Zqb,Zqc,Zqf,Zqg,Zqh,Zqi,Zqj,Zqk,Zql,Zqm,Zqn,Zqr,List.length_append,eq_self,true_and,and_true,Nat.zero_add,Nat.mul_one]
    tactic =>
    refine endA ?_
    sym =>
    simp [Zaa,Zab,Zad,Zae,Zaf,Zag,Zah,Zai,Zak,Zal,Zam,Zan,Zao,Zap,Zaq,Zar,Zav,Zaw,Zax,Zay,Zaz,Za0,Za1,Za2,Za3,Za4,Za5,Za6,Za7,Za8,Za9,Zba,Zbb,Zbd,Zbf,Zbh,Zbl,Zbt,Zb1,Zcn,Zc5,Zdc,Zdd,Zde,Zqx,Zqy,Zqz,Zq0,Zq1,Zdi,Zev,Zew,Zex,Zez,Ze0,Ze2,Ze3,Ze4,Ze5,Zfb,Zfc,Zfd,Zfe,Zff,Zfg,Zfh,Zfi,Zfj,Zfl,Zfn,Zfq,Zfz,Zf0,Zf1,Zf3,Zga,Zgb,Zgc,Zgh,Zgi,Zgr,Zgu,Zgv,Zg4,Zg6,Zho,Zh6,Zh7,Zh9,Zix,Ziy,Ziz,Zi0,Zi1,Zi2,Zi3,Zjl,Zjm,Zjp,Zjr,Zju,Zjw,Zj9,Zkv,Zla,Zlb,Zle,Zll,Zlt,Zlu,Zlx,Zly,Zlz,Zl0,Zl1,Zq3,Zq4,Zl2,Zmn,Zmt,Zmv,Zmw,Zmx,Zmz,Zm2,Zm6,Zna,Znb,Zne,Znf,Zng,Znh,Znr,Zns,Znt,Znw,Zn5,Zos,Zot,Zo3,Zo6,Zo7,Zo8,Zo9,Zpa,Zpc,Zpg,Zpi,Zpo,Zpr,Zpu,Zqb,Zqc,Zqf,Zqg,Zqh,Zqi,Zqj,Zqk,Zql,Zqm,Zqn,Zqr,List.length_append,eq_self,true_and,and_true,Nat.zero_add,Nat.mul_one]
  have h1 : ¬ (20 : Int) < IN l.length := by simp only [IN]; omega
  by_cases g2 : 500 < more.length
  · have h2 : (500 : Int) < IN more.length := by simp only [IN]; omega
    sym =>
    simp [Zaa,Zab,Zad,Zae,Zaf,Zag,Zah,Zai,Zak,Zal,Zam,Zan,Zao,Zap,Zaq,Zar,Zav,Zaw,Zax,Zay,Zaz,Za0,Za1,Za2,Za3,Za4,Za5,Za6,Za7,Za8,Za9,Zba,Zbb,Zbd,Zbf,Zbh,Zbl,Zbt,Zb1,Zcn,Zc5,Zdc,Zdd,Zde,Zqx,Zqy,Zqz,Zq0,Zq1,Zdi,Zev,Zew,Zex,Zez,Ze0,Ze2,Ze3,Ze4,Ze5,Zfb,Zfc,Zfd,Zfe,Zff,Zfg,Zfh,Zfi,Zfj,Zfl,Zfn,Zfq,Zfz,Zf0,Zf1,Zf3,Zga,Zgb,Zgc,Zgh,Zgi,Zgr,Zgu,Zgv,Zg4,Zg6,Zho,Zh6,Zh7,Zh9,Zix,Ziy,Ziz,Zi0,Zi1,Zi2,Zi3,Zjl,Zjm,Zjp,Zjr,Zju,Zjw,Zj9,Zkv,Zla,Zlb,Zle,Zll,Zlt,Zlu,Zlx,Zly,Zlz,Zl0,Zl1,Zq3,Zq4,Zl2,Zmn,Zmt,Zmv,Zmw,Zmx,Zmz,Zm2,Zm6,Zna,Znb,Zne,Znf,Zng,Znh,Znr,Zns,Znt,Znw,Zn5,Zos,Zot,Zo3,Zo6,Zo7,Zo8,Zo9,Zpa,Zpc,Zpg,Zpi,Zpo,Zpr,Zpu,Zqb,Zqc,Zqf,Zqg,Zqh,Zqi,Zqj,Zqk,Zql,Zqm,Zqn,Zqr,List.length_append,eq_self,true_and,and_true,Nat.zero_add,Nat.mul_one,h1,h2,callable_11]
    tactic =>
    refine cl none (alive_con) trivial ?_
    sym =>
    simp [Zaa,Zab,Zad,Zae,Zaf,Zag,Zah,Zai,Zak,Zal,Zam,Zan,Zao,Zap,Zaq,Zar,Zav,Zaw,Zax,Zay,Zaz,Za0,Za1,Za2,Za3,Za4,Za5,Za6,Za7,Za8,Za9,Zba,Zbb,Zbd,Zbf,Zbh,Zbl,Zbt,Zb1,Zcn,Zc5,Zdc,Zdd,Zde,Zqx,Zqy,Zqz,Zq0,Zq1,Zdi,Zev,Zew,Zex,Zez,Ze0,Ze2,Ze3,Ze4,Ze5,Zfb,Zfc,Zfd,Zfe,Zff,Zfg,Zfh,Zfi,Zfj,Zfl,Zfn,Zfq,Zfz,Zf0,Zf1,Zf3,Zga,Zgb,Zgc,Zgh,Zgi,Zgr,Zgu,Zgv,Zg4,Zg6,Zho,Zh6,Zh7,Zh9,Zix,Ziy,Ziz,Zi0,Zi1,Zi2,Zi3,Zjl,Zjm,Zjp,Zjr,Zju,Zjw,Zj9,Zkv,Zla,Zlb,Zle,Zll,Zlt,Zlu,Zlx,Zly,Zlz,Zl0,Zl1,Zq3,Zq4,Zl2,Zmn,Zmt,Zmv,Zmw,Zmx,Zmz,Zm2,Zm6,Zna,Znb,Zne,Znf,Zng,Znh,Znr,Zns,Znt,Znw,Zn5,Zos,Zot,Zo3,Zo6,Zo7,Zo8,Zo9,Zpa,Zpc,Zpg,Zpi,Zpo,Zpr,Zpu,Zqb,Zqc,Zqf,Zqg,Zqh,Zqi,Zqj,Zqk,Zql,Zqm,Zqn,Zqr,List.length_append,eq_self,true_and,and_true,Nat.zero_add,Nat.mul_one]
    tactic =>
    refine endA ?_
    sym =>
    simp [Zaa,Zab,Zad,Zae,Zaf,Zag,Zah,Zai,Zak,Zal,Zam,Zan,Zao,Zap,Zaq,Zar,Zav,Zaw,Zax,Zay,Zaz,Za0,Za1,Za2,Za3,Za4,Za5,Za6,Za7,Za8,Za9,Zba,Zbb,Zbd,Zbf,Zbh,Zbl,Zbt,Zb1,Zcn,Zc5,Zdc,Zdd,Zde,Zqx,Zqy,Zqz,Zq0,Zq1,Zdi,Zev,Zew,Zex,Zez,Ze0,Ze2,Ze3,Ze4,Ze5,Zfb,Zfc,Zfd,Zfe,Zff,Zfg,Zfh,Zfi,Zfj,Zfl,Zfn,Zfq,Zfz,Zf0,Zf1,Zf3,Zga,Zgb,Zgc,Zgh,Zgi,Zgr,Zgu,Zgv,Zg4,Zg6,Zho,Zh6,Zh7,Zh9,Zix,Ziy,Ziz,Zi0,Zi1,Zi2,Zi3,Zjl,Zjm,Zjp,Zjr,Zju,Zjw,Zj9,Zkv,Zla,Zlb,Zle,Zll,Zlt,Zlu,Zlx,Zly,Zlz,Zl0,Zl1,Zq3,Zq4,Zl2,Zmn,Zmt,Zmv,Zmw,Zmx,Zmz,Zm2,Zm6,Zna,Znb,Zne,Znf,Zng,Znh,Znr,Zns,Znt,Znw,Zn5,Zos,Zot,Zo3,Zo6,Zo7,Zo8,Zo9,Zpa,Zpc,Zpg,Zpi,Zpo,Zpr,Zpu,Zqb,Zqc,Zqf,Zqg,Zqh,Zqi,Zqj,Zqk,Zql,Zqm,Zqn,Zqr,List.length_append,eq_self,true_and,and_true,Nat.zero_add,Nat.mul_one]
  have h2 : ¬ (500 : Int) < IN more.length := by simp only [IN]; omega
  sym =>
  simp [Zaa,Zab,Zad,Zae,Zaf,Zag,Zah,Zai,Zak,Zal,Zam,Zan,Zao,Zap,Zaq,Zar,Zav,Zaw,Zax,Zay,Zaz,Za0,Za1,Za2,Za3,Za4,Za5,Za6,Za7,Za8,Za9,Zba,Zbb,Zbd,Zbf,Zbh,Zbl,Zbt,Zb1,Zcn,Zc5,Zdc,Zdd,Zde,Zqx,Zqy,Zqz,Zq0,Zq1,Zdi,Zev,Zew,Zex,Zez,Ze0,Ze2,Ze3,Ze4,Ze5,Zfb,Zfc,Zfd,Zfe,Zff,Zfg,Zfh,Zfi,Zfj,Zfl,Zfn,Zfq,Zfz,Zf0,Zf1,Zf3,Zga,Zgb,Zgc,Zgh,Zgi,Zgr,Zgu,Zgv,Zg4,Zg6,Zho,Zh6,Zh7,Zh9,Zix,Ziy,Ziz,Zi0,Zi1,Zi2,Zi3,Zjl,Zjm,Zjp,Zjr,Zju,Zjw,Zj9,Zkv,Zla,Zlb,Zle,Zll,Zlt,Zlu,Zlx,Zly,Zlz,Zl0,Zl1,Zq3,Zq4,Zl2,Zmn,Zmt,Zmv,Zmw,Zmx,Zmz,Zm2,Zm6,Zna,Znb,Zne,Znf,Zng,Znh,Znr,Zns,Znt,Znw,Zn5,Zos,Zot,Zo3,Zo6,Zo7,Zo8,Zo9,Zpa,Zpc,Zpg,Zpi,Zpo,Zpr,Zpu,Zqb,Zqc,Zqf,Zqg,Zqh,Zqi,Zqj,Zqk,Zql,Zqm,Zqn,Zqr,List.length_append,eq_self,true_and,and_true,Nat.zero_add,Nat.mul_one,h1,h2,callable_14]
  tactic =>
  refine cl (some ⟨cSt W0 [] 0, 1, 0⟩) new_con ?_ ?_
  · exact ⟨rfl, cSt_okI _ _ _⟩
  sym =>
  simp [Zaa,Zab,Zad,Zae,Zaf,Zag,Zah,Zai,Zak,Zal,Zam,Zan,Zao,Zap,Zaq,Zar,Zav,Zaw,Zax,Zay,Zaz,Za0,Za1,Za2,Za3,Za4,Za5,Za6,Za7,Za8,Za9,Zba,Zbb,Zbd,Zbf,Zbh,Zbl,Zbt,Zb1,Zcn,Zc5,Zdc,Zdd,Zde,Zqx,Zqy,Zqz,Zq0,Zq1,Zdi,Zev,Zew,Zex,Zez,Ze0,Ze2,Ze3,Ze4,Ze5,Zfb,Zfc,Zfd,Zfe,Zff,Zfg,Zfh,Zfi,Zfj,Zfl,Zfn,Zfq,Zfz,Zf0,Zf1,Zf3,Zga,Zgb,Zgc,Zgh,Zgi,Zgr,Zgu,Zgv,Zg4,Zg6,Zho,Zh6,Zh7,Zh9,Zix,Ziy,Ziz,Zi0,Zi1,Zi2,Zi3,Zjl,Zjm,Zjp,Zjr,Zju,Zjw,Zj9,Zkv,Zla,Zlb,Zle,Zll,Zlt,Zlu,Zlx,Zly,Zlz,Zl0,Zl1,Zq3,Zq4,Zl2,Zmn,Zmt,Zmv,Zmw,Zmx,Zmz,Zm2,Zm6,Zna,Znb,Zne,Znf,Zng,Znh,Znr,Zns,Znt,Znw,Zn5,Zos,Zot,Zo3,Zo6,Zo7,Zo8,Zo9,Zpa,Zpc,Zpg,Zpi,Zpo,Zpr,Zpu,Zqb,Zqc,Zqf,Zqg,Zqh,Zqi,Zqj,Zqk,Zql,Zqm,Zqn,Zqr,List.length_append,eq_self,true_and,and_true,Nat.zero_add,Nat.mul_one]
  tactic =>
  refine lpA (i4 l more) l.length [(0, 10)] _ ⟨0, [], by omega, rfl, Nat.zero_le _, rfl⟩ (wkA ?_) ?_
  · sym =>
    simp [Zaa,Zab,Zad,Zae,Zaf,Zag,Zah,Zai,Zak,Zal,Zam,Zan,Zao,Zap,Zaq,Zar,Zav,Zaw,Zax,Zay,Zaz,Za0,Za1,Za2,Za3,Za4,Za5,Za6,Za7,Za8,Za9,Zba,Zbb,Zbd,Zbf,Zbh,Zbl,Zbt,Zb1,Zcn,Zc5,Zdc,Zdd,Zde,Zqx,Zqy,Zqz,Zq0,Zq1,Zdi,Zev,Zew,Zex,Zez,Ze0,Ze2,Ze3,Ze4,Ze5,Zfb,Zfc,Zfd,Zfe,Zff,Zfg,Zfh,Zfi,Zfj,Zfl,Zfn,Zfq,Zfz,Zf0,Zf1,Zf3,Zga,Zgb,Zgc,Zgh,Zgi,Zgr,Zgu,Zgv,Zg4,Zg6,Zho,Zh6,Zh7,Zh9,Zix,Ziy,Ziz,Zi0,Zi1,Zi2,Zi3,Zjl,Zjm,Zjp,Zjr,Zju,Zjw,Zj9,Zkv,Zla,Zlb,Zle,Zll,Zlt,Zlu,Zlx,Zly,Zlz,Zl0,Zl1,Zq3,Zq4,Zl2,Zmn,Zmt,Zmv,Zmw,Zmx,Zmz,Zm2,Zm6,Zna,Znb,Zne,Znf,Zng,Znh,Znr,Zns,Znt,Znw,Zn5,Zos,Zot,Zo3,Zo6,Zo7,Zo8,Zo9,Zpa,Zpc,Zpg,Zpi,Zpo,Zpr,Zpu,Zqb,Zqc,Zqf,Zqg,Zqh,Zqi,Zqj,Zqk,Zql,Zqm,Zqn,Zqr,List.length_append,eq_self,true_and,and_true,Nat.zero_add,Nat.mul_one]
    tactic =>
    exact ⟨⟨rfl, rfl, rfl, rfl, rfl, rfl, rfl, rfl, rfl, rfl⟩, rfl⟩
  rintro k s ⟨i, A, hi, hA, hA3, rfl⟩
  by_cases h : i < l.length
  · have hw := w64s i (by omega)
    have hg := cL_get l i h
    by_cases g3 : 300 < l[i].length
    · have h3 : (300 : Int) < IN l[i].length := by simp only [IN]; omega
      sym =>
      simp [Zaa,Zab,Zad,Zae,Zaf,Zag,Zah,Zai,Zak,Zal,Zam,Zan,Zao,Zap,Zaq,Zar,Zav,Zaw,Zax,Zay,Zaz,Za0,Za1,Za2,Za3,Za4,Za5,Za6,Za7,Za8,Za9,Zba,Zbb,Zbd,Zbf,Zbh,Zbl,Zbt,Zb1,Zcn,Zc5,Zdc,Zdd,Zde,Zqx,Zqy,Zqz,Zq0,Zq1,Zdi,Zev,Zew,Zex,Zez,Ze0,Ze2,Ze3,Ze4,Ze5,Zfb,Zfc,Zfd,Zfe,Zff,Zfg,Zfh,Zfi,Zfj,Zfl,Zfn,Zfq,Zfz,Zf0,Zf1,Zf3,Zga,Zgb,Zgc,Zgh,Zgi,Zgr,Zgu,Zgv,Zg4,Zg6,Zho,Zh6,Zh7,Zh9,Zix,Ziy,Ziz,Zi0,Zi1,Zi2,Zi3,Zjl,Zjm,Zjp,Zjr,Zju,Zjw,Zj9,Zkv,Zla,Zlb,Zle,Zll,Zlt,Zlu,Zlx,Zly,Zlz,Zl0,Zl1,Zq3,Zq4,Zl2,Zmn,Zmt,Zmv,Zmw,Zmx,Zmz,Zm2,Zm6,Zna,Znb,Zne,Znf,Zng,Znh,Znr,Zns,Znt,Znw,Zn5,Zos,Zot,Zo3,Zo6,Zo7,Zo8,Zo9,Zpa,Zpc,Zpg,Zpi,Zpo,Zpr,Zpu,Zqb,Zqc,Zqf,Zqg,Zqh,Zqi,Zqj,Zqk,Zql,Zqm,Zqn,Zqr,List.length_append,eq_self,true_and,and_true,Nat.zero_add,Nat.mul_one,h,hw,hg,h3,cL_length,callable_11]
      tactic =>
      and_intros <;> try (first | omega | rfl | assumption)
      refine cl none (alive_con) trivial ?_
      sym =>
      simp [Zaa,Zab,Zad,Zae,Zaf,Zag,Zah,Zai,Zak,Zal,Zam,Zan,Zao,Zap,Zaq,Zar,Zav,Zaw,Zax,Zay,Zaz,Za0,Za1,Za2,Za3,Za4,Za5,Za6,Za7,Za8,Za9,Zba,Zbb,Zbd,Zbf,Zbh,Zbl,Zbt,Zb1,Zcn,Zc5,Zdc,Zdd,Zde,Zqx,Zqy,Zqz,Zq0,Zq1,Zdi,Zev,Zew,Zex,Zez,Ze0,Ze2,Ze3,Ze4,Ze5,Zfb,Zfc,Zfd,Zfe,Zff,Zfg,Zfh,Zfi,Zfj,Zfl,Zfn,Zfq,Zfz,Zf0,Zf1,Zf3,Zga,Zgb,Zgc,Zgh,Zgi,Zgr,Zgu,Zgv,Zg4,Zg6,Zho,Zh6,Zh7,Zh9,Zix,Ziy,Ziz,Zi0,Zi1,Zi2,Zi3,Zjl,Zjm,Zjp,Zjr,Zju,Zjw,Zj9,Zkv,Zla,Zlb,Zle,Zll,Zlt,Zlu,Zlx,Zly,Zlz,Zl0,Zl1,Zq3,Zq4,Zl2,Zmn,Zmt,Zmv,Zmw,Zmx,Zmz,Zm2,Zm6,Zna,Znb,Zne,Znf,Zng,Znh,Znr,Zns,Znt,Znw,Zn5,Zos,Zot,Zo3,Zo6,Zo7,Zo8,Zo9,Zpa,Zpc,Zpg,Zpi,Zpo,Zpr,Zpu,Zqb,Zqc,Zqf,Zqg,Zqh,Zqi,Zqj,Zqk,Zql,Zqm,Zqn,Zqr,List.length_append,eq_self,true_and,and_true,Nat.zero_add,Nat.mul_one]
      tactic =>
      refine endA ?_
      sym =>
      simp [Zaa,Zab,Zad,Zae,Zaf,Zag,Zah,Zai,Zak,Zal,Zam,Zan,Zao,Zap,Zaq,Zar,Zav,Zaw,Zax,Zay,Zaz,Za0,Za1,Za2,Za3,Za4,Za5,Za6,Za7,Za8,Za9,Zba,Zbb,Zbd,Zbf,Zbh,Zbl,Zbt,Zb1,Zcn,Zc5,Zdc,Zdd,Zde,Zqx,Zqy,Zqz,Zq0,Zq1,Zdi,Zev,Zew,Zex,Zez,Ze0,Ze2,Ze3,Ze4,Ze5,Zfb,Zfc,Zfd,Zfe,Zff,Zfg,Zfh,Zfi,Zfj,Zfl,Zfn,Zfq,Zfz,Zf0,Zf1,Zf3,Zga,Zgb,Zgc,Zgh,Zgi,Zgr,Zgu,Zgv,Zg4,Zg6,Zho,Zh6,Zh7,Zh9,Zix,Ziy,Ziz,Zi0,Zi1,Zi2,Zi3,Zjl,Zjm,Zjp,Zjr,Zju,Zjw,Zj9,Zkv,Zla,Zlb,Zle,Zll,Zlt,Zlu,Zlx,Zly,Zlz,Zl0,Zl1,Zq3,Zq4,Zl2,Zmn,Zmt,Zmv,Zmw,Zmx,Zmz,Zm2,Zm6,Zna,Znb,Zne,Znf,Zng,Znh,Znr,Zns,Znt,Znw,Zn5,Zos,Zot,Zo3,Zo6,Zo7,Zo8,Zo9,Zpa,Zpc,Zpg,Zpi,Zpo,Zpr,Zpu,Zqb,Zqc,Zqf,Zqg,Zqh,Zqi,Zqj,Zqk,Zql,Zqm,Zqn,Zqr,List.length_append,eq_self,true_and,and_true,Nat.zero_add,Nat.mul_one]
    obtain ⟨p, hp⟩ : ∃ p, p = l[i] := ⟨_, rfl⟩
    rw [← hp] at hg g3
    have h3 : ¬ (300 : Int) < IN p.length := by simp only [IN]; omega
    have hs0 := write_st A p (by omega) (by omega)
    obtain ⟨B, hB⟩ : ∃ B, B = A ++ p := ⟨_, rfl⟩
    have hBl : A.length + p.length = B.length := by rw [hB, List.length_append]
    have hBc : cB A ++ cB p = cB B := by rw [hB, cB_append]
    rw [← hB] at hs0
    sym =>
    simp [Zaa,Zab,Zad,Zae,Zaf,Zag,Zah,Zai,Zak,Zal,Zam,Zan,Zao,Zap,Zaq,Zar,Zav,Zaw,Zax,Zay,Zaz,Za0,Za1,Za2,Za3,Za4,Za5,Za6,Za7,Za8,Za9,Zba,Zbb,Zbd,Zbf,Zbh,Zbl,Zbt,Zb1,Zcn,Zc5,Zdc,Zdd,Zde,Zqx,Zqy,Zqz,Zq0,Zq1,Zdi,Zev,Zew,Zex,Zez,Ze0,Ze2,Ze3,Ze4,Ze5,Zfb,Zfc,Zfd,Zfe,Zff,Zfg,Zfh,Zfi,Zfj,Zfl,Zfn,Zfq,Zfz,Zf0,Zf1,Zf3,Zga,Zgb,Zgc,Zgh,Zgi,Zgr,Zgu,Zgv,Zg4,Zg6,Zho,Zh6,Zh7,Zh9,Zix,Ziy,Ziz,Zi0,Zi1,Zi2,Zi3,Zjl,Zjm,Zjp,Zjr,Zju,Zjw,Zj9,Zkv,Zla,Zlb,Zle,Zll,Zlt,Zlu,Zlx,Zly,Zlz,Zl0,Zl1,Zq3,Zq4,Zl2,Zmn,Zmt,Zmv,Zmw,Zmx,Zmz,Zm2,Zm6,Zna,Znb,Zne,Znf,Zng,Znh,Znr,Zns,Znt,Znw,Zn5,Zos,Zot,Zo3,Zo6,Zo7,Zo8,Zo9,Zpa,Zpc,Zpg,Zpi,Zpo,Zpr,Zpu,Zqb,Zqc,Zqf,Zqg,Zqh,Zqi,Zqj,Zqk,Zql,Zqm,Zqn,Zqr,List.length_append,eq_self,true_and,and_true,Nat.zero_add,Nat.mul_one,h,hg,h3,cL_length,callable_15]
    tactic =>
    and_intros <;> try (first | omega | rfl | assumption)
    refine clM ⟨cSt (stS B) (stL B) (IN B.length), 1, 0⟩ none hs0 ?_ ?_
    · exact ⟨rfl, cSt_okI _ _ _, rfl⟩
    sym =>
    simp [Zaa,Zab,Zad,Zae,Zaf,Zag,Zah,Zai,Zak,Zal,Zam,Zan,Zao,Zap,Zaq,Zar,Zav,Zaw,Zax,Zay,Zaz,Za0,Za1,Za2,Za3,Za4,Za5,Za6,Za7,Za8,Za9,Zba,Zbb,Zbd,Zbf,Zbh,Zbl,Zbt,Zb1,Zcn,Zc5,Zdc,Zdd,Zde,Zqx,Zqy,Zqz,Zq0,Zq1,Zdi,Zev,Zew,Zex,Zez,Ze0,Ze2,Ze3,Ze4,Ze5,Zfb,Zfc,Zfd,Zfe,Zff,Zfg,Zfh,Zfi,Zfj,Zfl,Zfn,Zfq,Zfz,Zf0,Zf1,Zf3,Zga,Zgb,Zgc,Zgh,Zgi,Zgr,Zgu,Zgv,Zg4,Zg6,Zho,Zh6,Zh7,Zh9,Zix,Ziy,Ziz,Zi0,Zi1,Zi2,Zi3,Zjl,Zjm,Zjp,Zjr,Zju,Zjw,Zj9,Zkv,Zla,Zlb,Zle,Zll,Zlt,Zlu,Zlx,Zly,Zlz,Zl0,Zl1,Zq3,Zq4,Zl2,Zmn,Zmt,Zmv,Zmw,Zmx,Zmz,Zm2,Zm6,Zna,Znb,Zne,Znf,Zng,Znh,Znr,Zns,Znt,Znw,Zn5,Zos,Zot,Zo3,Zo6,Zo7,Zo8,Zo9,Zpa,Zpc,Zpg,Zpi,Zpo,Zpr,Zpu,Zqb,Zqc,Zqf,Zqg,Zqh,Zqi,Zqj,Zqk,Zql,Zqm,Zqn,Zqr,List.length_append,eq_self,true_and,and_true,Nat.zero_add,Nat.mul_one,hBl,hBc,cB_length,callable_16]
    tactic =>
    have hB3 : B.length ≤ 300 * (i + 1) := by omega
    and_intros <;> try (first | omega | rfl | assumption)
    · exact cB_okF p
    refine cl none (sum_st B) trivial ?_
    have hBt : List.take B.length (cB B) = cB B := List.take_of_length_le (by rw [cB_length]; exact Nat.le_refl _)
    have hof := of_con B (by omega)
    have hXl := digestF_length B
    have hss : (cSt (stS B) (stL B) (IN B.length)) = (cSt (stS B) (stL B) (IN B.length)) := rfl
    have hln := len_con (stS B) (stL B) (IN B.length)
    obtain ⟨X, hX⟩ : ∃ X, X = digestF B := ⟨_, rfl⟩
    rw [← hX] at hof hXl ⊢
    have hf := cB_fl X
    have hk := sks32 X X hXl hXl
    have he : eqL (cB X) (cB X) = true := by rw [eqL_cB]; simp
    have hwu : IntKind.u64.wrap (IN B.length) = IN B.length := by simp only [IN]; rw [wu64]; omega
    sym =>
    simp [Zaa,Zab,Zad,Zae,Zaf,Zag,Zah,Zai,Zak,Zal,Zam,Zan,Zao,Zap,Zaq,Zar,Zav,Zaw,Zax,Zay,Zaz,Za0,Za1,Za2,Za3,Za4,Za5,Za6,Za7,Za8,Za9,Zba,Zbb,Zbd,Zbf,Zbh,Zbl,Zbt,Zb1,Zcn,Zc5,Zdc,Zdd,Zde,Zqx,Zqy,Zqz,Zq0,Zq1,Zdi,Zev,Zew,Zex,Zez,Ze0,Ze2,Ze3,Ze4,Ze5,Zfb,Zfc,Zfd,Zfe,Zff,Zfg,Zfh,Zfi,Zfj,Zfl,Zfn,Zfq,Zfz,Zf0,Zf1,Zf3,Zga,Zgb,Zgc,Zgh,Zgi,Zgr,Zgu,Zgv,Zg4,Zg6,Zho,Zh6,Zh7,Zh9,Zix,Ziy,Ziz,Zi0,Zi1,Zi2,Zi3,Zjl,Zjm,Zjp,Zjr,Zju,Zjw,Zj9,Zkv,Zla,Zlb,Zle,Zll,Zlt,Zlu,Zlx,Zly,Zlz,Zl0,Zl1,Zq3,Zq4,Zl2,Zmn,Zmt,Zmv,Zmw,Zmx,Zmz,Zm2,Zm6,Zna,Znb,Zne,Znf,Zng,Znh,Znr,Zns,Znt,Znw,Zn5,Zos,Zot,Zo3,Zo6,Zo7,Zo8,Zo9,Zpa,Zpc,Zpg,Zpi,Zpo,Zpr,Zpu,Zqb,Zqc,Zqf,Zqg,Zqh,Zqi,Zqj,Zqk,Zql,Zqm,Zqn,Zqr,List.length_append,eq_self,true_and,and_true,Nat.zero_add,Nat.mul_one,hBt,hf,hXl,cB_length,cB_cells,callable_12]
    tactic =>
    refine ⟨⟨Nat.le_refl _, cB_okI B⟩, ?_⟩
    refine cl none (hof) trivial ?_
    sym =>
    simp [Zaa,Zab,Zad,Zae,Zaf,Zag,Zah,Zai,Zak,Zal,Zam,Zan,Zao,Zap,Zaq,Zar,Zav,Zaw,Zax,Zay,Zaz,Za0,Za1,Za2,Za3,Za4,Za5,Za6,Za7,Za8,Za9,Zba,Zbb,Zbd,Zbf,Zbh,Zbl,Zbt,Zb1,Zcn,Zc5,Zdc,Zdd,Zde,Zqx,Zqy,Zqz,Zq0,Zq1,Zdi,Zev,Zew,Zex,Zez,Ze0,Ze2,Ze3,Ze4,Ze5,Zfb,Zfc,Zfd,Zfe,Zff,Zfg,Zfh,Zfi,Zfj,Zfl,Zfn,Zfq,Zfz,Zf0,Zf1,Zf3,Zga,Zgb,Zgc,Zgh,Zgi,Zgr,Zgu,Zgv,Zg4,Zg6,Zho,Zh6,Zh7,Zh9,Zix,Ziy,Ziz,Zi0,Zi1,Zi2,Zi3,Zjl,Zjm,Zjp,Zjr,Zju,Zjw,Zj9,Zkv,Zla,Zlb,Zle,Zll,Zlt,Zlu,Zlx,Zly,Zlz,Zl0,Zl1,Zq3,Zq4,Zl2,Zmn,Zmt,Zmv,Zmw,Zmx,Zmz,Zm2,Zm6,Zna,Znb,Zne,Znf,Zng,Znh,Znr,Zns,Znt,Znw,Zn5,Zos,Zot,Zo3,Zo6,Zo7,Zo8,Zo9,Zpa,Zpc,Zpg,Zpi,Zpo,Zpr,Zpu,Zqb,Zqc,Zqf,Zqg,Zqh,Zqi,Zqj,Zqk,Zql,Zqm,Zqn,Zqr,List.length_append,eq_self,true_and,and_true,Nat.zero_add,Nat.mul_one,hBt,hf,hXl,cB_length,cB_cells,hk,he,callable_17]
    tactic =>
    refine cl none (hln) trivial ?_
    have hw := w64s i (by omega)
    sym =>
    simp [Zaa,Zab,Zad,Zae,Zaf,Zag,Zah,Zai,Zak,Zal,Zam,Zan,Zao,Zap,Zaq,Zar,Zav,Zaw,Zax,Zay,Zaz,Za0,Za1,Za2,Za3,Za4,Za5,Za6,Za7,Za8,Za9,Zba,Zbb,Zbd,Zbf,Zbh,Zbl,Zbt,Zb1,Zcn,Zc5,Zdc,Zdd,Zde,Zqx,Zqy,Zqz,Zq0,Zq1,Zdi,Zev,Zew,Zex,Zez,Ze0,Ze2,Ze3,Ze4,Ze5,Zfb,Zfc,Zfd,Zfe,Zff,Zfg,Zfh,Zfi,Zfj,Zfl,Zfn,Zfq,Zfz,Zf0,Zf1,Zf3,Zga,Zgb,Zgc,Zgh,Zgi,Zgr,Zgu,Zgv,Zg4,Zg6,Zho,Zh6,Zh7,Zh9,Zix,Ziy,Ziz,Zi0,Zi1,Zi2,Zi3,Zjl,Zjm,Zjp,Zjr,Zju,Zjw,Zj9,Zkv,Zla,Zlb,Zle,Zll,Zlt,Zlu,Zlx,Zly,Zlz,Zl0,Zl1,Zq3,Zq4,Zl2,Zmn,Zmt,Zmv,Zmw,Zmx,Zmz,Zm2,Zm6,Zna,Znb,Zne,Znf,Zng,Znh,Znr,Zns,Znt,Znw,Zn5,Zos,Zot,Zo3,Zo6,Zo7,Zo8,Zo9,Zpa,Zpc,Zpg,Zpi,Zpo,Zpr,Zpu,Zqb,Zqc,Zqf,Zqg,Zqh,Zqi,Zqj,Zqk,Zql,Zqm,Zqn,Zqr,List.length_append,eq_self,true_and,and_true,Nat.zero_add,Nat.mul_one,hw,hwu]
    tactic =>
    unfold NextL; refine ⟨(k - 1), [(0, 0), (1, 14)], _, by omega, ⟨i + 1, B, by omega, by rw [List.take_add_one, List.getElem?_eq_getElem h, List.flatten_append, ← hA, hB, hp]; simp, hB3, rfl⟩, wkA ?_⟩
    sym =>
    simp [Zaa,Zab,Zad,Zae,Zaf,Zag,Zah,Zai,Zak,Zal,Zam,Zan,Zao,Zap,Zaq,Zar,Zav,Zaw,Zax,Zay,Zaz,Za0,Za1,Za2,Za3,Za4,Za5,Za6,Za7,Za8,Za9,Zba,Zbb,Zbd,Zbf,Zbh,Zbl,Zbt,Zb1,Zcn,Zc5,Zdc,Zdd,Zde,Zqx,Zqy,Zqz,Zq0,Zq1,Zdi,Zev,Zew,Zex,Zez,Ze0,Ze2,Ze3,Ze4,Ze5,Zfb,Zfc,Zfd,Zfe,Zff,Zfg,Zfh,Zfi,Zfj,Zfl,Zfn,Zfq,Zfz,Zf0,Zf1,Zf3,Zga,Zgb,Zgc,Zgh,Zgi,Zgr,Zgu,Zgv,Zg4,Zg6,Zho,Zh6,Zh7,Zh9,Zix,Ziy,Ziz,Zi0,Zi1,Zi2,Zi3,Zjl,Zjm,Zjp,Zjr,Zju,Zjw,Zj9,Zkv,Zla,Zlb,Zle,Zll,Zlt,Zlu,Zlx,Zly,Zlz,Zl0,Zl1,Zq3,Zq4,Zl2,Zmn,Zmt,Zmv,Zmw,Zmx,Zmz,Zm2,Zm6,Zna,Znb,Zne,Znf,Zng,Znh,Znr,Zns,Znt,Znw,Zn5,Zos,Zot,Zo3,Zo6,Zo7,Zo8,Zo9,Zpa,Zpc,Zpg,Zpi,Zpo,Zpr,Zpu,Zqb,Zqc,Zqf,Zqg,Zqh,Zqi,Zqj,Zqk,Zql,Zqm,Zqn,Zqr,List.length_append,eq_self,true_and,and_true,Nat.zero_add,Nat.mul_one]
    tactic =>
    exact rs_self (cB_okI B)
  · have hc0 := clone_m (stS A) (stL A) (IN A.length) (stL_length A)
    have hI : ¬ IN i < IN l.length := by simp only [IN]; omega
    sym =>
    simp [Zaa,Zab,Zad,Zae,Zaf,Zag,Zah,Zai,Zak,Zal,Zam,Zan,Zao,Zap,Zaq,Zar,Zav,Zaw,Zax,Zay,Zaz,Za0,Za1,Za2,Za3,Za4,Za5,Za6,Za7,Za8,Za9,Zba,Zbb,Zbd,Zbf,Zbh,Zbl,Zbt,Zb1,Zcn,Zc5,Zdc,Zdd,Zde,Zqx,Zqy,Zqz,Zq0,Zq1,Zdi,Zev,Zew,Zex,Zez,Ze0,Ze2,Ze3,Ze4,Ze5,Zfb,Zfc,Zfd,Zfe,Zff,Zfg,Zfh,Zfi,Zfj,Zfl,Zfn,Zfq,Zfz,Zf0,Zf1,Zf3,Zga,Zgb,Zgc,Zgh,Zgi,Zgr,Zgu,Zgv,Zg4,Zg6,Zho,Zh6,Zh7,Zh9,Zix,Ziy,Ziz,Zi0,Zi1,Zi2,Zi3,Zjl,Zjm,Zjp,Zjr,Zju,Zjw,Zj9,Zkv,Zla,Zlb,Zle,Zll,Zlt,Zlu,Zlx,Zly,Zlz,Zl0,Zl1,Zq3,Zq4,Zl2,Zmn,Zmt,Zmv,Zmw,Zmx,Zmz,Zm2,Zm6,Zna,Znb,Zne,Znf,Zng,Znh,Znr,Zns,Znt,Znw,Zn5,Zos,Zot,Zo3,Zo6,Zo7,Zo8,Zo9,Zpa,Zpc,Zpg,Zpi,Zpo,Zpr,Zpu,Zqb,Zqc,Zqf,Zqg,Zqh,Zqi,Zqj,Zqk,Zql,Zqm,Zqn,Zqr,List.length_append,eq_self,true_and,and_true,Nat.zero_add,Nat.mul_one,h,callable_18]
    tactic =>
    refine clM ⟨cSt (stS A) (stL A) (IN A.length), 1, 0⟩ (some ⟨cSt (stS A) (stL A) (IN A.length), 1, 0⟩) hc0 ?_ ?_
    · exact ⟨rfl, cSt_okI _ _ _, rfl, rfl, cSt_okI _ _ _⟩
    have hs0 := write_st A more (by omega) (by omega)
    obtain ⟨B, hB⟩ : ∃ B, B = A ++ more := ⟨_, rfl⟩
    have hBl : A.length + more.length = B.length := by rw [hB, List.length_append]
    have hBc : cB A ++ cB more = cB B := by rw [hB, cB_append]
    rw [← hB] at hs0
    sym =>
    simp [Zaa,Zab,Zad,Zae,Zaf,Zag,Zah,Zai,Zak,Zal,Zam,Zan,Zao,Zap,Zaq,Zar,Zav,Zaw,Zax,Zay,Zaz,Za0,Za1,Za2,Za3,Za4,Za5,Za6,Za7,Za8,Za9,Zba,Zbb,Zbd,Zbf,Zbh,Zbl,Zbt,Zb1,Zcn,Zc5,Zdc,Zdd,Zde,Zqx,Zqy,Zqz,Zq0,Zq1,Zdi,Zev,Zew,Zex,Zez,Ze0,Ze2,Ze3,Ze4,Ze5,Zfb,Zfc,Zfd,Zfe,Zff,Zfg,Zfh,Zfi,Zfj,Zfl,Zfn,Zfq,Zfz,Zf0,Zf1,Zf3,Zga,Zgb,Zgc,Zgh,Zgi,Zgr,Zgu,Zgv,Zg4,Zg6,Zho,Zh6,Zh7,Zh9,Zix,Ziy,Ziz,Zi0,Zi1,Zi2,Zi3,Zjl,Zjm,Zjp,Zjr,Zju,Zjw,Zj9,Zkv,Zla,Zlb,Zle,Zll,Zlt,Zlu,Zlx,Zly,Zlz,Zl0,Zl1,Zq3,Zq4,Zl2,Zmn,Zmt,Zmv,Zmw,Zmx,Zmz,Zm2,Zm6,Zna,Znb,Zne,Znf,Zng,Znh,Znr,Zns,Znt,Znw,Zn5,Zos,Zot,Zo3,Zo6,Zo7,Zo8,Zo9,Zpa,Zpc,Zpg,Zpi,Zpo,Zpr,Zpu,Zqb,Zqc,Zqf,Zqg,Zqh,Zqi,Zqj,Zqk,Zql,Zqm,Zqn,Zqr,List.length_append,eq_self,true_and,and_true,Nat.zero_add,Nat.mul_one,callable_15]
    tactic =>
    refine clM ⟨cSt (stS B) (stL B) (IN B.length), 1, 0⟩ none hs0 ?_ ?_
    · exact ⟨rfl, cSt_okI _ _ _, rfl⟩
    sym =>
    simp [Zaa,Zab,Zad,Zae,Zaf,Zag,Zah,Zai,Zak,Zal,Zam,Zan,Zao,Zap,Zaq,Zar,Zav,Zaw,Zax,Zay,Zaz,Za0,Za1,Za2,Za3,Za4,Za5,Za6,Za7,Za8,Za9,Zba,Zbb,Zbd,Zbf,Zbh,Zbl,Zbt,Zb1,Zcn,Zc5,Zdc,Zdd,Zde,Zqx,Zqy,Zqz,Zq0,Zq1,Zdi,Zev,Zew,Zex,Zez,Ze0,Ze2,Ze3,Ze4,Ze5,Zfb,Zfc,Zfd,Zfe,Zff,Zfg,Zfh,Zfi,Zfj,Zfl,Zfn,Zfq,Zfz,Zf0,Zf1,Zf3,Zga,Zgb,Zgc,Zgh,Zgi,Zgr,Zgu,Zgv,Zg4,Zg6,Zho,Zh6,Zh7,Zh9,Zix,Ziy,Ziz,Zi0,Zi1,Zi2,Zi3,Zjl,Zjm,Zjp,Zjr,Zju,Zjw,Zj9,Zkv,Zla,Zlb,Zle,Zll,Zlt,Zlu,Zlx,Zly,Zlz,Zl0,Zl1,Zq3,Zq4,Zl2,Zmn,Zmt,Zmv,Zmw,Zmx,Zmz,Zm2,Zm6,Zna,Znb,Zne,Znf,Zng,Znh,Znr,Zns,Znt,Znw,Zn5,Zos,Zot,Zo3,Zo6,Zo7,Zo8,Zo9,Zpa,Zpc,Zpg,Zpi,Zpo,Zpr,Zpu,Zqb,Zqc,Zqf,Zqg,Zqh,Zqi,Zqj,Zqk,Zql,Zqm,Zqn,Zqr,List.length_append,eq_self,true_and,and_true,Nat.zero_add,Nat.mul_one,callable_16]
    tactic =>
    refine cl none (sum_st B) trivial ?_
    have hAt : List.take A.length (cB A) = cB A := List.take_of_length_le (by rw [cB_length]; exact Nat.le_refl _)
    have hBt : List.take B.length (cB B) = cB B := List.take_of_length_le (by rw [cB_length]; exact Nat.le_refl _)
    have hof := of_con B (by omega)
    have hofA := of_con A (by omega)
    have hXl := digestF_length B
    have hXA := digestF_length A
    have hsA := sum_st A
    have hsB := sum_st B
    have hln := len_con (stS B) (stL B) (IN B.length)
    obtain ⟨X, hX⟩ : ∃ X, X = digestF B := ⟨_, rfl⟩
    obtain ⟨Z, hZ⟩ : ∃ Z, Z = digestF A := ⟨_, rfl⟩
    rw [← hX] at hof hXl hsB ⊢
    rw [← hZ] at hofA hXA hsA
    have hf := cB_fl X
    have hfZ := cB_fl Z
    have hk := sks32 X X hXl hXl
    have he : eqL (cB X) (cB X) = true := by rw [eqL_cB]; simp
    have hkZ := sks32 Z Z hXA hXA
    have heZ : eqL (cB Z) (cB Z) = true := by rw [eqL_cB]; simp
    sym =>
    simp [Zaa,Zab,Zad,Zae,Zaf,Zag,Zah,Zai,Zak,Zal,Zam,Zan,Zao,Zap,Zaq,Zar,Zav,Zaw,Zax,Zay,Zaz,Za0,Za1,Za2,Za3,Za4,Za5,Za6,Za7,Za8,Za9,Zba,Zbb,Zbd,Zbf,Zbh,Zbl,Zbt,Zb1,Zcn,Zc5,Zdc,Zdd,Zde,Zqx,Zqy,Zqz,Zq0,Zq1,Zdi,Zev,Zew,Zex,Zez,Ze0,Ze2,Ze3,Ze4,Ze5,Zfb,Zfc,Zfd,Zfe,Zff,Zfg,Zfh,Zfi,Zfj,Zfl,Zfn,Zfq,Zfz,Zf0,Zf1,Zf3,Zga,Zgb,Zgc,Zgh,Zgi,Zgr,Zgu,Zgv,Zg4,Zg6,Zho,Zh6,Zh7,Zh9,Zix,Ziy,Ziz,Zi0,Zi1,Zi2,Zi3,Zjl,Zjm,Zjp,Zjr,Zju,Zjw,Zj9,Zkv,Zla,Zlb,Zle,Zll,Zlt,Zlu,Zlx,Zly,Zlz,Zl0,Zl1,Zq3,Zq4,Zl2,Zmn,Zmt,Zmv,Zmw,Zmx,Zmz,Zm2,Zm6,Zna,Znb,Zne,Znf,Zng,Znh,Znr,Zns,Znt,Znw,Zn5,Zos,Zot,Zo3,Zo6,Zo7,Zo8,Zo9,Zpa,Zpc,Zpg,Zpi,Zpo,Zpr,Zpu,Zqb,Zqc,Zqf,Zqg,Zqh,Zqi,Zqj,Zqk,Zql,Zqm,Zqn,Zqr,List.length_append,eq_self,true_and,and_true,Nat.zero_add,Nat.mul_one,hAt,hBt,hBl,hBc,hf,hXl,hXA,cB_length,cB_cells,callable_12]
    tactic =>
    refine ⟨⟨Nat.le_refl _, cB_okF A, by omega, by omega⟩, ⟨cB_okF more, by omega, by omega, Nat.zero_le _⟩, ⟨Nat.le_refl _, cB_okI B⟩, ?_⟩
    refine cl none (hof) trivial ?_
    sym =>
    simp [Zaa,Zab,Zad,Zae,Zaf,Zag,Zah,Zai,Zak,Zal,Zam,Zan,Zao,Zap,Zaq,Zar,Zav,Zaw,Zax,Zay,Zaz,Za0,Za1,Za2,Za3,Za4,Za5,Za6,Za7,Za8,Za9,Zba,Zbb,Zbd,Zbf,Zbh,Zbl,Zbt,Zb1,Zcn,Zc5,Zdc,Zdd,Zde,Zqx,Zqy,Zqz,Zq0,Zq1,Zdi,Zev,Zew,Zex,Zez,Ze0,Ze2,Ze3,Ze4,Ze5,Zfb,Zfc,Zfd,Zfe,Zff,Zfg,Zfh,Zfi,Zfj,Zfl,Zfn,Zfq,Zfz,Zf0,Zf1,Zf3,Zga,Zgb,Zgc,Zgh,Zgi,Zgr,Zgu,Zgv,Zg4,Zg6,Zho,Zh6,Zh7,Zh9,Zix,Ziy,Ziz,Zi0,Zi1,Zi2,Zi3,Zjl,Zjm,Zjp,Zjr,Zju,Zjw,Zj9,Zkv,Zla,Zlb,Zle,Zll,Zlt,Zlu,Zlx,Zly,Zlz,Zl0,Zl1,Zq3,Zq4,Zl2,Zmn,Zmt,Zmv,Zmw,Zmx,Zmz,Zm2,Zm6,Zna,Znb,Zne,Znf,Zng,Znh,Znr,Zns,Znt,Znw,Zn5,Zos,Zot,Zo3,Zo6,Zo7,Zo8,Zo9,Zpa,Zpc,Zpg,Zpi,Zpo,Zpr,Zpu,Zqb,Zqc,Zqf,Zqg,Zqh,Zqi,Zqj,Zqk,Zql,Zqm,Zqn,Zqr,List.length_append,eq_self,true_and,and_true,Nat.zero_add,Nat.mul_one,hk,he,hf,hXl,cB_length,callable_16]
    tactic =>
    refine cl none (hsA) trivial ?_
    sym =>
    simp [Zaa,Zab,Zad,Zae,Zaf,Zag,Zah,Zai,Zak,Zal,Zam,Zan,Zao,Zap,Zaq,Zar,Zav,Zaw,Zax,Zay,Zaz,Za0,Za1,Za2,Za3,Za4,Za5,Za6,Za7,Za8,Za9,Zba,Zbb,Zbd,Zbf,Zbh,Zbl,Zbt,Zb1,Zcn,Zc5,Zdc,Zdd,Zde,Zqx,Zqy,Zqz,Zq0,Zq1,Zdi,Zev,Zew,Zex,Zez,Ze0,Ze2,Ze3,Ze4,Ze5,Zfb,Zfc,Zfd,Zfe,Zff,Zfg,Zfh,Zfi,Zfj,Zfl,Zfn,Zfq,Zfz,Zf0,Zf1,Zf3,Zga,Zgb,Zgc,Zgh,Zgi,Zgr,Zgu,Zgv,Zg4,Zg6,Zho,Zh6,Zh7,Zh9,Zix,Ziy,Ziz,Zi0,Zi1,Zi2,Zi3,Zjl,Zjm,Zjp,Zjr,Zju,Zjw,Zj9,Zkv,Zla,Zlb,Zle,Zll,Zlt,Zlu,Zlx,Zly,Zlz,Zl0,Zl1,Zq3,Zq4,Zl2,Zmn,Zmt,Zmv,Zmw,Zmx,Zmz,Zm2,Zm6,Zna,Znb,Zne,Znf,Zng,Znh,Znr,Zns,Znt,Znw,Zn5,Zos,Zot,Zo3,Zo6,Zo7,Zo8,Zo9,Zpa,Zpc,Zpg,Zpi,Zpo,Zpr,Zpu,Zqb,Zqc,Zqf,Zqg,Zqh,Zqi,Zqj,Zqk,Zql,Zqm,Zqn,Zqr,List.length_append,eq_self,true_and,and_true,Nat.zero_add,Nat.mul_one,hAt,hfZ,hXA,cB_length,callable_12]
    tactic =>
    refine ⟨⟨Nat.le_refl _, cB_okI A⟩, ?_⟩
    refine cl none (hofA) trivial ?_
    sym =>
    simp [Zaa,Zab,Zad,Zae,Zaf,Zag,Zah,Zai,Zak,Zal,Zam,Zan,Zao,Zap,Zaq,Zar,Zav,Zaw,Zax,Zay,Zaz,Za0,Za1,Za2,Za3,Za4,Za5,Za6,Za7,Za8,Za9,Zba,Zbb,Zbd,Zbf,Zbh,Zbl,Zbt,Zb1,Zcn,Zc5,Zdc,Zdd,Zde,Zqx,Zqy,Zqz,Zq0,Zq1,Zdi,Zev,Zew,Zex,Zez,Ze0,Ze2,Ze3,Ze4,Ze5,Zfb,Zfc,Zfd,Zfe,Zff,Zfg,Zfh,Zfi,Zfj,Zfl,Zfn,Zfq,Zfz,Zf0,Zf1,Zf3,Zga,Zgb,Zgc,Zgh,Zgi,Zgr,Zgu,Zgv,Zg4,Zg6,Zho,Zh6,Zh7,Zh9,Zix,Ziy,Ziz,Zi0,Zi1,Zi2,Zi3,Zjl,Zjm,Zjp,Zjr,Zju,Zjw,Zj9,Zkv,Zla,Zlb,Zle,Zll,Zlt,Zlu,Zlx,Zly,Zlz,Zl0,Zl1,Zq3,Zq4,Zl2,Zmn,Zmt,Zmv,Zmw,Zmx,Zmz,Zm2,Zm6,Zna,Znb,Zne,Znf,Zng,Znh,Znr,Zns,Znt,Znw,Zn5,Zos,Zot,Zo3,Zo6,Zo7,Zo8,Zo9,Zpa,Zpc,Zpg,Zpi,Zpo,Zpr,Zpu,Zqb,Zqc,Zqf,Zqg,Zqh,Zqi,Zqj,Zqk,Zql,Zqm,Zqn,Zqr,List.length_append,eq_self,true_and,and_true,Nat.zero_add,Nat.mul_one,hkZ,heZ,hfZ,hXA,cB_length,callable_15]
    tactic =>
    refine clM ⟨cSt (stS B) (stL B) (IN B.length), 1, 0⟩ none hs0 ?_ ?_
    · exact ⟨rfl, cSt_okI _ _ _, rfl⟩
    sym =>
    simp [Zaa,Zab,Zad,Zae,Zaf,Zag,Zah,Zai,Zak,Zal,Zam,Zan,Zao,Zap,Zaq,Zar,Zav,Zaw,Zax,Zay,Zaz,Za0,Za1,Za2,Za3,Za4,Za5,Za6,Za7,Za8,Za9,Zba,Zbb,Zbd,Zbf,Zbh,Zbl,Zbt,Zb1,Zcn,Zc5,Zdc,Zdd,Zde,Zqx,Zqy,Zqz,Zq0,Zq1,Zdi,Zev,Zew,Zex,Zez,Ze0,Ze2,Ze3,Ze4,Ze5,Zfb,Zfc,Zfd,Zfe,Zff,Zfg,Zfh,Zfi,Zfj,Zfl,Zfn,Zfq,Zfz,Zf0,Zf1,Zf3,Zga,Zgb,Zgc,Zgh,Zgi,Zgr,Zgu,Zgv,Zg4,Zg6,Zho,Zh6,Zh7,Zh9,Zix,Ziy,Ziz,Zi0,Zi1,Zi2,Zi3,Zjl,Zjm,Zjp,Zjr,Zju,Zjw,Zj9,Zkv,Zla,Zlb,Zle,Zll,Zlt,Zlu,Zlx,Zly,Zlz,Zl0,Zl1,Zq3,Zq4,Zl2,Zmn,Zmt,Zmv,Zmw,Zmx,Zmz,Zm2,Zm6,Zna,Znb,Zne,Znf,Zng,Znh,Znr,Zns,Znt,Znw,Zn5,Zos,Zot,Zo3,Zo6,Zo7,Zo8,Zo9,Zpa,Zpc,Zpg,Zpi,Zpo,Zpr,Zpu,Zqb,Zqc,Zqf,Zqg,Zqh,Zqi,Zqj,Zqk,Zql,Zqm,Zqn,Zqr,List.length_append,eq_self,true_and,and_true,Nat.zero_add,Nat.mul_one,callable_16]
    tactic =>
    refine cl none (hsB) trivial ?_
    sym =>
    simp [Zaa,Zab,Zad,Zae,Zaf,Zag,Zah,Zai,Zak,Zal,Zam,Zan,Zao,Zap,Zaq,Zar,Zav,Zaw,Zax,Zay,Zaz,Za0,Za1,Za2,Za3,Za4,Za5,Za6,Za7,Za8,Za9,Zba,Zbb,Zbd,Zbf,Zbh,Zbl,Zbt,Zb1,Zcn,Zc5,Zdc,Zdd,Zde,Zqx,Zqy,Zqz,Zq0,Zq1,Zdi,Zev,Zew,Zex,Zez,Ze0,Ze2,Ze3,Ze4,Ze5,Zfb,Zfc,Zfd,Zfe,Zff,Zfg,Zfh,Zfi,Zfj,Zfl,Zfn,Zfq,Zfz,Zf0,Zf1,Zf3,Zga,Zgb,Zgc,Zgh,Zgi,Zgr,Zgu,Zgv,Zg4,Zg6,Zho,Zh6,Zh7,Zh9,Zix,Ziy,Ziz,Zi0,Zi1,Zi2,Zi3,Zjl,Zjm,Zjp,Zjr,Zju,Zjw,Zj9,Zkv,Zla,Zlb,Zle,Zll,Zlt,Zlu,Zlx,Zly,Zlz,Zl0,Zl1,Zq3,Zq4,Zl2,Zmn,Zmt,Zmv,Zmw,Zmx,Zmz,Zm2,Zm6,Zna,Znb,Zne,Znf,Zng,Znh,Znr,Zns,Znt,Znw,Zn5,Zos,Zot,Zo3,Zo6,Zo7,Zo8,Zo9,Zpa,Zpc,Zpg,Zpi,Zpo,Zpr,Zpu,Zqb,Zqc,Zqf,Zqg,Zqh,Zqi,Zqj,Zqk,Zql,Zqm,Zqn,Zqr,List.length_append,eq_self,true_and,and_true,Nat.zero_add,Nat.mul_one,hf,callable_16]
    tactic =>
    refine cl none (hsB) trivial ?_
    sym =>
    simp [Zaa,Zab,Zad,Zae,Zaf,Zag,Zah,Zai,Zak,Zal,Zam,Zan,Zao,Zap,Zaq,Zar,Zav,Zaw,Zax,Zay,Zaz,Za0,Za1,Za2,Za3,Za4,Za5,Za6,Za7,Za8,Za9,Zba,Zbb,Zbd,Zbf,Zbh,Zbl,Zbt,Zb1,Zcn,Zc5,Zdc,Zdd,Zde,Zqx,Zqy,Zqz,Zq0,Zq1,Zdi,Zev,Zew,Zex,Zez,Ze0,Ze2,Ze3,Ze4,Ze5,Zfb,Zfc,Zfd,Zfe,Zff,Zfg,Zfh,Zfi,Zfj,Zfl,Zfn,Zfq,Zfz,Zf0,Zf1,Zf3,Zga,Zgb,Zgc,Zgh,Zgi,Zgr,Zgu,Zgv,Zg4,Zg6,Zho,Zh6,Zh7,Zh9,Zix,Ziy,Ziz,Zi0,Zi1,Zi2,Zi3,Zjl,Zjm,Zjp,Zjr,Zju,Zjw,Zj9,Zkv,Zla,Zlb,Zle,Zll,Zlt,Zlu,Zlx,Zly,Zlz,Zl0,Zl1,Zq3,Zq4,Zl2,Zmn,Zmt,Zmv,Zmw,Zmx,Zmz,Zm2,Zm6,Zna,Znb,Zne,Znf,Zng,Znh,Znr,Zns,Znt,Znw,Zn5,Zos,Zot,Zo3,Zo6,Zo7,Zo8,Zo9,Zpa,Zpc,Zpg,Zpi,Zpo,Zpr,Zpu,Zqb,Zqc,Zqf,Zqg,Zqh,Zqi,Zqj,Zqk,Zql,Zqm,Zqn,Zqr,List.length_append,eq_self,true_and,and_true,Nat.zero_add,Nat.mul_one,hk,he,hf,hXl,cB_length,callable_17]
    tactic =>
    refine cl none (hln) trivial ?_
    sym =>
    simp [Zaa,Zab,Zad,Zae,Zaf,Zag,Zah,Zai,Zak,Zal,Zam,Zan,Zao,Zap,Zaq,Zar,Zav,Zaw,Zax,Zay,Zaz,Za0,Za1,Za2,Za3,Za4,Za5,Za6,Za7,Za8,Za9,Zba,Zbb,Zbd,Zbf,Zbh,Zbl,Zbt,Zb1,Zcn,Zc5,Zdc,Zdd,Zde,Zqx,Zqy,Zqz,Zq0,Zq1,Zdi,Zev,Zew,Zex,Zez,Ze0,Ze2,Ze3,Ze4,Ze5,Zfb,Zfc,Zfd,Zfe,Zff,Zfg,Zfh,Zfi,Zfj,Zfl,Zfn,Zfq,Zfz,Zf0,Zf1,Zf3,Zga,Zgb,Zgc,Zgh,Zgi,Zgr,Zgu,Zgv,Zg4,Zg6,Zho,Zh6,Zh7,Zh9,Zix,Ziy,Ziz,Zi0,Zi1,Zi2,Zi3,Zjl,Zjm,Zjp,Zjr,Zju,Zjw,Zj9,Zkv,Zla,Zlb,Zle,Zll,Zlt,Zlu,Zlx,Zly,Zlz,Zl0,Zl1,Zq3,Zq4,Zl2,Zmn,Zmt,Zmv,Zmw,Zmx,Zmz,Zm2,Zm6,Zna,Znb,Zne,Znf,Zng,Znh,Znr,Zns,Znt,Znw,Zn5,Zos,Zot,Zo3,Zo6,Zo7,Zo8,Zo9,Zpa,Zpc,Zpg,Zpi,Zpo,Zpr,Zpu,Zqb,Zqc,Zqf,Zqg,Zqh,Zqi,Zqj,Zqk,Zql,Zqm,Zqn,Zqr,List.length_append,eq_self,true_and,and_true,Nat.zero_add,Nat.mul_one,callable_17]
    tactic =>
    refine cl none (hln) trivial ?_
    sym =>
    simp [Zaa,Zab,Zad,Zae,Zaf,Zag,Zah,Zai,Zak,Zal,Zam,Zan,Zao,Zap,Zaq,Zar,Zav,Zaw,Zax,Zay,Zaz,Za0,Za1,Za2,Za3,Za4,Za5,Za6,Za7,Za8,Za9,Zba,Zbb,Zbd,Zbf,Zbh,Zbl,Zbt,Zb1,Zcn,Zc5,Zdc,Zdd,Zde,Zqx,Zqy,Zqz,Zq0,Zq1,Zdi,Zev,Zew,Zex,Zez,Ze0,Ze2,Ze3,Ze4,Ze5,Zfb,Zfc,Zfd,Zfe,Zff,Zfg,Zfh,Zfi,Zfj,Zfl,Zfn,Zfq,Zfz,Zf0,Zf1,Zf3,Zga,Zgb,Zgc,Zgh,Zgi,Zgr,Zgu,Zgv,Zg4,Zg6,Zho,Zh6,Zh7,Zh9,Zix,Ziy,Ziz,Zi0,Zi1,Zi2,Zi3,Zjl,Zjm,Zjp,Zjr,Zju,Zjw,Zj9,Zkv,Zla,Zlb,Zle,Zll,Zlt,Zlu,Zlx,Zly,Zlz,Zl0,Zl1,Zq3,Zq4,Zl2,Zmn,Zmt,Zmv,Zmw,Zmx,Zmz,Zm2,Zm6,Zna,Znb,Zne,Znf,Zng,Znh,Znr,Zns,Znt,Znw,Zn5,Zos,Zot,Zo3,Zo6,Zo7,Zo8,Zo9,Zpa,Zpc,Zpg,Zpi,Zpo,Zpr,Zpu,Zqb,Zqc,Zqf,Zqg,Zqh,Zqi,Zqj,Zqk,Zql,Zqm,Zqn,Zqr,List.length_append,eq_self,true_and,and_true,Nat.zero_add,Nat.mul_one,callable_11]
    tactic =>
    refine cl none (alive_con) trivial ?_
    sym =>
    simp [Zaa,Zab,Zad,Zae,Zaf,Zag,Zah,Zai,Zak,Zal,Zam,Zan,Zao,Zap,Zaq,Zar,Zav,Zaw,Zax,Zay,Zaz,Za0,Za1,Za2,Za3,Za4,Za5,Za6,Za7,Za8,Za9,Zba,Zbb,Zbd,Zbf,Zbh,Zbl,Zbt,Zb1,Zcn,Zc5,Zdc,Zdd,Zde,Zqx,Zqy,Zqz,Zq0,Zq1,Zdi,Zev,Zew,Zex,Zez,Ze0,Ze2,Ze3,Ze4,Ze5,Zfb,Zfc,Zfd,Zfe,Zff,Zfg,Zfh,Zfi,Zfj,Zfl,Zfn,Zfq,Zfz,Zf0,Zf1,Zf3,Zga,Zgb,Zgc,Zgh,Zgi,Zgr,Zgu,Zgv,Zg4,Zg6,Zho,Zh6,Zh7,Zh9,Zix,Ziy,Ziz,Zi0,Zi1,Zi2,Zi3,Zjl,Zjm,Zjp,Zjr,Zju,Zjw,Zj9,Zkv,Zla,Zlb,Zle,Zll,Zlt,Zlu,Zlx,Zly,Zlz,Zl0,Zl1,Zq3,Zq4,Zl2,Zmn,Zmt,Zmv,Zmw,Zmx,Zmz,Zm2,Zm6,Zna,Znb,Zne,Znf,Zng,Znh,Znr,Zns,Znt,Znw,Zn5,Zos,Zot,Zo3,Zo6,Zo7,Zo8,Zo9,Zpa,Zpc,Zpg,Zpi,Zpo,Zpr,Zpu,Zqb,Zqc,Zqf,Zqg,Zqh,Zqi,Zqj,Zqk,Zql,Zqm,Zqn,Zqr,List.length_append,eq_self,true_and,and_true,Nat.zero_add,Nat.mul_one]
    tactic =>
    refine endA ?_
    sym =>
    simp [Zaa,Zab,Zad,Zae,Zaf,Zag,Zah,Zai,Zak,Zal,Zam,Zan,Zao,Zap,Zaq,Zar,Zav,Zaw,Zax,Zay,Zaz,Za0,Za1,Za2,Za3,Za4,Za5,Za6,Za7,Za8,Za9,Zba,Zbb,Zbd,Zbf,Zbh,Zbl,Zbt,Zb1,Zcn,Zc5,Zdc,Zdd,Zde,Zqx,Zqy,Zqz,Zq0,Zq1,Zdi,Zev,Zew,Zex,Zez,Ze0,Ze2,Ze3,Ze4,Ze5,Zfb,Zfc,Zfd,Zfe,Zff,Zfg,Zfh,Zfi,Zfj,Zfl,Zfn,Zfq,Zfz,Zf0,Zf1,Zf3,Zga,Zgb,Zgc,Zgh,Zgi,Zgr,Zgu,Zgv,Zg4,Zg6,Zho,Zh6,Zh7,Zh9,Zix,Ziy,Ziz,Zi0,Zi1,Zi2,Zi3,Zjl,Zjm,Zjp,Zjr,Zju,Zjw,Zj9,Zkv,Zla,Zlb,Zle,Zll,Zlt,Zlu,Zlx,Zly,Zlz,Zl0,Zl1,Zq3,Zq4,Zl2,Zmn,Zmt,Zmv,Zmw,Zmx,Zmz,Zm2,Zm6,Zna,Znb,Zne,Znf,Zng,Znh,Znr,Zns,Znt,Znw,Zn5,Zos,Zot,Zo3,Zo6,Zo7,Zo8,Zo9,Zpa,Zpc,Zpg,Zpi,Zpo,Zpr,Zpu,Zqb,Zqc,Zqf,Zqg,Zqh,Zqi,Zqj,Zqk,Zql,Zqm,Zqn,Zqr,List.length_append,eq_self,true_and,and_true,Nat.zero_add,Nat.mul_one]
theorem flat_cB : ∀ l : List Int, (l.flatMap fun n : Int => [AV.sc (.int .u8 n)]) = cB l
  | [] => rfl
  | a :: l => by
    show [AV.sc (.int .u8 a)] ++ l.flatMap (fun n : Int => [AV.sc (.int .u8 n)]) = cB (a :: l)
    rw [flat_cB l]; rfl
theorem flat_cL : ∀ l : List (List Int), (l.flatMap fun p : List Int => [AV.fz p.length (p.flatMap fun n : Int => [AV.sc (.int .u8 n)])]) = cL l
  | [] => rfl
  | p :: l => by
    show [AV.fz p.length (p.flatMap fun n : Int => [AV.sc (.int .u8 n)])] ++ l.flatMap (fun p : List Int => [AV.fz p.length (p.flatMap fun n : Int => [AV.sc (.int .u8 n)])]) = cL (p :: l)
    rw [flat_cL l, flat_cB]; rfl
theorem parts_law (l : List (List Int)) (more : List Int) : Con Try.prog 4 [] [.fz l.length (l.flatMap fun p : List Int => [AV.fz p.length (p.flatMap fun n : Int => [AV.sc (.int .u8 n)])]), .fz more.length (more.flatMap fun n : Int => [AV.sc (.int .u8 n)])] [] (Bo true) := by
  rw [flat_cL, flat_cB]
  exact parts_con l more
end Go.Proofs.Ytdjjibmjinllnaa.DigT
