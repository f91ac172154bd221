import Derived.Test.YtdjjibmjinllnaaDigC
import Derived.Test.YtdjjibmjinllnaaCodD
namespace Go.Proofs.Ytdjjibmjinllnaa.DigV
open Go Go.Sim Go.Sim.E Go.RowKit Go.Proofs Go.Proofs.Ytdjjibmjinllnaa.Cod Go.Proofs.Ytdjjibmjinllnaa.Tab Go.Proofs.Ytdjjibmjinllnaa.DigA Go.Proofs.Ytdjjibmjinllnaa.DigB Go.Proofs.Ytdjjibmjinllnaa.DigC
set_option linter.unusedVariables false
set_option linter.unusedSimpArgs false
set_option maxRecDepth 100000
set_option maxHeartbeats 4000000
abbrev np : AV := .sc (.pointer none)
theorem np_cel (st : St) : cel st (.sc (.pointer none)) = some [.sc (.pointer none)] := rfl
theorem np_okc (st : St) : okc st (.sc (.pointer none)) = true := rfl
theorem np_okf : okf (.sc (.pointer none)) = true := rfl
theorem np_isF : isF (.sc (.pointer none)) = true := rfl
theorem np_isFl : isFl (.sc (.pointer none)) = true := rfl
theorem np_flat : flat (.sc (.pointer none)) = true := rfl
theorem ok_nil : Con Try.prog 46 [] [np] [] (Bo false) := by
  refine con_j b46 rfl ?_
  sym =>
  simp [Zab,Zad,Zak,Zam,Zaz,Za0,Za1,Za2,Za3,Za4,Za5,Za6,Za7,Za8,Za9,Zba,Zbb,Zbd,Zq9,Zrc,Zev,Zew,Zex,Zez,Ze0,Ze2,Zfd,Zfe,Zfh,Zfi,Zfk,Zmt,Zmv,Zmw,Zmx,Zmz,Zm2,Zna,Znb,Zos,Zot,Zo7,Zpc,eq_self,true_and]
  tactic =>
  refine endA ?_
  sym =>
  simp [Zab,Zad,Zak,Zam,Zaz,Za0,Za1,Za2,Za3,Za4,Za5,Za6,Za7,Za8,Za9,Zba,Zbb,Zbd,Zq9,Zrc,Zev,Zew,Zex,Zez,Ze0,Ze2,Zfd,Zfe,Zfh,Zfi,Zfk,Zmt,Zmv,Zmw,Zmx,Zmz,Zm2,Zna,Znb,Zos,Zot,Zo7,Zpc,eq_self,true_and]
theorem ok_no (c : List AV) (h : c.getD 0 .un = Bo false) (h1 : 1 ≤ c.length) : Con Try.prog 46 [] [.fp c 0] [] (Bo false) := ok_con c false h h1
abbrev zSt : List AV := [Bo false, U 0, U 0, U 0, U 0, U 0, U 0, U 0, U 0, .nl, L 0]
theorem write_nil (b : List Int) : Con Try.prog 15 [] [np, fB b] [] (.tu []) := by
  refine con_j b15 rfl ?_
  sym =>
  simp [Zab,Zad,Zae,Zaf,Zak,Zam,Zao,Zaz,Za0,Za1,Za2,Za3,Za4,Za5,Za9,Zba,Zbb,Zbj,Zdc,Zdd,Zde,Zdi,Zev,Zew,Zez,Ze0,Ze2,Zfd,Zfe,Zfh,Zgd,Zgg,Zjw,Zla,Zlb,Zle,Zlj,Zlz,Zmt,Zmv,Zmw,Zm4,Zna,Znb,Zne,Znf,Zng,Zos,Zot,Zo4,Zo7,Zp9,Zqd,eq_self,true_and,and_true,callable_46]
  tactic =>
  refine cl none (ok_nil) trivial ?_
  sym =>
  simp [Zab,Zad,Zae,Zaf,Zak,Zam,Zao,Zaz,Za0,Za1,Za2,Za3,Za4,Za5,Za9,Zba,Zbb,Zbj,Zdc,Zdd,Zde,Zdi,Zev,Zew,Zez,Ze0,Ze2,Zfd,Zfe,Zfh,Zgd,Zgg,Zjw,Zla,Zlb,Zle,Zlj,Zlz,Zmt,Zmv,Zmw,Zm4,Zna,Znb,Zne,Znf,Zng,Zos,Zot,Zo4,Zo7,Zp9,Zqd,eq_self,true_and,and_true]
  tactic =>
  refine endA ?_
  sym =>
  simp [Zab,Zad,Zae,Zaf,Zak,Zam,Zao,Zaz,Za0,Za1,Za2,Za3,Za4,Za5,Za9,Zba,Zbb,Zbj,Zdc,Zdd,Zde,Zdi,Zev,Zew,Zez,Ze0,Ze2,Zfd,Zfe,Zfh,Zgd,Zgg,Zjw,Zla,Zlb,Zle,Zlj,Zlz,Zmt,Zmv,Zmw,Zm4,Zna,Znb,Zne,Znf,Zng,Zos,Zot,Zo4,Zo7,Zp9,Zqd,eq_self,true_and,and_true]
theorem write_no (b : List Int) : Con Try.prog 15 [] [.fp zSt 0, fB b] [] (.tu []) := by
  refine con_j b15 rfl ?_
  sym =>
  simp [Zab,Zad,Zae,Zaf,Zak,Zam,Zao,Zaz,Za0,Za1,Za2,Za3,Za4,Za5,Za9,Zba,Zbb,Zbj,Zdc,Zdd,Zde,Zdi,Zev,Zew,Zez,Ze0,Ze2,Zfd,Zfe,Zfh,Zgd,Zgg,Zjw,Zla,Zlb,Zle,Zln,Zlz,Zmt,Zmv,Zmw,Zm4,Zna,Znb,Zne,Znf,Zng,Zos,Zot,Zo4,Zo7,Zp9,Zqd,eq_self,true_and,and_true,Nat.zero_add,callable_46]
  tactic =>
  refine cl none (ok_no _ rfl (by simp)) trivial ?_
  sym =>
  simp [Zab,Zad,Zae,Zaf,Zak,Zam,Zao,Zaz,Za0,Za1,Za2,Za3,Za4,Za5,Za9,Zba,Zbb,Zbj,Zdc,Zdd,Zde,Zdi,Zev,Zew,Zez,Ze0,Ze2,Zfd,Zfe,Zfh,Zgd,Zgg,Zjw,Zla,Zlb,Zle,Zln,Zlz,Zmt,Zmv,Zmw,Zm4,Zna,Znb,Zne,Znf,Zng,Zos,Zot,Zo4,Zo7,Zp9,Zqd,eq_self,true_and,and_true,Nat.zero_add]
  tactic =>
  refine endA ?_
  sym =>
  simp [Zab,Zad,Zae,Zaf,Zak,Zam,Zao,Zaz,Za0,Za1,Za2,Za3,Za4,Za5,Za9,Zba,Zbb,Zbj,Zdc,Zdd,Zde,Zdi,Zev,Zew,Zez,Ze0,Ze2,Zfd,Zfe,Zfh,Zgd,Zgg,Zjw,Zla,Zlb,Zle,Zln,Zlz,Zmt,Zmv,Zmw,Zm4,Zna,Znb,Zne,Znf,Zng,Zos,Zot,Zo4,Zo7,Zp9,Zqd,eq_self,true_and,and_true,Nat.zero_add]
theorem sum_nil : Con Try.prog 16 [] [np] [] (.ag z32) := by
  refine con_j b16 rfl ?_
  sym =>
  simp [Zab,Zad,Zae,Zaf,Zak,Zal,Zam,Zao,Zay,Zaz,Za0,Za1,Za2,Za3,Za4,Za5,Za9,Zba,Zbb,Zbj,Zbt,Zcv,Zc3,Zdc,Zdd,Zde,Zdi,Zev,Zew,Zez,Ze0,Ze1,Ze2,Ze3,Ze5,Ze8,Zfc,Zfd,Zfe,Zfh,Zgd,Zgg,Zgr,Zgs,Zgt,Zin,Ziu,Ziv,Ziw,Zi6,Zjw,Zla,Zlb,Zle,Zlj,Zlz,Zmt,Zmv,Zmw,Zmy,Zm0,Zm1,Zm2,Zm5,Zna,Znb,Zne,Znf,Zng,Zos,Zot,Zo4,Zo7,Zp8,List.length_replicate,eq_self,true_and,and_true,callable_46]
  tactic =>
  refine cl none (ok_nil) trivial ?_
  have hr : rdb z32 0 32 = z32 := rdb_all (by simp)
  have hs : spl z32 0 z32 = z32 := spl_new _ _ (by simp)
  have hc : ∀ st, okCells st z32 = True := fun st => cB_cells st (List.replicate 32 0)
  sym =>
  simp [Zab,Zad,Zae,Zaf,Zak,Zal,Zam,Zao,Zay,Zaz,Za0,Za1,Za2,Za3,Za4,Za5,Za9,Zba,Zbb,Zbj,Zbt,Zcv,Zc3,Zdc,Zdd,Zde,Zdi,Zev,Zew,Zez,Ze0,Ze1,Ze2,Ze3,Ze5,Ze8,Zfc,Zfd,Zfe,Zfh,Zgd,Zgg,Zgr,Zgs,Zgt,Zin,Ziu,Ziv,Ziw,Zi6,Zjw,Zla,Zlb,Zle,Zlj,Zlz,Zmt,Zmv,Zmw,Zmy,Zm0,Zm1,Zm2,Zm5,Zna,Znb,Zne,Znf,Zng,Zos,Zot,Zo4,Zo7,Zp8,List.length_replicate,eq_self,true_and,and_true,hr,hs,hc,List.length_replicate]
  tactic =>
  refine endA ?_
  sym =>
  simp [Zab,Zad,Zae,Zaf,Zak,Zal,Zam,Zao,Zay,Zaz,Za0,Za1,Za2,Za3,Za4,Za5,Za9,Zba,Zbb,Zbj,Zbt,Zcv,Zc3,Zdc,Zdd,Zde,Zdi,Zev,Zew,Zez,Ze0,Ze1,Ze2,Ze3,Ze5,Ze8,Zfc,Zfd,Zfe,Zfh,Zgd,Zgg,Zgr,Zgs,Zgt,Zin,Ziu,Ziv,Ziw,Zi6,Zjw,Zla,Zlb,Zle,Zlj,Zlz,Zmt,Zmv,Zmw,Zmy,Zm0,Zm1,Zm2,Zm5,Zna,Znb,Zne,Znf,Zng,Zos,Zot,Zo4,Zo7,Zp8,List.length_replicate,eq_self,true_and,and_true]
  tactic =>
  exact rs_self z32_okI
theorem sum_no : Con Try.prog 16 [] [.fp zSt 0] [] (.ag z32) := by
  refine con_j b16 rfl ?_
  sym =>
  simp [Zab,Zad,Zae,Zaf,Zak,Zal,Zam,Zao,Zay,Zaz,Za0,Za1,Za2,Za3,Za4,Za5,Za9,Zba,Zbb,Zbj,Zbt,Zcv,Zc3,Zdc,Zdd,Zde,Zdi,Zev,Zew,Zez,Ze0,Ze1,Ze2,Ze3,Ze5,Ze8,Zfc,Zfd,Zfe,Zfh,Zgd,Zgg,Zgr,Zgs,Zgt,Zin,Ziu,Ziv,Ziw,Zi6,Zjw,Zla,Zlb,Zle,Zln,Zlz,Zmt,Zmv,Zmw,Zmy,Zm0,Zm1,Zm2,Zm5,Zna,Znb,Zne,Znf,Zng,Zos,Zot,Zo4,Zo7,Zp8,List.length_replicate,eq_self,true_and,and_true,Nat.zero_add,callable_46]
  tactic =>
  refine cl none (ok_no _ rfl (by simp)) trivial ?_
  have hr : rdb z32 0 32 = z32 := rdb_all (by simp)
  have hs : spl z32 0 z32 = z32 := spl_new _ _ (by simp)
  have hc : ∀ st, okCells st z32 = True := fun st => cB_cells st (List.replicate 32 0)
  sym =>
  simp [Zab,Zad,Zae,Zaf,Zak,Zal,Zam,Zao,Zay,Zaz,Za0,Za1,Za2,Za3,Za4,Za5,Za9,Zba,Zbb,Zbj,Zbt,Zcv,Zc3,Zdc,Zdd,Zde,Zdi,Zev,Zew,Zez,Ze0,Ze1,Ze2,Ze3,Ze5,Ze8,Zfc,Zfd,Zfe,Zfh,Zgd,Zgg,Zgr,Zgs,Zgt,Zin,Ziu,Ziv,Ziw,Zi6,Zjw,Zla,Zlb,Zle,Zln,Zlz,Zmt,Zmv,Zmw,Zmy,Zm0,Zm1,Zm2,Zm5,Zna,Znb,Zne,Znf,Zng,Zos,Zot,Zo4,Zo7,Zp8,List.length_replicate,eq_self,true_and,and_true,Nat.zero_add,hr,hs,hc,List.length_replicate]
  tactic =>
  refine endA ?_
  sym =>
  simp [Zab,Zad,Zae,Zaf,Zak,Zal,Zam,Zao,Zay,Zaz,Za0,Za1,Za2,Za3,Za4,Za5,Za9,Zba,Zbb,Zbj,Zbt,Zcv,Zc3,Zdc,Zdd,Zde,Zdi,Zev,Zew,Zez,Ze0,Ze1,Ze2,Ze3,Ze5,Ze8,Zfc,Zfd,Zfe,Zfh,Zgd,Zgg,Zgr,Zgs,Zgt,Zin,Ziu,Ziv,Ziw,Zi6,Zjw,Zla,Zlb,Zle,Zln,Zlz,Zmt,Zmv,Zmw,Zmy,Zm0,Zm1,Zm2,Zm5,Zna,Znb,Zne,Znf,Zng,Zos,Zot,Zo4,Zo7,Zp8,List.length_replicate,eq_self,true_and,and_true,Nat.zero_add]
  tactic =>
  exact rs_self z32_okI
theorem len_nil : Con Try.prog 17 [] [np] [] (L 0) := by
  refine con_j b17 rfl ?_
  sym =>
  simp [Zab,Zad,Zae,Zaf,Zak,Zal,Zam,Zao,Zay,Zaz,Za0,Za1,Za2,Za3,Za4,Za5,Za9,Zba,Zbb,Zbj,Zdc,Zdd,Zde,Zdi,Zev,Zew,Zez,Ze0,Ze2,Zfd,Zfe,Zfh,Zgd,Zgg,Zjw,Zla,Zlb,Zle,Zlj,Zlz,Zmt,Zmv,Zmw,Zmx,Zmz,Zm2,Zna,Znb,Zne,Znf,Zng,Zos,Zot,Zo4,Zo7,Zpc,eq_self,true_and,and_true,callable_46]
  tactic =>
  refine cl none (ok_nil) trivial ?_
  sym =>
  simp [Zab,Zad,Zae,Zaf,Zak,Zal,Zam,Zao,Zay,Zaz,Za0,Za1,Za2,Za3,Za4,Za5,Za9,Zba,Zbb,Zbj,Zdc,Zdd,Zde,Zdi,Zev,Zew,Zez,Ze0,Ze2,Zfd,Zfe,Zfh,Zgd,Zgg,Zjw,Zla,Zlb,Zle,Zlj,Zlz,Zmt,Zmv,Zmw,Zmx,Zmz,Zm2,Zna,Znb,Zne,Znf,Zng,Zos,Zot,Zo4,Zo7,Zpc,eq_self,true_and,and_true]
  tactic =>
  refine endA ?_
  sym =>
  simp [Zab,Zad,Zae,Zaf,Zak,Zal,Zam,Zao,Zay,Zaz,Za0,Za1,Za2,Za3,Za4,Za5,Za9,Zba,Zbb,Zbj,Zdc,Zdd,Zde,Zdi,Zev,Zew,Zez,Ze0,Ze2,Zfd,Zfe,Zfh,Zgd,Zgg,Zjw,Zla,Zlb,Zle,Zlj,Zlz,Zmt,Zmv,Zmw,Zmx,Zmz,Zm2,Zna,Znb,Zne,Znf,Zng,Zos,Zot,Zo4,Zo7,Zpc,eq_self,true_and,and_true]
theorem len_no : Con Try.prog 17 [] [.fp zSt 0] [] (L 0) := by
  refine con_j b17 rfl ?_
  sym =>
  simp [Zab,Zad,Zae,Zaf,Zak,Zal,Zam,Zao,Zay,Zaz,Za0,Za1,Za2,Za3,Za4,Za5,Za9,Zba,Zbb,Zbj,Zdc,Zdd,Zde,Zdi,Zev,Zew,Zez,Ze0,Ze2,Zfd,Zfe,Zfh,Zgd,Zgg,Zjw,Zla,Zlb,Zle,Zln,Zlz,Zmt,Zmv,Zmw,Zmx,Zmz,Zm2,Zna,Znb,Zne,Znf,Zng,Zos,Zot,Zo4,Zo7,Zpc,eq_self,true_and,and_true,Nat.zero_add,callable_46]
  tactic =>
  refine cl none (ok_no _ rfl (by simp)) trivial ?_
  sym =>
  simp [Zab,Zad,Zae,Zaf,Zak,Zal,Zam,Zao,Zay,Zaz,Za0,Za1,Za2,Za3,Za4,Za5,Za9,Zba,Zbb,Zbj,Zdc,Zdd,Zde,Zdi,Zev,Zew,Zez,Ze0,Ze2,Zfd,Zfe,Zfh,Zgd,Zgg,Zjw,Zla,Zlb,Zle,Zln,Zlz,Zmt,Zmv,Zmw,Zmx,Zmz,Zm2,Zna,Znb,Zne,Znf,Zng,Zos,Zot,Zo4,Zo7,Zpc,eq_self,true_and,and_true,Nat.zero_add]
  tactic =>
  refine endA ?_
  sym =>
  simp [Zab,Zad,Zae,Zaf,Zak,Zal,Zam,Zao,Zay,Zaz,Za0,Za1,Za2,Za3,Za4,Za5,Za9,Zba,Zbb,Zbj,Zdc,Zdd,Zde,Zdi,Zev,Zew,Zez,Ze0,Ze2,Zfd,Zfe,Zfh,Zgd,Zgg,Zjw,Zla,Zlb,Zle,Zln,Zlz,Zmt,Zmv,Zmw,Zmx,Zmz,Zm2,Zna,Znb,Zne,Znf,Zng,Zos,Zot,Zo4,Zo7,Zpc,eq_self,true_and,and_true,Nat.zero_add]
theorem clone_nil : Con Try.prog 18 [] [np] [] np := by
  refine con_j b18 rfl ?_
  sym =>
  simp [Zab,Zad,Zae,Zaf,Zak,Zal,Zam,Zao,Zay,Zaz,Za0,Za1,Za2,Za3,Za4,Za5,Za9,Zba,Zbb,Zbj,Zdc,Zdd,Zde,Zdi,Zev,Zew,Zez,Ze0,Ze2,Zfd,Zfe,Zfh,Zgd,Zgg,Zjw,Zla,Zlb,Zle,Zlj,Zlz,Zmt,Zmv,Zmw,Zmx,Zmz,Zm2,Zna,Znb,Zne,Znf,Zng,Zos,Zot,Zo4,Zo7,Zpc,eq_self,true_and,and_true,callable_46]
  tactic =>
  refine cl none (ok_nil) trivial ?_
  sym =>
  simp [Zab,Zad,Zae,Zaf,Zak,Zal,Zam,Zao,Zay,Zaz,Za0,Za1,Za2,Za3,Za4,Za5,Za9,Zba,Zbb,Zbj,Zdc,Zdd,Zde,Zdi,Zev,Zew,Zez,Ze0,Ze2,Zfd,Zfe,Zfh,Zgd,Zgg,Zjw,Zla,Zlb,Zle,Zlj,Zlz,Zmt,Zmv,Zmw,Zmx,Zmz,Zm2,Zna,Znb,Zne,Znf,Zng,Zos,Zot,Zo4,Zo7,Zpc,eq_self,true_and,and_true]
  tactic =>
  refine endA ?_
  sym =>
  simp [Zab,Zad,Zae,Zaf,Zak,Zal,Zam,Zao,Zay,Zaz,Za0,Za1,Za2,Za3,Za4,Za5,Za9,Zba,Zbb,Zbj,Zdc,Zdd,Zde,Zdi,Zev,Zew,Zez,Ze0,Ze2,Zfd,Zfe,Zfh,Zgd,Zgg,Zjw,Zla,Zlb,Zle,Zlj,Zlz,Zmt,Zmv,Zmw,Zmx,Zmz,Zm2,Zna,Znb,Zne,Znf,Zng,Zos,Zot,Zo4,Zo7,Zpc,eq_self,true_and,and_true]
theorem clone_no : Con Try.prog 18 [] [.fp zSt 0] [] np := by
  refine con_j b18 rfl ?_
  sym =>
  simp [Zab,Zad,Zae,Zaf,Zak,Zal,Zam,Zao,Zay,Zaz,Za0,Za1,Za2,Za3,Za4,Za5,Za9,Zba,Zbb,Zbj,Zdc,Zdd,Zde,Zdi,Zev,Zew,Zez,Ze0,Ze2,Zfd,Zfe,Zfh,Zgd,Zgg,Zjw,Zla,Zlb,Zle,Zln,Zlz,Zmt,Zmv,Zmw,Zmx,Zmz,Zm2,Zna,Znb,Zne,Znf,Zng,Zos,Zot,Zo4,Zo7,Zpc,eq_self,true_and,and_true,Nat.zero_add,callable_46]
  tactic =>
  refine cl none (ok_no _ rfl (by simp)) trivial ?_
  sym =>
  simp [Zab,Zad,Zae,Zaf,Zak,Zal,Zam,Zao,Zay,Zaz,Za0,Za1,Za2,Za3,Za4,Za5,Za9,Zba,Zbb,Zbj,Zdc,Zdd,Zde,Zdi,Zev,Zew,Zez,Ze0,Ze2,Zfd,Zfe,Zfh,Zgd,Zgg,Zjw,Zla,Zlb,Zle,Zln,Zlz,Zmt,Zmv,Zmw,Zmx,Zmz,Zm2,Zna,Znb,Zne,Znf,Zng,Zos,Zot,Zo4,Zo7,Zpc,eq_self,true_and,and_true,Nat.zero_add]
  tactic =>
  refine endA ?_
  sym =>
  simp [Zab,Zad,Zae,Zaf,Zak,Zal,Zam,Zao,Zay,Zaz,Za0,Za1,Za2,Za3,Za4,Za5,Za9,Zba,Zbb,Zbj,Zdc,Zdd,Zde,Zdi,Zev,Zew,Zez,Ze0,Ze2,Zfd,Zfe,Zfh,Zgd,Zgg,Zjw,Zla,Zlb,Zle,Zln,Zlz,Zmt,Zmv,Zmw,Zmx,Zmz,Zm2,Zna,Znb,Zne,Znf,Zng,Zos,Zot,Zo4,Zo7,Zpc,eq_self,true_and,and_true,Nat.zero_add]
def i5 (b : List Int) (k : Nat) (s : St) : Prop := ∃ i : Nat, i + k = 2 ∧ ∃ h : Nat, s = ⟨[(0, fB b), (11, .lv 1 0 2), (12, I (IN 2)), (13, I (IN i))], [(0, ⟨zSt, 1, h⟩), (1, ⟨[np, .pt 0 0], 1, 0⟩)], 2⟩
theorem nobody_con (b : List Int) : Con Try.prog 5 [] [fB b] [] (Bo true) := by
  refine con_j b5 rfl ?_
  by_cases g : 500 < b.length
  · have h1 : IN b.length > (500 : Int) := by simp only [IN]; omega
    sym =>
    simp [Zaa,Zab,Zad,Zae,Zaf,Zag,Zah,Zai,Zak,Zal,Zam,Zan,Zao,Zap,Zaq,Zav,Zaw,Zay,Zaz,Za0,Za1,Za2,Za3,Za4,Za5,Za6,Za7,Za9,Zba,Zbb,Zbd,Zbf,Zbh,Zbt,Zb1,Zb9,Zcn,Zcx,Zcz,Zq9,Zrc,Zdc,Zdd,Zde,Zdi,Zev,Zew,Zex,Zez,Ze0,Ze2,Ze3,Ze5,Ze8,Zfc,Zfd,Zfe,Zfh,Zfi,Zfl,Zfn,Zfq,Zf0,Zf1,Zf3,Zga,Zgc,Zgr,Zgs,Zgt,Zgv,Zg4,Zg5,Zhd,Zhe,Zhf,Zhg,Zhh,Zho,Zh6,Zh7,Zh9,Zio,Zip,Ziq,Zir,Zi6,Zjf,Zjg,Zjl,Zjm,Zjp,Zjr,Zju,Zjw,Zj4,Zkv,Zky,Zkz,Zla,Zlb,Zle,Zlj,Zll,Zlu,Zly,Zlz,Zmt,Zmv,Zmw,Zmx,Zmz,Zm2,Zm6,Zm9,Zna,Znb,Zne,Znf,Zng,Znn,Zno,Znp,Znr,Zn5,Zn6,Zn7,Zrd,Zos,Zot,Zo3,Zo7,Zo8,Zo9,Zpa,Zpc,Zpd,Zpi,Zpo,Zps,Zqb,Zqc,Zqf,Zqg,Zqh,Zqi,Zqk,Zql,Zqm,Zqn,List.length_replicate,eq_self,true_and,and_true,Nat.zero_add,h1,callable_11]
    tactic =>
    refine cl none (alive_con) trivial ?_
    sym =>
    simp [Zaa,Zab,Zad,Zae,Zaf,Zag,Zah,Zai,Zak,Zal,Zam,Zan,Zao,Zap,Zaq,Zav,Zaw,Zay,Zaz,Za0,Za1,Za2,Za3,Za4,Za5,Za6,Za7,Za9,Zba,Zbb,Zbd,Zbf,Zbh,Zbt,Zb1,Zb9,Zcn,Zcx,Zcz,Zq9,Zrc,Zdc,Zdd,Zde,Zdi,Zev,Zew,Zex,Zez,Ze0,Ze2,Ze3,Ze5,Ze8,Zfc,Zfd,Zfe,Zfh,Zfi,Zfl,Zfn,Zfq,Zf0,Zf1,Zf3,Zga,Zgc,Zgr,Zgs,Zgt,Zgv,Zg4,Zg5,Zhd,Zhe,Zhf,Zhg,Zhh,Zho,Zh6,Zh7,Zh9,Zio,Zip,Ziq,Zir,Zi6,Zjf,Zjg,Zjl,Zjm,Zjp,Zjr,Zju,Zjw,Zj4,Zkv,Zky,Zkz,Zla,Zlb,Zle,Zlj,Zll,Zlu,Zly,Zlz,Zmt,Zmv,Zmw,Zmx,Zmz,Zm2,Zm6,Zm9,Zna,Znb,Zne,Znf,Zng,Znn,Zno,Znp,Znr,Zn5,Zn6,Zn7,Zrd,Zos,Zot,Zo3,Zo7,Zo8,Zo9,Zpa,Zpc,Zpd,Zpi,Zpo,Zps,Zqb,Zqc,Zqf,Zqg,Zqh,Zqi,Zqk,Zql,Zqm,Zqn,List.length_replicate,eq_self,true_and,and_true,Nat.zero_add]
    tactic =>
    refine endA ?_
    sym =>
    simp [Zaa,Zab,Zad,Zae,Zaf,Zag,Zah,Zai,Zak,Zal,Zam,Zan,Zao,Zap,Zaq,Zav,Zaw,Zay,Zaz,Za0,Za1,Za2,Za3,Za4,Za5,Za6,Za7,Za9,Zba,Zbb,Zbd,Zbf,Zbh,Zbt,Zb1,Zb9,Zcn,Zcx,Zcz,Zq9,Zrc,Zdc,Zdd,Zde,Zdi,Zev,Zew,Zex,Zez,Ze0,Ze2,Ze3,Ze5,Ze8,Zfc,Zfd,Zfe,Zfh,Zfi,Zfl,Zfn,Zfq,Zf0,Zf1,Zf3,Zga,Zgc,Zgr,Zgs,Zgt,Zgv,Zg4,Zg5,Zhd,Zhe,Zhf,Zhg,Zhh,Zho,Zh6,Zh7,Zh9,Zio,Zip,Ziq,Zir,Zi6,Zjf,Zjg,Zjl,Zjm,Zjp,Zjr,Zju,Zjw,Zj4,Zkv,Zky,Zkz,Zla,Zlb,Zle,Zlj,Zll,Zlu,Zly,Zlz,Zmt,Zmv,Zmw,Zmx,Zmz,Zm2,Zm6,Zm9,Zna,Znb,Zne,Znf,Zng,Znn,Zno,Znp,Znr,Zn5,Zn6,Zn7,Zrd,Zos,Zot,Zo3,Zo7,Zo8,Zo9,Zpa,Zpc,Zpd,Zpi,Zpo,Zps,Zqb,Zqc,Zqf,Zqg,Zqh,Zqi,Zqk,Zql,Zqm,Zqn,List.length_replicate,eq_self,true_and,and_true,Nat.zero_add]
  have h1 : ¬ IN b.length > (500 : Int) := by simp only [IN]; omega
  sym =>
  simp [Zaa,Zab,Zad,Zae,Zaf,Zag,Zah,Zai,Zak,Zal,Zam,Zan,Zao,Zap,Zaq,Zav,Zaw,Zay,Zaz,Za0,Za1,Za2,Za3,Za4,Za5,Za6,Za7,Za9,Zba,Zbb,Zbd,Zbf,Zbh,Zbt,Zb1,Zb9,Zcn,Zcx,Zcz,Zq9,Zrc,Zdc,Zdd,Zde,Zdi,Zev,Zew,Zex,Zez,Ze0,Ze2,Ze3,Ze5,Ze8,Zfc,Zfd,Zfe,Zfh,Zfi,Zfl,Zfn,Zfq,Zf0,Zf1,Zf3,Zga,Zgc,Zgr,Zgs,Zgt,Zgv,Zg4,Zg5,Zhd,Zhe,Zhf,Zhg,Zhh,Zho,Zh6,Zh7,Zh9,Zio,Zip,Ziq,Zir,Zi6,Zjf,Zjg,Zjl,Zjm,Zjp,Zjr,Zju,Zjw,Zj4,Zkv,Zky,Zkz,Zla,Zlb,Zle,Zlj,Zll,Zlu,Zly,Zlz,Zmt,Zmv,Zmw,Zmx,Zmz,Zm2,Zm6,Zm9,Zna,Znb,Zne,Znf,Zng,Znn,Zno,Znp,Znr,Zn5,Zn6,Zn7,Zrd,Zos,Zot,Zo3,Zo7,Zo8,Zo9,Zpa,Zpc,Zpd,Zpi,Zpo,Zps,Zqb,Zqc,Zqf,Zqg,Zqh,Zqi,Zqk,Zql,Zqm,Zqn,List.length_replicate,eq_self,true_and,and_true,Nat.zero_add,h1,np_cel,np_okc,np_okf,np_isF,np_isFl,np_flat]
  tactic =>
  refine lpA (i5 b) 2 [(0, 5), (1, 6)] _ ⟨0, by omega, 0, rfl⟩ (wkA ?_) ?_
  · sym =>
    simp [Zaa,Zab,Zad,Zae,Zaf,Zag,Zah,Zai,Zak,Zal,Zam,Zan,Zao,Zap,Zaq,Zav,Zaw,Zay,Zaz,Za0,Za1,Za2,Za3,Za4,Za5,Za6,Za7,Za9,Zba,Zbb,Zbd,Zbf,Zbh,Zbt,Zb1,Zb9,Zcn,Zcx,Zcz,Zq9,Zrc,Zdc,Zdd,Zde,Zdi,Zev,Zew,Zex,Zez,Ze0,Ze2,Ze3,Ze5,Ze8,Zfc,Zfd,Zfe,Zfh,Zfi,Zfl,Zfn,Zfq,Zf0,Zf1,Zf3,Zga,Zgc,Zgr,Zgs,Zgt,Zgv,Zg4,Zg5,Zhd,Zhe,Zhf,Zhg,Zhh,Zho,Zh6,Zh7,Zh9,Zio,Zip,Ziq,Zir,Zi6,Zjf,Zjg,Zjl,Zjm,Zjp,Zjr,Zju,Zjw,Zj4,Zkv,Zky,Zkz,Zla,Zlb,Zle,Zlj,Zll,Zlu,Zly,Zlz,Zmt,Zmv,Zmw,Zmx,Zmz,Zm2,Zm6,Zm9,Zna,Znb,Zne,Znf,Zng,Znn,Zno,Znp,Znr,Zn5,Zn6,Zn7,Zrd,Zos,Zot,Zo3,Zo7,Zo8,Zo9,Zpa,Zpc,Zpd,Zpi,Zpo,Zps,Zqb,Zqc,Zqf,Zqg,Zqh,Zqi,Zqk,Zql,Zqm,Zqn,List.length_replicate,eq_self,true_and,and_true,Nat.zero_add]
  rintro k s ⟨i, hi, hw, rfl⟩
  have hr : rdb z32 0 32 = z32 := rdb_all (by simp)
  have hk := sks32 (List.replicate 32 0) (List.replicate 32 0) (by simp) (by simp)
  have he : eqL z32 z32 = true := by
    have := eqL_cB (List.replicate 32 0) (List.replicate 32 0)
    rw [decide_eq_true rfl] at this
    exact this
  have w1 : IntKind.i64.wrap 1 = 1 := by decide
  have w2 : IntKind.i64.wrap 2 = 2 := by decide
  have hf := cB_fl (List.replicate 32 0)
  have hz0 : z32 = cB (List.replicate 32 0) := rfl
  rw [← hz0] at hk hf
  by_cases h : i < 2
  · have hI : IN i < IN 2 := by simp only [IN]; omega
    have hw2 := w64s i (by omega)
    rcases (show i = 0 ∨ i = 1 by omega) with rfl | rfl
    · sym =>
      simp [Zaa,Zab,Zad,Zae,Zaf,Zag,Zah,Zai,Zak,Zal,Zam,Zan,Zao,Zap,Zaq,Zav,Zaw,Zay,Zaz,Za0,Za1,Za2,Za3,Za4,Za5,Za6,Za7,Za9,Zba,Zbb,Zbd,Zbf,Zbh,Zbt,Zb1,Zb9,Zcn,Zcx,Zcz,Zq9,Zrc,Zdc,Zdd,Zde,Zdi,Zev,Zew,Zex,Zez,Ze0,Ze2,Ze3,Ze5,Ze8,Zfc,Zfd,Zfe,Zfh,Zfi,Zfl,Zfn,Zfq,Zf0,Zf1,Zf3,Zga,Zgc,Zgr,Zgs,Zgt,Zgv,Zg4,Zg5,Zhd,Zhe,Zhf,Zhg,Zhh,Zho,Zh6,Zh7,Zh9,Zio,Zip,Ziq,Zir,Zi6,Zjf,Zjg,Zjl,Zjm,Zjp,Zjr,Zju,Zjw,Zj4,Zkv,Zky,Zkz,Zla,Zlb,Zle,Zlj,Zll,Zlu,Zly,Zlz,Zmt,Zmv,Zmw,Zmx,Zmz,Zm2,Zm6,Zm9,Zna,Znb,Zne,Znf,Zng,Znn,Zno,Znp,Znr,Zn5,Zn6,Zn7,Zrd,Zos,Zot,Zo3,Zo7,Zo8,Zo9,Zpa,Zpc,Zpd,Zpi,Zpo,Zps,Zqb,Zqc,Zqf,Zqg,Zqh,Zqi,Zqk,Zql,Zqm,Zqn,List.length_replicate,eq_self,true_and,and_true,Nat.zero_add,hI,hw2,np_cel,np_okc,np_okf,np_isF,np_isFl,np_flat,callable_15]
      tactic =>
      refine cl none (write_nil b) trivial ?_
      sym =>
      simp [Zaa,Zab,Zad,Zae,Zaf,Zag,Zah,Zai,Zak,Zal,Zam,Zan,Zao,Zap,Zaq,Zav,Zaw,Zay,Zaz,Za0,Za1,Za2,Za3,Za4,Za5,Za6,Za7,Za9,Zba,Zbb,Zbd,Zbf,Zbh,Zbt,Zb1,Zb9,Zcn,Zcx,Zcz,Zq9,Zrc,Zdc,Zdd,Zde,Zdi,Zev,Zew,Zex,Zez,Ze0,Ze2,Ze3,Ze5,Ze8,Zfc,Zfd,Zfe,Zfh,Zfi,Zfl,Zfn,Zfq,Zf0,Zf1,Zf3,Zga,Zgc,Zgr,Zgs,Zgt,Zgv,Zg4,Zg5,Zhd,Zhe,Zhf,Zhg,Zhh,Zho,Zh6,Zh7,Zh9,Zio,Zip,Ziq,Zir,Zi6,Zjf,Zjg,Zjl,Zjm,Zjp,Zjr,Zju,Zjw,Zj4,Zkv,Zky,Zkz,Zla,Zlb,Zle,Zlj,Zll,Zlu,Zly,Zlz,Zmt,Zmv,Zmw,Zmx,Zmz,Zm2,Zm6,Zm9,Zna,Znb,Zne,Znf,Zng,Znn,Zno,Znp,Znr,Zn5,Zn6,Zn7,Zrd,Zos,Zot,Zo3,Zo7,Zo8,Zo9,Zpa,Zpc,Zpd,Zpi,Zpo,Zps,Zqb,Zqc,Zqf,Zqg,Zqh,Zqi,Zqk,Zql,Zqm,Zqn,List.length_replicate,eq_self,true_and,and_true,Nat.zero_add,callable_16]
      tactic =>
      refine cl none (sum_nil) trivial ?_
      sym =>
      simp [Zaa,Zab,Zad,Zae,Zaf,Zag,Zah,Zai,Zak,Zal,Zam,Zan,Zao,Zap,Zaq,Zav,Zaw,Zay,Zaz,Za0,Za1,Za2,Za3,Za4,Za5,Za6,Za7,Za9,Zba,Zbb,Zbd,Zbf,Zbh,Zbt,Zb1,Zb9,Zcn,Zcx,Zcz,Zq9,Zrc,Zdc,Zdd,Zde,Zdi,Zev,Zew,Zex,Zez,Ze0,Ze2,Ze3,Ze5,Ze8,Zfc,Zfd,Zfe,Zfh,Zfi,Zfl,Zfn,Zfq,Zf0,Zf1,Zf3,Zga,Zgc,Zgr,Zgs,Zgt,Zgv,Zg4,Zg5,Zhd,Zhe,Zhf,Zhg,Zhh,Zho,Zh6,Zh7,Zh9,Zio,Zip,Ziq,Zir,Zi6,Zjf,Zjg,Zjl,Zjm,Zjp,Zjr,Zju,Zjw,Zj4,Zkv,Zky,Zkz,Zla,Zlb,Zle,Zlj,Zll,Zlu,Zly,Zlz,Zmt,Zmv,Zmw,Zmx,Zmz,Zm2,Zm6,Zm9,Zna,Znb,Zne,Znf,Zng,Znn,Zno,Znp,Znr,Zn5,Zn6,Zn7,Zrd,Zos,Zot,Zo3,Zo7,Zo8,Zo9,Zpa,Zpc,Zpd,Zpi,Zpo,Zps,Zqb,Zqc,Zqf,Zqg,Zqh,Zqi,Zqk,Zql,Zqm,Zqn,List.length_replicate,eq_self,true_and,and_true,Nat.zero_add,hk,he,hf,List.length_replicate,callable_17]
      tactic =>
      refine cl none (len_nil) trivial ?_
      sym =>
      simp [Zaa,Zab,Zad,Zae,Zaf,Zag,Zah,Zai,Zak,Zal,Zam,Zan,Zao,Zap,Zaq,Zav,Zaw,Zay,Zaz,Za0,Za1,Za2,Za3,Za4,Za5,Za6,Za7,Za9,Zba,Zbb,Zbd,Zbf,Zbh,Zbt,Zb1,Zb9,Zcn,Zcx,Zcz,Zq9,Zrc,Zdc,Zdd,Zde,Zdi,Zev,Zew,Zex,Zez,Ze0,Ze2,Ze3,Ze5,Ze8,Zfc,Zfd,Zfe,Zfh,Zfi,Zfl,Zfn,Zfq,Zf0,Zf1,Zf3,Zga,Zgc,Zgr,Zgs,Zgt,Zgv,Zg4,Zg5,Zhd,Zhe,Zhf,Zhg,Zhh,Zho,Zh6,Zh7,Zh9,Zio,Zip,Ziq,Zir,Zi6,Zjf,Zjg,Zjl,Zjm,Zjp,Zjr,Zju,Zjw,Zj4,Zkv,Zky,Zkz,Zla,Zlb,Zle,Zlj,Zll,Zlu,Zly,Zlz,Zmt,Zmv,Zmw,Zmx,Zmz,Zm2,Zm6,Zm9,Zna,Znb,Zne,Znf,Zng,Znn,Zno,Znp,Znr,Zn5,Zn6,Zn7,Zrd,Zos,Zot,Zo3,Zo7,Zo8,Zo9,Zpa,Zpc,Zpd,Zpi,Zpo,Zps,Zqb,Zqc,Zqf,Zqg,Zqh,Zqi,Zqk,Zql,Zqm,Zqn,List.length_replicate,eq_self,true_and,and_true,Nat.zero_add,callable_18]
      tactic =>
      refine cl none (clone_nil) trivial ?_
      sym =>
      simp [Zaa,Zab,Zad,Zae,Zaf,Zag,Zah,Zai,Zak,Zal,Zam,Zan,Zao,Zap,Zaq,Zav,Zaw,Zay,Zaz,Za0,Za1,Za2,Za3,Za4,Za5,Za6,Za7,Za9,Zba,Zbb,Zbd,Zbf,Zbh,Zbt,Zb1,Zb9,Zcn,Zcx,Zcz,Zq9,Zrc,Zdc,Zdd,Zde,Zdi,Zev,Zew,Zex,Zez,Ze0,Ze2,Ze3,Ze5,Ze8,Zfc,Zfd,Zfe,Zfh,Zfi,Zfl,Zfn,Zfq,Zf0,Zf1,Zf3,Zga,Zgc,Zgr,Zgs,Zgt,Zgv,Zg4,Zg5,Zhd,Zhe,Zhf,Zhg,Zhh,Zho,Zh6,Zh7,Zh9,Zio,Zip,Ziq,Zir,Zi6,Zjf,Zjg,Zjl,Zjm,Zjp,Zjr,Zju,Zjw,Zj4,Zkv,Zky,Zkz,Zla,Zlb,Zle,Zlj,Zll,Zlu,Zly,Zlz,Zmt,Zmv,Zmw,Zmx,Zmz,Zm2,Zm6,Zm9,Zna,Znb,Zne,Znf,Zng,Znn,Zno,Znp,Znr,Zn5,Zn6,Zn7,Zrd,Zos,Zot,Zo3,Zo7,Zo8,Zo9,Zpa,Zpc,Zpd,Zpi,Zpo,Zps,Zqb,Zqc,Zqf,Zqg,Zqh,Zqi,Zqk,Zql,Zqm,Zqn,List.length_replicate,eq_self,true_and,and_true,Nat.zero_add,np_cel,np_okc,np_okf,np_isF,np_isFl,np_flat,w1]
      tactic =>
      unfold NextL; refine ⟨(k - 1), [(0, 0), (1, 1)], _, by omega, ⟨1, by omega, hw, rfl⟩, wkA ?_⟩
      sym =>
      simp [Zaa,Zab,Zad,Zae,Zaf,Zag,Zah,Zai,Zak,Zal,Zam,Zan,Zao,Zap,Zaq,Zav,Zaw,Zay,Zaz,Za0,Za1,Za2,Za3,Za4,Za5,Za6,Za7,Za9,Zba,Zbb,Zbd,Zbf,Zbh,Zbt,Zb1,Zb9,Zcn,Zcx,Zcz,Zq9,Zrc,Zdc,Zdd,Zde,Zdi,Zev,Zew,Zex,Zez,Ze0,Ze2,Ze3,Ze5,Ze8,Zfc,Zfd,Zfe,Zfh,Zfi,Zfl,Zfn,Zfq,Zf0,Zf1,Zf3,Zga,Zgc,Zgr,Zgs,Zgt,Zgv,Zg4,Zg5,Zhd,Zhe,Zhf,Zhg,Zhh,Zho,Zh6,Zh7,Zh9,Zio,Zip,Ziq,Zir,Zi6,Zjf,Zjg,Zjl,Zjm,Zjp,Zjr,Zju,Zjw,Zj4,Zkv,Zky,Zkz,Zla,Zlb,Zle,Zlj,Zll,Zlu,Zly,Zlz,Zmt,Zmv,Zmw,Zmx,Zmz,Zm2,Zm6,Zm9,Zna,Znb,Zne,Znf,Zng,Znn,Zno,Znp,Znr,Zn5,Zn6,Zn7,Zrd,Zos,Zot,Zo3,Zo7,Zo8,Zo9,Zpa,Zpc,Zpd,Zpi,Zpo,Zps,Zqb,Zqc,Zqf,Zqg,Zqh,Zqi,Zqk,Zql,Zqm,Zqn,List.length_replicate,eq_self,true_and,and_true,Nat.zero_add]
      tactic =>
      exact Nat.le_refl _
    · sym =>
      simp [Zaa,Zab,Zad,Zae,Zaf,Zag,Zah,Zai,Zak,Zal,Zam,Zan,Zao,Zap,Zaq,Zav,Zaw,Zay,Zaz,Za0,Za1,Za2,Za3,Za4,Za5,Za6,Za7,Za9,Zba,Zbb,Zbd,Zbf,Zbh,Zbt,Zb1,Zb9,Zcn,Zcx,Zcz,Zq9,Zrc,Zdc,Zdd,Zde,Zdi,Zev,Zew,Zex,Zez,Ze0,Ze2,Ze3,Ze5,Ze8,Zfc,Zfd,Zfe,Zfh,Zfi,Zfl,Zfn,Zfq,Zf0,Zf1,Zf3,Zga,Zgc,Zgr,Zgs,Zgt,Zgv,Zg4,Zg5,Zhd,Zhe,Zhf,Zhg,Zhh,Zho,Zh6,Zh7,Zh9,Zio,Zip,Ziq,Zir,Zi6,Zjf,Zjg,Zjl,Zjm,Zjp,Zjr,Zju,Zjw,Zj4,Zkv,Zky,Zkz,Zla,Zlb,Zle,Zlj,Zll,Zlu,Zly,Zlz,Zmt,Zmv,Zmw,Zmx,Zmz,Zm2,Zm6,Zm9,Zna,Znb,Zne,Znf,Zng,Znn,Zno,Znp,Znr,Zn5,Zn6,Zn7,Zrd,Zos,Zot,Zo3,Zo7,Zo8,Zo9,Zpa,Zpc,Zpd,Zpi,Zpo,Zps,Zqb,Zqc,Zqf,Zqg,Zqh,Zqi,Zqk,Zql,Zqm,Zqn,List.length_replicate,eq_self,true_and,and_true,Nat.zero_add,hI,w2,np_cel,np_okc,np_okf,np_isF,np_isFl,np_flat,callable_15]
      tactic =>
      refine cl none (write_no b) trivial ?_
      sym =>
      simp [Zaa,Zab,Zad,Zae,Zaf,Zag,Zah,Zai,Zak,Zal,Zam,Zan,Zao,Zap,Zaq,Zav,Zaw,Zay,Zaz,Za0,Za1,Za2,Za3,Za4,Za5,Za6,Za7,Za9,Zba,Zbb,Zbd,Zbf,Zbh,Zbt,Zb1,Zb9,Zcn,Zcx,Zcz,Zq9,Zrc,Zdc,Zdd,Zde,Zdi,Zev,Zew,Zex,Zez,Ze0,Ze2,Ze3,Ze5,Ze8,Zfc,Zfd,Zfe,Zfh,Zfi,Zfl,Zfn,Zfq,Zf0,Zf1,Zf3,Zga,Zgc,Zgr,Zgs,Zgt,Zgv,Zg4,Zg5,Zhd,Zhe,Zhf,Zhg,Zhh,Zho,Zh6,Zh7,Zh9,Zio,Zip,Ziq,Zir,Zi6,Zjf,Zjg,Zjl,Zjm,Zjp,Zjr,Zju,Zjw,Zj4,Zkv,Zky,Zkz,Zla,Zlb,Zle,Zlj,Zll,Zlu,Zly,Zlz,Zmt,Zmv,Zmw,Zmx,Zmz,Zm2,Zm6,Zm9,Zna,Znb,Zne,Znf,Zng,Znn,Zno,Znp,Znr,Zn5,Zn6,Zn7,Zrd,Zos,Zot,Zo3,Zo7,Zo8,Zo9,Zpa,Zpc,Zpd,Zpi,Zpo,Zps,Zqb,Zqc,Zqf,Zqg,Zqh,Zqi,Zqk,Zql,Zqm,Zqn,List.length_replicate,eq_self,true_and,and_true,Nat.zero_add,callable_16]
      tactic =>
      refine cl none (sum_no) trivial ?_
      sym =>
      simp [Zaa,Zab,Zad,Zae,Zaf,Zag,Zah,Zai,Zak,Zal,Zam,Zan,Zao,Zap,Zaq,Zav,Zaw,Zay,Zaz,Za0,Za1,Za2,Za3,Za4,Za5,Za6,Za7,Za9,Zba,Zbb,Zbd,Zbf,Zbh,Zbt,Zb1,Zb9,Zcn,Zcx,Zcz,Zq9,Zrc,Zdc,Zdd,Zde,Zdi,Zev,Zew,Zex,Zez,Ze0,Ze2,Ze3,Ze5,Ze8,Zfc,Zfd,Zfe,Zfh,Zfi,Zfl,Zfn,Zfq,Zf0,Zf1,Zf3,Zga,Zgc,Zgr,Zgs,Zgt,Zgv,Zg4,Zg5,Zhd,Zhe,Zhf,Zhg,Zhh,Zho,Zh6,Zh7,Zh9,Zio,Zip,Ziq,Zir,Zi6,Zjf,Zjg,Zjl,Zjm,Zjp,Zjr,Zju,Zjw,Zj4,Zkv,Zky,Zkz,Zla,Zlb,Zle,Zlj,Zll,Zlu,Zly,Zlz,Zmt,Zmv,Zmw,Zmx,Zmz,Zm2,Zm6,Zm9,Zna,Znb,Zne,Znf,Zng,Znn,Zno,Znp,Znr,Zn5,Zn6,Zn7,Zrd,Zos,Zot,Zo3,Zo7,Zo8,Zo9,Zpa,Zpc,Zpd,Zpi,Zpo,Zps,Zqb,Zqc,Zqf,Zqg,Zqh,Zqi,Zqk,Zql,Zqm,Zqn,List.length_replicate,eq_self,true_and,and_true,Nat.zero_add,hk,he,hf,List.length_replicate,callable_17]
      tactic =>
      refine cl none (len_no) trivial ?_
      sym =>
      simp [Zaa,Zab,Zad,Zae,Zaf,Zag,Zah,Zai,Zak,Zal,Zam,Zan,Zao,Zap,Zaq,Zav,Zaw,Zay,Zaz,Za0,Za1,Za2,Za3,Za4,Za5,Za6,Za7,Za9,Zba,Zbb,Zbd,Zbf,Zbh,Zbt,Zb1,Zb9,Zcn,Zcx,Zcz,Zq9,Zrc,Zdc,Zdd,Zde,Zdi,Zev,Zew,Zex,Zez,Ze0,Ze2,Ze3,Ze5,Ze8,Zfc,Zfd,Zfe,Zfh,Zfi,Zfl,Zfn,Zfq,Zf0,Zf1,Zf3,Zga,Zgc,Zgr,Zgs,Zgt,Zgv,Zg4,Zg5,Zhd,Zhe,Zhf,Zhg,Zhh,Zho,Zh6,Zh7,Zh9,Zio,Zip,Ziq,Zir,Zi6,Zjf,Zjg,Zjl,Zjm,Zjp,Zjr,Zju,Zjw,Zj4,Zkv,Zky,Zkz,Zla,Zlb,Zle,Zlj,Zll,Zlu,Zly,Zlz,Zmt,Zmv,Zmw,Zmx,Zmz,Zm2,Zm6,Zm9,Zna,Znb,Zne,Znf,Zng,Znn,Zno,Znp,Znr,Zn5,Zn6,Zn7,Zrd,Zos,Zot,Zo3,Zo7,Zo8,Zo9,Zpa,Zpc,Zpd,Zpi,Zpo,Zps,Zqb,Zqc,Zqf,Zqg,Zqh,Zqi,Zqk,Zql,Zqm,Zqn,List.length_replicate,eq_self,true_and,and_true,Nat.zero_add,callable_18]
      tactic =>
      refine cl none (clone_no) trivial ?_
      sym =>
      simp [Zaa,Zab,Zad,Zae,Zaf,Zag,Zah,Zai,Zak,Zal,Zam,Zan,Zao,Zap,Zaq,Zav,Zaw,Zay,Zaz,Za0,Za1,Za2,Za3,Za4,Za5,Za6,Za7,Za9,Zba,Zbb,Zbd,Zbf,Zbh,Zbt,Zb1,Zb9,Zcn,Zcx,Zcz,Zq9,Zrc,Zdc,Zdd,Zde,Zdi,Zev,Zew,Zex,Zez,Ze0,Ze2,Ze3,Ze5,Ze8,Zfc,Zfd,Zfe,Zfh,Zfi,Zfl,Zfn,Zfq,Zf0,Zf1,Zf3,Zga,Zgc,Zgr,Zgs,Zgt,Zgv,Zg4,Zg5,Zhd,Zhe,Zhf,Zhg,Zhh,Zho,Zh6,Zh7,Zh9,Zio,Zip,Ziq,Zir,Zi6,Zjf,Zjg,Zjl,Zjm,Zjp,Zjr,Zju,Zjw,Zj4,Zkv,Zky,Zkz,Zla,Zlb,Zle,Zlj,Zll,Zlu,Zly,Zlz,Zmt,Zmv,Zmw,Zmx,Zmz,Zm2,Zm6,Zm9,Zna,Znb,Zne,Znf,Zng,Znn,Zno,Znp,Znr,Zn5,Zn6,Zn7,Zrd,Zos,Zot,Zo3,Zo7,Zo8,Zo9,Zpa,Zpc,Zpd,Zpi,Zpo,Zps,Zqb,Zqc,Zqf,Zqg,Zqh,Zqi,Zqk,Zql,Zqm,Zqn,List.length_replicate,eq_self,true_and,and_true,Nat.zero_add,np_cel,np_okc,np_okf,np_isF,np_isFl,np_flat,w2]
      tactic =>
      unfold NextL; refine ⟨(k - 1), [(0, 0), (1, 1)], _, by omega, ⟨2, by omega, hw, rfl⟩, wkA ?_⟩
      sym =>
      simp [Zaa,Zab,Zad,Zae,Zaf,Zag,Zah,Zai,Zak,Zal,Zam,Zan,Zao,Zap,Zaq,Zav,Zaw,Zay,Zaz,Za0,Za1,Za2,Za3,Za4,Za5,Za6,Za7,Za9,Zba,Zbb,Zbd,Zbf,Zbh,Zbt,Zb1,Zb9,Zcn,Zcx,Zcz,Zq9,Zrc,Zdc,Zdd,Zde,Zdi,Zev,Zew,Zex,Zez,Ze0,Ze2,Ze3,Ze5,Ze8,Zfc,Zfd,Zfe,Zfh,Zfi,Zfl,Zfn,Zfq,Zf0,Zf1,Zf3,Zga,Zgc,Zgr,Zgs,Zgt,Zgv,Zg4,Zg5,Zhd,Zhe,Zhf,Zhg,Zhh,Zho,Zh6,Zh7,Zh9,Zio,Zip,Ziq,Zir,Zi6,Zjf,Zjg,Zjl,Zjm,Zjp,Zjr,Zju,Zjw,Zj4,Zkv,Zky,Zkz,Zla,Zlb,Zle,Zlj,Zll,Zlu,Zly,Zlz,Zmt,Zmv,Zmw,Zmx,Zmz,Zm2,Zm6,Zm9,Zna,Znb,Zne,Znf,Zng,Znn,Zno,Znp,Znr,Zn5,Zn6,Zn7,Zrd,Zos,Zot,Zo3,Zo7,Zo8,Zo9,Zpa,Zpc,Zpd,Zpi,Zpo,Zps,Zqb,Zqc,Zqf,Zqg,Zqh,Zqi,Zqk,Zql,Zqm,Zqn,List.length_replicate,eq_self,true_and,and_true,Nat.zero_add]
      tactic =>
      exact Nat.le_refl _
  · have hI : ¬ IN i < (2 : Int) := by simp only [IN]; omega
    sym =>
    simp [Zaa,Zab,Zad,Zae,Zaf,Zag,Zah,Zai,Zak,Zal,Zam,Zan,Zao,Zap,Zaq,Zav,Zaw,Zay,Zaz,Za0,Za1,Za2,Za3,Za4,Za5,Za6,Za7,Za9,Zba,Zbb,Zbd,Zbf,Zbh,Zbt,Zb1,Zb9,Zcn,Zcx,Zcz,Zq9,Zrc,Zdc,Zdd,Zde,Zdi,Zev,Zew,Zex,Zez,Ze0,Ze2,Ze3,Ze5,Ze8,Zfc,Zfd,Zfe,Zfh,Zfi,Zfl,Zfn,Zfq,Zf0,Zf1,Zf3,Zga,Zgc,Zgr,Zgs,Zgt,Zgv,Zg4,Zg5,Zhd,Zhe,Zhf,Zhg,Zhh,Zho,Zh6,Zh7,Zh9,Zio,Zip,Ziq,Zir,Zi6,Zjf,Zjg,Zjl,Zjm,Zjp,Zjr,Zju,Zjw,Zj4,Zkv,Zky,Zkz,Zla,Zlb,Zle,Zlj,Zll,Zlu,Zly,Zlz,Zmt,Zmv,Zmw,Zmx,Zmz,Zm2,Zm6,Zm9,Zna,Znb,Zne,Znf,Zng,Znn,Zno,Znp,Znr,Zn5,Zn6,Zn7,Zrd,Zos,Zot,Zo3,Zo7,Zo8,Zo9,Zpa,Zpc,Zpd,Zpi,Zpo,Zps,Zqb,Zqc,Zqf,Zqg,Zqh,Zqi,Zqk,Zql,Zqm,Zqn,List.length_replicate,eq_self,true_and,and_true,Nat.zero_add,hI,h,callable_11]
    tactic =>
    refine cl none (alive_con) trivial ?_
    sym =>
    simp [Zaa,Zab,Zad,Zae,Zaf,Zag,Zah,Zai,Zak,Zal,Zam,Zan,Zao,Zap,Zaq,Zav,Zaw,Zay,Zaz,Za0,Za1,Za2,Za3,Za4,Za5,Za6,Za7,Za9,Zba,Zbb,Zbd,Zbf,Zbh,Zbt,Zb1,Zb9,Zcn,Zcx,Zcz,Zq9,Zrc,Zdc,Zdd,Zde,Zdi,Zev,Zew,Zex,Zez,Ze0,Ze2,Ze3,Ze5,Ze8,Zfc,Zfd,Zfe,Zfh,Zfi,Zfl,Zfn,Zfq,Zf0,Zf1,Zf3,Zga,Zgc,Zgr,Zgs,Zgt,Zgv,Zg4,Zg5,Zhd,Zhe,Zhf,Zhg,Zhh,Zho,Zh6,Zh7,Zh9,Zio,Zip,Ziq,Zir,Zi6,Zjf,Zjg,Zjl,Zjm,Zjp,Zjr,Zju,Zjw,Zj4,Zkv,Zky,Zkz,Zla,Zlb,Zle,Zlj,Zll,Zlu,Zly,Zlz,Zmt,Zmv,Zmw,Zmx,Zmz,Zm2,Zm6,Zm9,Zna,Znb,Zne,Znf,Zng,Znn,Zno,Znp,Znr,Zn5,Zn6,Zn7,Zrd,Zos,Zot,Zo3,Zo7,Zo8,Zo9,Zpa,Zpc,Zpd,Zpi,Zpo,Zps,Zqb,Zqc,Zqf,Zqg,Zqh,Zqi,Zqk,Zql,Zqm,Zqn,List.length_replicate,eq_self,true_and,and_true,Nat.zero_add]
    tactic =>
    refine endA ?_
    sym =>
    simp [Zaa,Zab,Zad,Zae,Zaf,Zag,Zah,Zai,Zak,Zal,Zam,Zan,Zao,Zap,Zaq,Zav,Zaw,Zay,Zaz,Za0,Za1,Za2,Za3,Za4,Za5,Za6,Za7,Za9,Zba,Zbb,Zbd,Zbf,Zbh,Zbt,Zb1,Zb9,Zcn,Zcx,Zcz,Zq9,Zrc,Zdc,Zdd,Zde,Zdi,Zev,Zew,Zex,Zez,Ze0,Ze2,Ze3,Ze5,Ze8,Zfc,Zfd,Zfe,Zfh,Zfi,Zfl,Zfn,Zfq,Zf0,Zf1,Zf3,Zga,Zgc,Zgr,Zgs,Zgt,Zgv,Zg4,Zg5,Zhd,Zhe,Zhf,Zhg,Zhh,Zho,Zh6,Zh7,Zh9,Zio,Zip,Ziq,Zir,Zi6,Zjf,Zjg,Zjl,Zjm,Zjp,Zjr,Zju,Zjw,Zj4,Zkv,Zky,Zkz,Zla,Zlb,Zle,Zlj,Zll,Zlu,Zly,Zlz,Zmt,Zmv,Zmw,Zmx,Zmz,Zm2,Zm6,Zm9,Zna,Znb,Zne,Znf,Zng,Znn,Zno,Znp,Znr,Zn5,Zn6,Zn7,Zrd,Zos,Zot,Zo3,Zo7,Zo8,Zo9,Zpa,Zpc,Zpd,Zpi,Zpo,Zps,Zqb,Zqc,Zqf,Zqg,Zqh,Zqi,Zqk,Zql,Zqm,Zqn,List.length_replicate,eq_self,true_and,and_true,Nat.zero_add]
theorem flat_cB : ∀ l : List Int, (l.flatMap fun n : Int => [AV.sc (.int .u8 n)]) = cB l
  | [] => rfl
  | a :: l => by
    show [AV.sc (.int .u8 a)] ++ l.flatMap (fun n : Int => [AV.sc (.int .u8 n)]) = cB (a :: l)
    rw [flat_cB l]; rfl
theorem nobody_law (b : List Int) : Con Try.prog 5 [] [.fz b.length (b.flatMap fun n : Int => [AV.sc (.int .u8 n)])] [] (Bo true) := by
  rw [flat_cB]
  exact nobody_con b
end Go.Proofs.Ytdjjibmjinllnaa.DigV
