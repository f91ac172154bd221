import Derived.Test.YtnfgnafphfddhaaCodD
import Derived.Test.YtnfgnafphfddhaaSpnD
namespace Go.Proofs.Ytnfgnafphfddhaa.SpnE
open Go Go.Sim Go.Sim.E Go.RowKit Go.Proofs Go.Proofs.Ytnfgnafphfddhaa.Cod Go.Proofs.Ytnfgnafphfddhaa.Tab Go.Proofs.Ytnfgnafphfddhaa.SpnP Go.Proofs.Ytnfgnafphfddhaa.SpnA Go.Proofs.Ytnfgnafphfddhaa.SpnB Go.Proofs.Ytnfgnafphfddhaa.SpnC Go.Proofs.Ytnfgnafphfddhaa.SpnD
set_option linter.unusedVariables false
set_option linter.unusedSimpArgs false
set_option maxRecDepth 100000
set_option maxHeartbeats 4000000
def gS1 (s : List Rg) (x : Rg) : List Rg := if x.2 = -7 then cut (lim x.1) s else if lim x.2 ≤ lim x.1 then s else add (lim x.1, lim x.2) s
def gS (l : List Rg) : List Rg := l.foldl gS1 []
theorem merge_length : ∀ (l : List Rg) (x : Rg), (merge x l).length ≤ l.length + 1
  | [], x => by simp [merge]
  | r :: l, x => by
    unfold merge
    split
    · have := merge_length l (min x.1 r.1, max x.2 r.2); simp; omega
    · simp
theorem add_length (x : Rg) : ∀ l : List Rg, (add x l).length ≤ l.length + 1
  | [] => by simp [add]
  | r :: l => by
    unfold add
    split
    · have := add_length x l; simp; omega
    · exact merge_length _ _
theorem cut_length (x : Int) : ∀ l : List Rg, (cut x l).length ≤ l.length
  | [] => by simp [cut]
  | r :: l => by
    have := cut_length x l
    unfold cut
    split <;> simp <;> omega
theorem gS1_length (s : List Rg) (x : Rg) : (gS1 s x).length ≤ s.length + 1 := by
  unfold gS1
  split
  · have := cut_length (lim x.1) s; omega
  · split
    · omega
    · exact add_length _ _
theorem add0_con : Con Try.prog 43 [] [.ag [.fz 0 []], I 0, I 2] [] (.ag [.fz 1 [I 0, I 2]]) := add_con [] (by simp) 0 2
theorem add1_con : Con Try.prog 43 [] [.ag [.fz 1 [I 0, I 2]], I 2, I 4] [] (.ag [.fz 1 [I 0, I 4]]) := add_con [(0, 2)] (by simp) 2 4
theorem add2_con : Con Try.prog 43 [] [.ag [.fz 1 [I 0, I 4]], I 9, I 11] [] (.ag [.fz 2 [I 0, I 4, I 9, I 11]]) := add_con [(0, 4)] (by simp) 9 11
abbrev q4 : AV := .fz 2 [I 0, I 4, I 9, I 11]
theorem al1 : Con Try.prog 34 [] [.ag [q4]] [] q4 := ranges_con [(0, 4), (9, 11)] (by simp)
theorem al2 : Con Try.prog 38 [] [.ag [q4], I 3] [] (Bo true) := by
  have h := has_con [(0, 4), (9, 11)] (by simp) 3
  rw [show hasF [(0, 4), (9, 11)] 3 = true from by decide] at h
  exact h
theorem al3 : Con Try.prog 38 [] [.ag [q4], I 4] [] (Bo false) := by
  have h := has_con [(0, 4), (9, 11)] (by simp) 4
  rw [show hasF [(0, 4), (9, 11)] 4 = false from by decide] at h
  exact h
theorem al4 : Con Try.prog 40 [] [.ag [q4], I 1] [] (I 4) := by
  have h := end_con [(0, 4), (9, 11)] (by simp) 1
  rw [show endF (lim 1) [(0, 4), (9, 11)] = 4 from by decide] at h
  exact h
theorem al5 : Con Try.prog 36 [] [.ag [q4]] [] (I 6) := by
  have h := size_con [(0, 4), (9, 11)] (by simp)
  rw [show sumR [(0, 4), (9, 11)] = 6 from by decide] at h
  exact h
theorem al6 : Con Try.prog 45 [] [.ag [q4], I 9, I 11] [] (Bo true) := by
  have h := covers_con [(0, 4), (9, 11)] (by simp) 9 11
  rw [show decide (lim 11 ≤ lim 9 ∨ lim 11 ≤ endF (lim 9) [(0, 4), (9, 11)]) = true from by decide] at h
  exact h
theorem al7 : Con Try.prog 46 [] [.ag [q4], I 0, I 12] [] (.fz 2 [I 4, I 9, I 11, I 12]) := by
  have h := gaps_con [(0, 4), (9, 11)] (by simp) 0 12
  rw [show gapsF (lim 12) [(0, 4), (9, 11)] (lim 0) [] = [(4, 9), (11, 12)] from by decide] at h
  exact h
theorem alive_con : Con Try.prog 42 [] [] [] (Bo true) := by
  refine con_j b42 rfl ?_
  sym =>
  simp [Zab,Zad,Zak,Zam,Zaz,Za0,Za1,Za2,Za3,Za4,Za5,Za6,Za7,Za9,Zba,Zbb,Zbd,Zbf,Zbh,Zbj,Zbt,Zb1,Zb9,Zcn,Zcv,Zc3,Zdc,Zdd,Zde,Zdi,Zev,Zew,Zex,Zez,Ze0,Ze1,Ze2,Ze3,Ze5,Ze8,Zfc,Zfd,Zfe,Zfh,Zfi,Zfl,Zfn,Zfz,Zga,Zgb,Zgd,Zgg,Zgr,Zgs,Zgt,Zgu,Zg4,Zg6,Zhd,Zhe,Zhf,Zhg,Zhh,Zho,Zh6,Zh7,Zin,Ziu,Ziv,Ziw,Zi6,Zi7,Zjh,Zji,Zjr,Zjw,Zj7,Zka,Zkb,Zkv,Zkx,Zla,Zlb,Zlc,Zld,Zle,Zlf,Zlh,Zlj,Zlm,Zls,Zlz,Zl2,Zmt,Zmv,Zmw,Zmx,Zmz,Zm2,Zm5,Zm7,Zm9,Zna,Znb,Zne,Znf,Zng,Znn,Zno,Znp,Zn7,Zok,Zol,Zom,Zor,Zos,Zo4,Zo7,Zo8,Zpc,eq_self,true_and,and_true,Int.toNat_zero,callable_43]
  tactic =>
  refine cl none (add0_con) trivial ?_
  sym =>
  simp [Zab,Zad,Zak,Zam,Zaz,Za0,Za1,Za2,Za3,Za4,Za5,Za6,Za7,Za9,Zba,Zbb,Zbd,Zbf,Zbh,Zbj,Zbt,Zb1,Zb9,Zcn,Zcv,Zc3,Zdc,Zdd,Zde,Zdi,Zev,Zew,Zex,Zez,Ze0,Ze1,Ze2,Ze3,Ze5,Ze8,Zfc,Zfd,Zfe,Zfh,Zfi,Zfl,Zfn,Zfz,Zga,Zgb,Zgd,Zgg,Zgr,Zgs,Zgt,Zgu,Zg4,Zg6,Zhd,Zhe,Zhf,Zhg,Zhh,Zho,Zh6,Zh7,Zin,Ziu,Ziv,Ziw,Zi6,Zi7,Zjh,Zji,Zjr,Zjw,Zj7,Zka,Zkb,Zkv,Zkx,Zla,Zlb,Zlc,Zld,Zle,Zlf,Zlh,Zlj,Zlm,Zls,Zlz,Zl2,Zmt,Zmv,Zmw,Zmx,Zmz,Zm2,Zm5,Zm7,Zm9,Zna,Znb,Zne,Znf,Zng,Znn,Zno,Znp,Zn7,Zok,Zol,Zom,Zor,Zos,Zo4,Zo7,Zo8,Zpc,eq_self,true_and,and_true,Int.toNat_zero,callable_43]
  tactic =>
  refine cl none (add1_con) trivial ?_
  sym =>
  simp [Zab,Zad,Zak,Zam,Zaz,Za0,Za1,Za2,Za3,Za4,Za5,Za6,Za7,Za9,Zba,Zbb,Zbd,Zbf,Zbh,Zbj,Zbt,Zb1,Zb9,Zcn,Zcv,Zc3,Zdc,Zdd,Zde,Zdi,Zev,Zew,Zex,Zez,Ze0,Ze1,Ze2,Ze3,Ze5,Ze8,Zfc,Zfd,Zfe,Zfh,Zfi,Zfl,Zfn,Zfz,Zga,Zgb,Zgd,Zgg,Zgr,Zgs,Zgt,Zgu,Zg4,Zg6,Zhd,Zhe,Zhf,Zhg,Zhh,Zho,Zh6,Zh7,Zin,Ziu,Ziv,Ziw,Zi6,Zi7,Zjh,Zji,Zjr,Zjw,Zj7,Zka,Zkb,Zkv,Zkx,Zla,Zlb,Zlc,Zld,Zle,Zlf,Zlh,Zlj,Zlm,Zls,Zlz,Zl2,Zmt,Zmv,Zmw,Zmx,Zmz,Zm2,Zm5,Zm7,Zm9,Zna,Znb,Zne,Znf,Zng,Znn,Zno,Znp,Zn7,Zok,Zol,Zom,Zor,Zos,Zo4,Zo7,Zo8,Zpc,eq_self,true_and,and_true,Int.toNat_zero,callable_43]
  tactic =>
  refine cl none (add2_con) trivial ?_
  sym =>
  simp [Zab,Zad,Zak,Zam,Zaz,Za0,Za1,Za2,Za3,Za4,Za5,Za6,Za7,Za9,Zba,Zbb,Zbd,Zbf,Zbh,Zbj,Zbt,Zb1,Zb9,Zcn,Zcv,Zc3,Zdc,Zdd,Zde,Zdi,Zev,Zew,Zex,Zez,Ze0,Ze1,Ze2,Ze3,Ze5,Ze8,Zfc,Zfd,Zfe,Zfh,Zfi,Zfl,Zfn,Zfz,Zga,Zgb,Zgd,Zgg,Zgr,Zgs,Zgt,Zgu,Zg4,Zg6,Zhd,Zhe,Zhf,Zhg,Zhh,Zho,Zh6,Zh7,Zin,Ziu,Ziv,Ziw,Zi6,Zi7,Zjh,Zji,Zjr,Zjw,Zj7,Zka,Zkb,Zkv,Zkx,Zla,Zlb,Zlc,Zld,Zle,Zlf,Zlh,Zlj,Zlm,Zls,Zlz,Zl2,Zmt,Zmv,Zmw,Zmx,Zmz,Zm2,Zm5,Zm7,Zm9,Zna,Znb,Zne,Znf,Zng,Znn,Zno,Znp,Zn7,Zok,Zol,Zom,Zor,Zos,Zo4,Zo7,Zo8,Zpc,eq_self,true_and,and_true,Int.toNat_zero,callable_34]
  tactic =>
  refine cl none (al1) trivial ?_
  sym =>
  simp [Zab,Zad,Zak,Zam,Zaz,Za0,Za1,Za2,Za3,Za4,Za5,Za6,Za7,Za9,Zba,Zbb,Zbd,Zbf,Zbh,Zbj,Zbt,Zb1,Zb9,Zcn,Zcv,Zc3,Zdc,Zdd,Zde,Zdi,Zev,Zew,Zex,Zez,Ze0,Ze1,Ze2,Ze3,Ze5,Ze8,Zfc,Zfd,Zfe,Zfh,Zfi,Zfl,Zfn,Zfz,Zga,Zgb,Zgd,Zgg,Zgr,Zgs,Zgt,Zgu,Zg4,Zg6,Zhd,Zhe,Zhf,Zhg,Zhh,Zho,Zh6,Zh7,Zin,Ziu,Ziv,Ziw,Zi6,Zi7,Zjh,Zji,Zjr,Zjw,Zj7,Zka,Zkb,Zkv,Zkx,Zla,Zlb,Zlc,Zld,Zle,Zlf,Zlh,Zlj,Zlm,Zls,Zlz,Zl2,Zmt,Zmv,Zmw,Zmx,Zmz,Zm2,Zm5,Zm7,Zm9,Zna,Znb,Zne,Znf,Zng,Znn,Zno,Znp,Zn7,Zok,Zol,Zom,Zor,Zos,Zo4,Zo7,Zo8,Zpc,eq_self,true_and,and_true,Int.toNat_zero,callable_38]
  tactic =>
  refine cl none (al2) trivial ?_
  sym =>
  simp [Zab,Zad,Zak,Zam,Zaz,Za0,Za1,Za2,Za3,Za4,Za5,Za6,Za7,Za9,Zba,Zbb,Zbd,Zbf,Zbh,Zbj,Zbt,Zb1,Zb9,Zcn,Zcv,Zc3,Zdc,Zdd,Zde,Zdi,Zev,Zew,Zex,Zez,Ze0,Ze1,Ze2,Ze3,Ze5,Ze8,Zfc,Zfd,Zfe,Zfh,Zfi,Zfl,Zfn,Zfz,Zga,Zgb,Zgd,Zgg,Zgr,Zgs,Zgt,Zgu,Zg4,Zg6,Zhd,Zhe,Zhf,Zhg,Zhh,Zho,Zh6,Zh7,Zin,Ziu,Ziv,Ziw,Zi6,Zi7,Zjh,Zji,Zjr,Zjw,Zj7,Zka,Zkb,Zkv,Zkx,Zla,Zlb,Zlc,Zld,Zle,Zlf,Zlh,Zlj,Zlm,Zls,Zlz,Zl2,Zmt,Zmv,Zmw,Zmx,Zmz,Zm2,Zm5,Zm7,Zm9,Zna,Znb,Zne,Znf,Zng,Znn,Zno,Znp,Zn7,Zok,Zol,Zom,Zor,Zos,Zo4,Zo7,Zo8,Zpc,eq_self,true_and,and_true,Int.toNat_zero,callable_38]
  tactic =>
  refine cl none (al3) trivial ?_
  sym =>
  simp [Zab,Zad,Zak,Zam,Zaz,Za0,Za1,Za2,Za3,Za4,Za5,Za6,Za7,Za9,Zba,Zbb,Zbd,Zbf,Zbh,Zbj,Zbt,Zb1,Zb9,Zcn,Zcv,Zc3,Zdc,Zdd,Zde,Zdi,Zev,Zew,Zex,Zez,Ze0,Ze1,Ze2,Ze3,Ze5,Ze8,Zfc,Zfd,Zfe,Zfh,Zfi,Zfl,Zfn,Zfz,Zga,Zgb,Zgd,Zgg,Zgr,Zgs,Zgt,Zgu,Zg4,Zg6,Zhd,Zhe,Zhf,Zhg,Zhh,Zho,Zh6,Zh7,Zin,Ziu,Ziv,Ziw,Zi6,Zi7,Zjh,Zji,Zjr,Zjw,Zj7,Zka,Zkb,Zkv,Zkx,Zla,Zlb,Zlc,Zld,Zle,Zlf,Zlh,Zlj,Zlm,Zls,Zlz,Zl2,Zmt,Zmv,Zmw,Zmx,Zmz,Zm2,Zm5,Zm7,Zm9,Zna,Znb,Zne,Znf,Zng,Znn,Zno,Znp,Zn7,Zok,Zol,Zom,Zor,Zos,Zo4,Zo7,Zo8,Zpc,eq_self,true_and,and_true,Int.toNat_zero,callable_40]
  tactic =>
  refine cl none (al4) trivial ?_
  sym =>
  simp [Zab,Zad,Zak,Zam,Zaz,Za0,Za1,Za2,Za3,Za4,Za5,Za6,Za7,Za9,Zba,Zbb,Zbd,Zbf,Zbh,Zbj,Zbt,Zb1,Zb9,Zcn,Zcv,Zc3,Zdc,Zdd,Zde,Zdi,Zev,Zew,Zex,Zez,Ze0,Ze1,Ze2,Ze3,Ze5,Ze8,Zfc,Zfd,Zfe,Zfh,Zfi,Zfl,Zfn,Zfz,Zga,Zgb,Zgd,Zgg,Zgr,Zgs,Zgt,Zgu,Zg4,Zg6,Zhd,Zhe,Zhf,Zhg,Zhh,Zho,Zh6,Zh7,Zin,Ziu,Ziv,Ziw,Zi6,Zi7,Zjh,Zji,Zjr,Zjw,Zj7,Zka,Zkb,Zkv,Zkx,Zla,Zlb,Zlc,Zld,Zle,Zlf,Zlh,Zlj,Zlm,Zls,Zlz,Zl2,Zmt,Zmv,Zmw,Zmx,Zmz,Zm2,Zm5,Zm7,Zm9,Zna,Znb,Zne,Znf,Zng,Znn,Zno,Znp,Zn7,Zok,Zol,Zom,Zor,Zos,Zo4,Zo7,Zo8,Zpc,eq_self,true_and,and_true,Int.toNat_zero,callable_36]
  tactic =>
  refine cl none (al5) trivial ?_
  sym =>
  simp [Zab,Zad,Zak,Zam,Zaz,Za0,Za1,Za2,Za3,Za4,Za5,Za6,Za7,Za9,Zba,Zbb,Zbd,Zbf,Zbh,Zbj,Zbt,Zb1,Zb9,Zcn,Zcv,Zc3,Zdc,Zdd,Zde,Zdi,Zev,Zew,Zex,Zez,Ze0,Ze1,Ze2,Ze3,Ze5,Ze8,Zfc,Zfd,Zfe,Zfh,Zfi,Zfl,Zfn,Zfz,Zga,Zgb,Zgd,Zgg,Zgr,Zgs,Zgt,Zgu,Zg4,Zg6,Zhd,Zhe,Zhf,Zhg,Zhh,Zho,Zh6,Zh7,Zin,Ziu,Ziv,Ziw,Zi6,Zi7,Zjh,Zji,Zjr,Zjw,Zj7,Zka,Zkb,Zkv,Zkx,Zla,Zlb,Zlc,Zld,Zle,Zlf,Zlh,Zlj,Zlm,Zls,Zlz,Zl2,Zmt,Zmv,Zmw,Zmx,Zmz,Zm2,Zm5,Zm7,Zm9,Zna,Znb,Zne,Znf,Zng,Znn,Zno,Znp,Zn7,Zok,Zol,Zom,Zor,Zos,Zo4,Zo7,Zo8,Zpc,eq_self,true_and,and_true,Int.toNat_zero,callable_45]
  tactic =>
  refine cl none (al6) trivial ?_
  sym =>
  simp [Zab,Zad,Zak,Zam,Zaz,Za0,Za1,Za2,Za3,Za4,Za5,Za6,Za7,Za9,Zba,Zbb,Zbd,Zbf,Zbh,Zbj,Zbt,Zb1,Zb9,Zcn,Zcv,Zc3,Zdc,Zdd,Zde,Zdi,Zev,Zew,Zex,Zez,Ze0,Ze1,Ze2,Ze3,Ze5,Ze8,Zfc,Zfd,Zfe,Zfh,Zfi,Zfl,Zfn,Zfz,Zga,Zgb,Zgd,Zgg,Zgr,Zgs,Zgt,Zgu,Zg4,Zg6,Zhd,Zhe,Zhf,Zhg,Zhh,Zho,Zh6,Zh7,Zin,Ziu,Ziv,Ziw,Zi6,Zi7,Zjh,Zji,Zjr,Zjw,Zj7,Zka,Zkb,Zkv,Zkx,Zla,Zlb,Zlc,Zld,Zle,Zlf,Zlh,Zlj,Zlm,Zls,Zlz,Zl2,Zmt,Zmv,Zmw,Zmx,Zmz,Zm2,Zm5,Zm7,Zm9,Zna,Znb,Zne,Znf,Zng,Znn,Zno,Znp,Zn7,Zok,Zol,Zom,Zor,Zos,Zo4,Zo7,Zo8,Zpc,eq_self,true_and,and_true,Int.toNat_zero,callable_46]
  tactic =>
  refine cl none (al7) trivial ?_
  sym =>
  simp [Zab,Zad,Zak,Zam,Zaz,Za0,Za1,Za2,Za3,Za4,Za5,Za6,Za7,Za9,Zba,Zbb,Zbd,Zbf,Zbh,Zbj,Zbt,Zb1,Zb9,Zcn,Zcv,Zc3,Zdc,Zdd,Zde,Zdi,Zev,Zew,Zex,Zez,Ze0,Ze1,Ze2,Ze3,Ze5,Ze8,Zfc,Zfd,Zfe,Zfh,Zfi,Zfl,Zfn,Zfz,Zga,Zgb,Zgd,Zgg,Zgr,Zgs,Zgt,Zgu,Zg4,Zg6,Zhd,Zhe,Zhf,Zhg,Zhh,Zho,Zh6,Zh7,Zin,Ziu,Ziv,Ziw,Zi6,Zi7,Zjh,Zji,Zjr,Zjw,Zj7,Zka,Zkb,Zkv,Zkx,Zla,Zlb,Zlc,Zld,Zle,Zlf,Zlh,Zlj,Zlm,Zls,Zlz,Zl2,Zmt,Zmv,Zmw,Zmx,Zmz,Zm2,Zm5,Zm7,Zm9,Zna,Znb,Zne,Znf,Zng,Znn,Zno,Znp,Zn7,Zok,Zol,Zom,Zor,Zos,Zo4,Zo7,Zo8,Zpc,eq_self,true_and,and_true,Int.toNat_zero]
  tactic =>
  refine endA ?_
  sym =>
  simp [Zab,Zad,Zak,Zam,Zaz,Za0,Za1,Za2,Za3,Za4,Za5,Za6,Za7,Za9,Zba,Zbb,Zbd,Zbf,Zbh,Zbj,Zbt,Zb1,Zb9,Zcn,Zcv,Zc3,Zdc,Zdd,Zde,Zdi,Zev,Zew,Zex,Zez,Ze0,Ze1,Ze2,Ze3,Ze5,Ze8,Zfc,Zfd,Zfe,Zfh,Zfi,Zfl,Zfn,Zfz,Zga,Zgb,Zgd,Zgg,Zgr,Zgs,Zgt,Zgu,Zg4,Zg6,Zhd,Zhe,Zhf,Zhg,Zhh,Zho,Zh6,Zh7,Zin,Ziu,Ziv,Ziw,Zi6,Zi7,Zjh,Zji,Zjr,Zjw,Zj7,Zka,Zkb,Zkv,Zkx,Zla,Zlb,Zlc,Zld,Zle,Zlf,Zlh,Zlj,Zlm,Zls,Zlz,Zl2,Zmt,Zmv,Zmw,Zmx,Zmz,Zm2,Zm5,Zm7,Zm9,Zna,Znb,Zne,Znf,Zng,Znn,Zno,Znp,Zn7,Zok,Zol,Zom,Zor,Zos,Zo4,Zo7,Zo8,Zpc,eq_self,true_and,and_true,Int.toNat_zero]
def gR1 (r : List Rg) (x : Rg) : List Rg := if x.2 = -7 then rcutF (lim x.1) r else r ++ [(lim x.1, lim x.2)]
def gR (l : List Rg) : List Rg := l.foldl gR1 []
theorem gR1_length (s : List Rg) (x : Rg) : (gR1 s x).length ≤ s.length + 1 := by
  unfold gR1
  split <;> simp
theorem gS_length (l : List Rg) : (gS l).length ≤ l.length := by
  have : ∀ (l s : List Rg), (l.foldl gS1 s).length ≤ s.length + l.length := by
    intro l
    induction l with
    | nil => simp
    | cons x l ih => intro s; have h1 := ih (gS1 s x); have h2 := gS1_length s x; simp; omega
  have h := this l []
  simp only [List.length_nil, Nat.zero_add] at h
  exact h
theorem gR_length (l : List Rg) : (gR l).length ≤ l.length := by
  have : ∀ (l s : List Rg), (l.foldl gR1 s).length ≤ s.length + l.length := by
    intro l
    induction l with
    | nil => simp
    | cons x l ih => intro s; have h1 := ih (gR1 s x); have h2 := gR1_length s x; simp; omega
  have h := this l []
  simp only [List.length_nil, Nat.zero_add] at h
  exact h
theorem gS_one (l : List Rg) (i : Nat) (h : i < l.length) : gS (l.take (i + 1)) = gS1 (gS (l.take i)) l[i] := by rw [take_one l i h, gS, List.foldl_append]; rfl
theorem gR_one (l : List Rg) (i : Nat) (h : i < l.length) : gR (l.take (i + 1)) = gR1 (gR (l.take i)) l[i] := by rw [take_one l i h, gR, List.foldl_append]; rfl
theorem cR_takes (l : List Rg) (k : Nat) : (cR l).take (k * 2) = cR (l.take k) := by
  induction l generalizing k with
  | nil => simp
  | cons r l ih =>
    cases k with
    | zero => simp
    | succ k =>
      rw [show (k + 1) * 2 = k * 2 + 2 from by omega]
      show (I r.1 :: I r.2 :: cR l).take (k * 2 + 2) = cR (r :: l.take k)
      simp only [List.take_succ_cons, ih, cR_cons]
def i32 (q : List Rg) (k : Nat) (s : St) : Prop := ∃ i : Nat, i + k = q.length ∧
    s = ⟨[(2, .pt 0 0), (3, .pt 1 0), (4, .pt 2 0), (5, .pt 3 0), (14, fR q), (15, I (IN q.length)), (16, I (IN i))],
      [(0, ⟨[.nl], 1, 0⟩), (1, ⟨[.nl, I 0], 1, 0⟩), (2, ⟨[fR (gS (q.take i))], 1, 0⟩), (3, ⟨[fR (gR (q.take i)), I 0], 1, 0⟩)], 4⟩
theorem grown_con (l : List Rg) : Con Try.prog 32 [] [fR l] [] (.tu [.ag [fR (gS (l.take 30))], .ag [fR (gR (l.take 30)), I 0]]) := by
  refine con_j b32 rfl ?_
  have e1 : min (IN l.length) 30 = IN (l.take 30).length := by simp [IN]; omega
  have e2 : (cR l).take ((l.take 30).length * 2) = cR (l.take 30) := by rw [cR_takes]; congr 1; simp [List.take_take]
  have e3 : (l.take 30).length ≤ l.length := by simp; omega
  have hq : (l.take 30).length ≤ 30 := by simp; omega
  sym =>
  simp [Zaa,Zab,Zac,Zad,Zae,Zaf,Zag,Zah,Zai,Zak,Zal,Zam,Zan,Zap,Zaq,Zav,Zaw,Zay,Zaz,Za0,Za1,Za2,Za3,Za4,Za5,Za9,Zba,Zbb,Zbf,Zbt,Zbu,Zbv,Zbw,Zb1,Zb9,Zch,Zcn,Zct,Zcv,Zc3,Zc4,Zc7,Zc8,Zc9,Zdf,Zdg,Zdh,Zdj,Zdk,Zdm,Zdo,Zdp,Zdt,Zdu,Zdv,Zdw,Zdx,Zdy,Zdz,Zd0,Zd1,Zd2,Zd3,Zec,Zek,Zen,Zeq,Zer,Zes,Zet,Zev,Zew,Zez,Ze0,Ze1,Ze2,Ze3,Ze5,Ze8,Zfc,Zfd,Zfe,Zfh,Zfn,Zfq,Zfz,Zf1,Zgr,Zgs,Zgt,Zgu,Zgv,Zgw,Zgx,Zg4,Zg6,Zhd,Zhe,Zhf,Zhm,Zhn,Zho,Zhs,Zht,Zhu,Zh6,Zh7,Zif,Zig,Zik,Zil,Zim,Zin,Ziu,Ziv,Ziw,Zi6,Zjh,Zji,Zjn,Zj2,Zj7,Zka,Zkv,Zkx,Zla,Zlb,Zlc,Zld,Zle,Zlf,Zlh,Zlj,Zlk,Zlm,Zlz,Zl2,Zmt,Zmv,Zmw,Zmy,Zm0,Zm1,Zm3,Zm5,Zm6,Zm7,Zm9,Zna,Znb,Zne,Znf,Zng,Znh,Znn,Zno,Znp,Znr,Zns,Znt,Znu,Znw,Zn5,Zos,Zot,Zo7,Zo8,Zo9,Zpa,Zpc,Zpd,Zpg,Zpi,Zpu,Zpv,Zp7,Zp9,Zqb,Zqc,Zqd,Zqe,Zqf,Zqg,Zqh,Zqi,Zqk,Zql,Zqm,Zqn,List.length_append,eq_self,true_and,and_true,Nat.sub_zero,Int.toNat_zero,e1,e2,e3]
  tactic =>
  generalize l.take 30 = q at *
  refine lpA (i32 q) q.length [(0, 0), (1, 1), (2, 4), (3, 5)] _ ⟨0, by omega, rfl⟩ (wkA ?_) ?_
  · sym =>
    simp [Zaa,Zab,Zac,Zad,Zae,Zaf,Zag,Zah,Zai,Zak,Zal,Zam,Zan,Zap,Zaq,Zav,Zaw,Zay,Zaz,Za0,Za1,Za2,Za3,Za4,Za5,Za9,Zba,Zbb,Zbf,Zbt,Zbu,Zbv,Zbw,Zb1,Zb9,Zch,Zcn,Zct,Zcv,Zc3,Zc4,Zc7,Zc8,Zc9,Zdf,Zdg,Zdh,Zdj,Zdk,Zdm,Zdo,Zdp,Zdt,Zdu,Zdv,Zdw,Zdx,Zdy,Zdz,Zd0,Zd1,Zd2,Zd3,Zec,Zek,Zen,Zeq,Zer,Zes,Zet,Zev,Zew,Zez,Ze0,Ze1,Ze2,Ze3,Ze5,Ze8,Zfc,Zfd,Zfe,Zfh,Zfn,Zfq,Zfz,Zf1,Zgr,Zgs,Zgt,Zgu,Zgv,Zgw,Zgx,Zg4,Zg6,Zhd,Zhe,Zhf,Zhm,Zhn,Zho,Zhs,Zht,Zhu,Zh6,Zh7,Zif,Zig,Zik,Zil,Zim,Zin,Ziu,Ziv,Ziw,Zi6,Zjh,Zji,Zjn,Zj2,Zj7,Zka,Zkv,Zkx,Zla,Zlb,Zlc,Zld,Zle,Zlf,Zlh,Zlj,Zlk,Zlm,Zlz,Zl2,Zmt,Zmv,Zmw,Zmy,Zm0,Zm1,Zm3,Zm5,Zm6,Zm7,Zm9,Zna,Znb,Zne,Znf,Zng,Znh,Znn,Zno,Znp,Znr,Zns,Znt,Znu,Znw,Zn5,Zos,Zot,Zo7,Zo8,Zo9,Zpa,Zpc,Zpd,Zpg,Zpi,Zpu,Zpv,Zp7,Zp9,Zqb,Zqc,Zqd,Zqe,Zqf,Zqg,Zqh,Zqi,Zqk,Zql,Zqm,Zqn,List.length_append,eq_self,true_and,and_true,Nat.sub_zero,Int.toNat_zero]
    tactic =>
    and_intros <;> try (first | omega | rfl | assumption | exact cR_okF _ | exact cR_okI _ | exact rs_self (cR_okI _) | (symm; refine List.take_of_length_le ?_; simp <;> omega))
  rintro k s ⟨i, hi, rfl⟩
  have g1 := gS_length (q.take i)
  have g2 := gR_length (q.take i)
  simp only [List.length_take] at g1 g2
  by_cases h : i < q.length
  · have hw := w64s i (by omega)
    have h0 := cR_q0 q i h
    have h1 := cR_q1 q i h
    have s1 := gS_one q i h
    have s2 := gR_one q i h
    by_cases c1 : q[i].2 = -7
    · rw [gS1, if_pos c1] at s1
      rw [gR1, if_pos c1] at s2
      sym =>
      simp [Zaa,Zab,Zac,Zad,Zae,Zaf,Zag,Zah,Zai,Zak,Zal,Zam,Zan,Zap,Zaq,Zav,Zaw,Zay,Zaz,Za0,Za1,Za2,Za3,Za4,Za5,Za9,Zba,Zbb,Zbf,Zbt,Zbu,Zbv,Zbw,Zb1,Zb9,Zch,Zcn,Zct,Zcv,Zc3,Zc4,Zc7,Zc8,Zc9,Zdf,Zdg,Zdh,Zdj,Zdk,Zdm,Zdo,Zdp,Zdt,Zdu,Zdv,Zdw,Zdx,Zdy,Zdz,Zd0,Zd1,Zd2,Zd3,Zec,Zek,Zen,Zeq,Zer,Zes,Zet,Zev,Zew,Zez,Ze0,Ze1,Ze2,Ze3,Ze5,Ze8,Zfc,Zfd,Zfe,Zfh,Zfn,Zfq,Zfz,Zf1,Zgr,Zgs,Zgt,Zgu,Zgv,Zgw,Zgx,Zg4,Zg6,Zhd,Zhe,Zhf,Zhm,Zhn,Zho,Zhs,Zht,Zhu,Zh6,Zh7,Zif,Zig,Zik,Zil,Zim,Zin,Ziu,Ziv,Ziw,Zi6,Zjh,Zji,Zjn,Zj2,Zj7,Zka,Zkv,Zkx,Zla,Zlb,Zlc,Zld,Zle,Zlf,Zlh,Zlj,Zlk,Zlm,Zlz,Zl2,Zmt,Zmv,Zmw,Zmy,Zm0,Zm1,Zm3,Zm5,Zm6,Zm7,Zm9,Zna,Znb,Zne,Znf,Zng,Znh,Znn,Zno,Znp,Znr,Zns,Znt,Znu,Znw,Zn5,Zos,Zot,Zo7,Zo8,Zo9,Zpa,Zpc,Zpd,Zpg,Zpi,Zpu,Zpv,Zp7,Zp9,Zqb,Zqc,Zqd,Zqe,Zqf,Zqg,Zqh,Zqi,Zqk,Zql,Zqm,Zqn,List.length_append,eq_self,true_and,and_true,Nat.sub_zero,Int.toNat_zero,h,h0,h1,hw,c1,cR_length,callable_44]
      tactic =>
      and_intros <;> try (first | omega | rfl | assumption | exact cR_okF _ | exact cR_okI _ | exact rs_self (cR_okI _) | (symm; refine List.take_of_length_le ?_; simp <;> omega))
      refine cl none (cut_con _ (by omega) _) trivial ?_
      sym =>
      simp [Zaa,Zab,Zac,Zad,Zae,Zaf,Zag,Zah,Zai,Zak,Zal,Zam,Zan,Zap,Zaq,Zav,Zaw,Zay,Zaz,Za0,Za1,Za2,Za3,Za4,Za5,Za9,Zba,Zbb,Zbf,Zbt,Zbu,Zbv,Zbw,Zb1,Zb9,Zch,Zcn,Zct,Zcv,Zc3,Zc4,Zc7,Zc8,Zc9,Zdf,Zdg,Zdh,Zdj,Zdk,Zdm,Zdo,Zdp,Zdt,Zdu,Zdv,Zdw,Zdx,Zdy,Zdz,Zd0,Zd1,Zd2,Zd3,Zec,Zek,Zen,Zeq,Zer,Zes,Zet,Zev,Zew,Zez,Ze0,Ze1,Ze2,Ze3,Ze5,Ze8,Zfc,Zfd,Zfe,Zfh,Zfn,Zfq,Zfz,Zf1,Zgr,Zgs,Zgt,Zgu,Zgv,Zgw,Zgx,Zg4,Zg6,Zhd,Zhe,Zhf,Zhm,Zhn,Zho,Zhs,Zht,Zhu,Zh6,Zh7,Zif,Zig,Zik,Zil,Zim,Zin,Ziu,Ziv,Ziw,Zi6,Zjh,Zji,Zjn,Zj2,Zj7,Zka,Zkv,Zkx,Zla,Zlb,Zlc,Zld,Zle,Zlf,Zlh,Zlj,Zlk,Zlm,Zlz,Zl2,Zmt,Zmv,Zmw,Zmy,Zm0,Zm1,Zm3,Zm5,Zm6,Zm7,Zm9,Zna,Znb,Zne,Znf,Zng,Znh,Znn,Zno,Znp,Znr,Zns,Znt,Znu,Znw,Zn5,Zos,Zot,Zo7,Zo8,Zo9,Zpa,Zpc,Zpd,Zpg,Zpi,Zpu,Zpv,Zp7,Zp9,Zqb,Zqc,Zqd,Zqe,Zqf,Zqg,Zqh,Zqi,Zqk,Zql,Zqm,Zqn,List.length_append,eq_self,true_and,and_true,Nat.sub_zero,Int.toNat_zero,callable_69]
      tactic =>
      refine cl none (rcut_con _ 0 (by omega) _) trivial ?_
      sym =>
      simp [Zaa,Zab,Zac,Zad,Zae,Zaf,Zag,Zah,Zai,Zak,Zal,Zam,Zan,Zap,Zaq,Zav,Zaw,Zay,Zaz,Za0,Za1,Za2,Za3,Za4,Za5,Za9,Zba,Zbb,Zbf,Zbt,Zbu,Zbv,Zbw,Zb1,Zb9,Zch,Zcn,Zct,Zcv,Zc3,Zc4,Zc7,Zc8,Zc9,Zdf,Zdg,Zdh,Zdj,Zdk,Zdm,Zdo,Zdp,Zdt,Zdu,Zdv,Zdw,Zdx,Zdy,Zdz,Zd0,Zd1,Zd2,Zd3,Zec,Zek,Zen,Zeq,Zer,Zes,Zet,Zev,Zew,Zez,Ze0,Ze1,Ze2,Ze3,Ze5,Ze8,Zfc,Zfd,Zfe,Zfh,Zfn,Zfq,Zfz,Zf1,Zgr,Zgs,Zgt,Zgu,Zgv,Zgw,Zgx,Zg4,Zg6,Zhd,Zhe,Zhf,Zhm,Zhn,Zho,Zhs,Zht,Zhu,Zh6,Zh7,Zif,Zig,Zik,Zil,Zim,Zin,Ziu,Ziv,Ziw,Zi6,Zjh,Zji,Zjn,Zj2,Zj7,Zka,Zkv,Zkx,Zla,Zlb,Zlc,Zld,Zle,Zlf,Zlh,Zlj,Zlk,Zlm,Zlz,Zl2,Zmt,Zmv,Zmw,Zmy,Zm0,Zm1,Zm3,Zm5,Zm6,Zm7,Zm9,Zna,Znb,Zne,Znf,Zng,Znh,Znn,Zno,Znp,Znr,Zns,Znt,Znu,Znw,Zn5,Zos,Zot,Zo7,Zo8,Zo9,Zpa,Zpc,Zpd,Zpg,Zpi,Zpu,Zpv,Zp7,Zp9,Zqb,Zqc,Zqd,Zqe,Zqf,Zqg,Zqh,Zqi,Zqk,Zql,Zqm,Zqn,List.length_append,eq_self,true_and,and_true,Nat.sub_zero,Int.toNat_zero,hw]
      tactic =>
      and_intros <;> try (first | omega | rfl | assumption | exact cR_okF _ | exact cR_okI _ | exact rs_self (cR_okI _) | (symm; refine List.take_of_length_le ?_; simp <;> omega))
      unfold NextL; refine ⟨(k - 1), [(0, 0), (1, 1), (2, 2), (3, 3)], _, by omega, ⟨i + 1, by omega, rfl⟩, wkA ?_⟩
      rw [s1, s2]
      sym =>
      simp [Zaa,Zab,Zac,Zad,Zae,Zaf,Zag,Zah,Zai,Zak,Zal,Zam,Zan,Zap,Zaq,Zav,Zaw,Zay,Zaz,Za0,Za1,Za2,Za3,Za4,Za5,Za9,Zba,Zbb,Zbf,Zbt,Zbu,Zbv,Zbw,Zb1,Zb9,Zch,Zcn,Zct,Zcv,Zc3,Zc4,Zc7,Zc8,Zc9,Zdf,Zdg,Zdh,Zdj,Zdk,Zdm,Zdo,Zdp,Zdt,Zdu,Zdv,Zdw,Zdx,Zdy,Zdz,Zd0,Zd1,Zd2,Zd3,Zec,Zek,Zen,Zeq,Zer,Zes,Zet,Zev,Zew,Zez,Ze0,Ze1,Ze2,Ze3,Ze5,Ze8,Zfc,Zfd,Zfe,Zfh,Zfn,Zfq,Zfz,Zf1,Zgr,Zgs,Zgt,Zgu,Zgv,Zgw,Zgx,Zg4,Zg6,Zhd,Zhe,Zhf,Zhm,Zhn,Zho,Zhs,Zht,Zhu,Zh6,Zh7,Zif,Zig,Zik,Zil,Zim,Zin,Ziu,Ziv,Ziw,Zi6,Zjh,Zji,Zjn,Zj2,Zj7,Zka,Zkv,Zkx,Zla,Zlb,Zlc,Zld,Zle,Zlf,Zlh,Zlj,Zlk,Zlm,Zlz,Zl2,Zmt,Zmv,Zmw,Zmy,Zm0,Zm1,Zm3,Zm5,Zm6,Zm7,Zm9,Zna,Znb,Zne,Znf,Zng,Znh,Znn,Zno,Znp,Znr,Zns,Znt,Znu,Znw,Zn5,Zos,Zot,Zo7,Zo8,Zo9,Zpa,Zpc,Zpd,Zpg,Zpi,Zpu,Zpv,Zp7,Zp9,Zqb,Zqc,Zqd,Zqe,Zqf,Zqg,Zqh,Zqi,Zqk,Zql,Zqm,Zqn,List.length_append,eq_self,true_and,and_true,Nat.sub_zero,Int.toNat_zero]
    · rw [gS1, if_neg c1] at s1
      rw [gR1, if_neg c1] at s2
      sym =>
      simp [Zaa,Zab,Zac,Zad,Zae,Zaf,Zag,Zah,Zai,Zak,Zal,Zam,Zan,Zap,Zaq,Zav,Zaw,Zay,Zaz,Za0,Za1,Za2,Za3,Za4,Za5,Za9,Zba,Zbb,Zbf,Zbt,Zbu,Zbv,Zbw,Zb1,Zb9,Zch,Zcn,Zct,Zcv,Zc3,Zc4,Zc7,Zc8,Zc9,Zdf,Zdg,Zdh,Zdj,Zdk,Zdm,Zdo,Zdp,Zdt,Zdu,Zdv,Zdw,Zdx,Zdy,Zdz,Zd0,Zd1,Zd2,Zd3,Zec,Zek,Zen,Zeq,Zer,Zes,Zet,Zev,Zew,Zez,Ze0,Ze1,Ze2,Ze3,Ze5,Ze8,Zfc,Zfd,Zfe,Zfh,Zfn,Zfq,Zfz,Zf1,Zgr,Zgs,Zgt,Zgu,Zgv,Zgw,Zgx,Zg4,Zg6,Zhd,Zhe,Zhf,Zhm,Zhn,Zho,Zhs,Zht,Zhu,Zh6,Zh7,Zif,Zig,Zik,Zil,Zim,Zin,Ziu,Ziv,Ziw,Zi6,Zjh,Zji,Zjn,Zj2,Zj7,Zka,Zkv,Zkx,Zla,Zlb,Zlc,Zld,Zle,Zlf,Zlh,Zlj,Zlk,Zlm,Zlz,Zl2,Zmt,Zmv,Zmw,Zmy,Zm0,Zm1,Zm3,Zm5,Zm6,Zm7,Zm9,Zna,Znb,Zne,Znf,Zng,Znh,Znn,Zno,Znp,Znr,Zns,Znt,Znu,Znw,Zn5,Zos,Zot,Zo7,Zo8,Zo9,Zpa,Zpc,Zpd,Zpg,Zpi,Zpu,Zpv,Zp7,Zp9,Zqb,Zqc,Zqd,Zqe,Zqf,Zqg,Zqh,Zqi,Zqk,Zql,Zqm,Zqn,List.length_append,eq_self,true_and,and_true,Nat.sub_zero,Int.toNat_zero,h,h0,h1,hw,c1,cR_length,callable_43]
      tactic =>
      and_intros <;> try (first | omega | rfl | assumption | exact cR_okF _ | exact cR_okI _ | exact rs_self (cR_okI _) | (symm; refine List.take_of_length_le ?_; simp <;> omega))
      refine cl none (add_con _ (by omega) _ _) trivial ?_
      sym =>
      simp [Zaa,Zab,Zac,Zad,Zae,Zaf,Zag,Zah,Zai,Zak,Zal,Zam,Zan,Zap,Zaq,Zav,Zaw,Zay,Zaz,Za0,Za1,Za2,Za3,Za4,Za5,Za9,Zba,Zbb,Zbf,Zbt,Zbu,Zbv,Zbw,Zb1,Zb9,Zch,Zcn,Zct,Zcv,Zc3,Zc4,Zc7,Zc8,Zc9,Zdf,Zdg,Zdh,Zdj,Zdk,Zdm,Zdo,Zdp,Zdt,Zdu,Zdv,Zdw,Zdx,Zdy,Zdz,Zd0,Zd1,Zd2,Zd3,Zec,Zek,Zen,Zeq,Zer,Zes,Zet,Zev,Zew,Zez,Ze0,Ze1,Ze2,Ze3,Ze5,Ze8,Zfc,Zfd,Zfe,Zfh,Zfn,Zfq,Zfz,Zf1,Zgr,Zgs,Zgt,Zgu,Zgv,Zgw,Zgx,Zg4,Zg6,Zhd,Zhe,Zhf,Zhm,Zhn,Zho,Zhs,Zht,Zhu,Zh6,Zh7,Zif,Zig,Zik,Zil,Zim,Zin,Ziu,Ziv,Ziw,Zi6,Zjh,Zji,Zjn,Zj2,Zj7,Zka,Zkv,Zkx,Zla,Zlb,Zlc,Zld,Zle,Zlf,Zlh,Zlj,Zlk,Zlm,Zlz,Zl2,Zmt,Zmv,Zmw,Zmy,Zm0,Zm1,Zm3,Zm5,Zm6,Zm7,Zm9,Zna,Znb,Zne,Znf,Zng,Znh,Znn,Zno,Znp,Znr,Zns,Znt,Znu,Znw,Zn5,Zos,Zot,Zo7,Zo8,Zo9,Zpa,Zpc,Zpd,Zpg,Zpi,Zpu,Zpv,Zp7,Zp9,Zqb,Zqc,Zqd,Zqe,Zqf,Zqg,Zqh,Zqi,Zqk,Zql,Zqm,Zqn,List.length_append,eq_self,true_and,and_true,Nat.sub_zero,Int.toNat_zero,callable_70]
      tactic =>
      refine cl none (radd_con _ 0 (by omega) _ _) trivial ?_
      sym =>
      simp [Zaa,Zab,Zac,Zad,Zae,Zaf,Zag,Zah,Zai,Zak,Zal,Zam,Zan,Zap,Zaq,Zav,Zaw,Zay,Zaz,Za0,Za1,Za2,Za3,Za4,Za5,Za9,Zba,Zbb,Zbf,Zbt,Zbu,Zbv,Zbw,Zb1,Zb9,Zch,Zcn,Zct,Zcv,Zc3,Zc4,Zc7,Zc8,Zc9,Zdf,Zdg,Zdh,Zdj,Zdk,Zdm,Zdo,Zdp,Zdt,Zdu,Zdv,Zdw,Zdx,Zdy,Zdz,Zd0,Zd1,Zd2,Zd3,Zec,Zek,Zen,Zeq,Zer,Zes,Zet,Zev,Zew,Zez,Ze0,Ze1,Ze2,Ze3,Ze5,Ze8,Zfc,Zfd,Zfe,Zfh,Zfn,Zfq,Zfz,Zf1,Zgr,Zgs,Zgt,Zgu,Zgv,Zgw,Zgx,Zg4,Zg6,Zhd,Zhe,Zhf,Zhm,Zhn,Zho,Zhs,Zht,Zhu,Zh6,Zh7,Zif,Zig,Zik,Zil,Zim,Zin,Ziu,Ziv,Ziw,Zi6,Zjh,Zji,Zjn,Zj2,Zj7,Zka,Zkv,Zkx,Zla,Zlb,Zlc,Zld,Zle,Zlf,Zlh,Zlj,Zlk,Zlm,Zlz,Zl2,Zmt,Zmv,Zmw,Zmy,Zm0,Zm1,Zm3,Zm5,Zm6,Zm7,Zm9,Zna,Znb,Zne,Znf,Zng,Znh,Znn,Zno,Znp,Znr,Zns,Znt,Znu,Znw,Zn5,Zos,Zot,Zo7,Zo8,Zo9,Zpa,Zpc,Zpd,Zpg,Zpi,Zpu,Zpv,Zp7,Zp9,Zqb,Zqc,Zqd,Zqe,Zqf,Zqg,Zqh,Zqi,Zqk,Zql,Zqm,Zqn,List.length_append,eq_self,true_and,and_true,Nat.sub_zero,Int.toNat_zero,hw]
      tactic =>
      and_intros <;> try (first | omega | rfl | assumption | exact cR_okF _ | exact cR_okI _ | exact rs_self (cR_okI _) | (symm; refine List.take_of_length_le ?_; simp <;> omega))
      unfold NextL; refine ⟨(k - 1), [(0, 0), (1, 1), (2, 2), (3, 3)], _, by omega, ⟨i + 1, by omega, rfl⟩, wkA ?_⟩
      rw [s1, s2]
      sym =>
      simp [Zaa,Zab,Zac,Zad,Zae,Zaf,Zag,Zah,Zai,Zak,Zal,Zam,Zan,Zap,Zaq,Zav,Zaw,Zay,Zaz,Za0,Za1,Za2,Za3,Za4,Za5,Za9,Zba,Zbb,Zbf,Zbt,Zbu,Zbv,Zbw,Zb1,Zb9,Zch,Zcn,Zct,Zcv,Zc3,Zc4,Zc7,Zc8,Zc9,Zdf,Zdg,Zdh,Zdj,Zdk,Zdm,Zdo,Zdp,Zdt,Zdu,Zdv,Zdw,Zdx,Zdy,Zdz,Zd0,Zd1,Zd2,Zd3,Zec,Zek,Zen,Zeq,Zer,Zes,Zet,Zev,Zew,Zez,Ze0,Ze1,Ze2,Ze3,Ze5,Ze8,Zfc,Zfd,Zfe,Zfh,Zfn,Zfq,Zfz,Zf1,Zgr,Zgs,Zgt,Zgu,Zgv,Zgw,Zgx,Zg4,Zg6,Zhd,Zhe,Zhf,Zhm,Zhn,Zho,Zhs,Zht,Zhu,Zh6,Zh7,Zif,Zig,Zik,Zil,Zim,Zin,Ziu,Ziv,Ziw,Zi6,Zjh,Zji,Zjn,Zj2,Zj7,Zka,Zkv,Zkx,Zla,Zlb,Zlc,Zld,Zle,Zlf,Zlh,Zlj,Zlk,Zlm,Zlz,Zl2,Zmt,Zmv,Zmw,Zmy,Zm0,Zm1,Zm3,Zm5,Zm6,Zm7,Zm9,Zna,Znb,Zne,Znf,Zng,Znh,Znn,Zno,Znp,Znr,Zns,Znt,Znu,Znw,Zn5,Zos,Zot,Zo7,Zo8,Zo9,Zpa,Zpc,Zpd,Zpg,Zpi,Zpu,Zpv,Zp7,Zp9,Zqb,Zqc,Zqd,Zqe,Zqf,Zqg,Zqh,Zqi,Zqk,Zql,Zqm,Zqn,List.length_append,eq_self,true_and,and_true,Nat.sub_zero,Int.toNat_zero]
  · rw [show q.take i = q from List.take_of_length_le (by omega)]
    sym =>
    simp [Zaa,Zab,Zac,Zad,Zae,Zaf,Zag,Zah,Zai,Zak,Zal,Zam,Zan,Zap,Zaq,Zav,Zaw,Zay,Zaz,Za0,Za1,Za2,Za3,Za4,Za5,Za9,Zba,Zbb,Zbf,Zbt,Zbu,Zbv,Zbw,Zb1,Zb9,Zch,Zcn,Zct,Zcv,Zc3,Zc4,Zc7,Zc8,Zc9,Zdf,Zdg,Zdh,Zdj,Zdk,Zdm,Zdo,Zdp,Zdt,Zdu,Zdv,Zdw,Zdx,Zdy,Zdz,Zd0,Zd1,Zd2,Zd3,Zec,Zek,Zen,Zeq,Zer,Zes,Zet,Zev,Zew,Zez,Ze0,Ze1,Ze2,Ze3,Ze5,Ze8,Zfc,Zfd,Zfe,Zfh,Zfn,Zfq,Zfz,Zf1,Zgr,Zgs,Zgt,Zgu,Zgv,Zgw,Zgx,Zg4,Zg6,Zhd,Zhe,Zhf,Zhm,Zhn,Zho,Zhs,Zht,Zhu,Zh6,Zh7,Zif,Zig,Zik,Zil,Zim,Zin,Ziu,Ziv,Ziw,Zi6,Zjh,Zji,Zjn,Zj2,Zj7,Zka,Zkv,Zkx,Zla,Zlb,Zlc,Zld,Zle,Zlf,Zlh,Zlj,Zlk,Zlm,Zlz,Zl2,Zmt,Zmv,Zmw,Zmy,Zm0,Zm1,Zm3,Zm5,Zm6,Zm7,Zm9,Zna,Znb,Zne,Znf,Zng,Znh,Znn,Zno,Znp,Znr,Zns,Znt,Znu,Znw,Zn5,Zos,Zot,Zo7,Zo8,Zo9,Zpa,Zpc,Zpd,Zpg,Zpi,Zpu,Zpv,Zp7,Zp9,Zqb,Zqc,Zqd,Zqe,Zqf,Zqg,Zqh,Zqi,Zqk,Zql,Zqm,Zqn,List.length_append,eq_self,true_and,and_true,Nat.sub_zero,Int.toNat_zero,h]
    tactic =>
    and_intros <;> try (first | omega | rfl | assumption | exact cR_okF _ | exact cR_okI _ | exact rs_self (cR_okI _) | (symm; refine List.take_of_length_le ?_; simp <;> omega))
    refine endA ?_
    sym =>
    simp [Zaa,Zab,Zac,Zad,Zae,Zaf,Zag,Zah,Zai,Zak,Zal,Zam,Zan,Zap,Zaq,Zav,Zaw,Zay,Zaz,Za0,Za1,Za2,Za3,Za4,Za5,Za9,Zba,Zbb,Zbf,Zbt,Zbu,Zbv,Zbw,Zb1,Zb9,Zch,Zcn,Zct,Zcv,Zc3,Zc4,Zc7,Zc8,Zc9,Zdf,Zdg,Zdh,Zdj,Zdk,Zdm,Zdo,Zdp,Zdt,Zdu,Zdv,Zdw,Zdx,Zdy,Zdz,Zd0,Zd1,Zd2,Zd3,Zec,Zek,Zen,Zeq,Zer,Zes,Zet,Zev,Zew,Zez,Ze0,Ze1,Ze2,Ze3,Ze5,Ze8,Zfc,Zfd,Zfe,Zfh,Zfn,Zfq,Zfz,Zf1,Zgr,Zgs,Zgt,Zgu,Zgv,Zgw,Zgx,Zg4,Zg6,Zhd,Zhe,Zhf,Zhm,Zhn,Zho,Zhs,Zht,Zhu,Zh6,Zh7,Zif,Zig,Zik,Zil,Zim,Zin,Ziu,Ziv,Ziw,Zi6,Zjh,Zji,Zjn,Zj2,Zj7,Zka,Zkv,Zkx,Zla,Zlb,Zlc,Zld,Zle,Zlf,Zlh,Zlj,Zlk,Zlm,Zlz,Zl2,Zmt,Zmv,Zmw,Zmy,Zm0,Zm1,Zm3,Zm5,Zm6,Zm7,Zm9,Zna,Znb,Zne,Znf,Zng,Znh,Znn,Zno,Znp,Znr,Zns,Znt,Znu,Znw,Zn5,Zos,Zot,Zo7,Zo8,Zo9,Zpa,Zpc,Zpd,Zpg,Zpi,Zpu,Zpv,Zp7,Zp9,Zqb,Zqc,Zqd,Zqe,Zqf,Zqg,Zqh,Zqi,Zqk,Zql,Zqm,Zqn,List.length_append,eq_self,true_and,and_true,Nat.sub_zero,Int.toNat_zero]
end Go.Proofs.Ytnfgnafphfddhaa.SpnE
