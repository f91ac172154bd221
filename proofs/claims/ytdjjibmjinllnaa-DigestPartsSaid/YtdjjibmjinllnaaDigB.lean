import Derived.Test.YtdjjibmjinllnaaDigA
namespace Go.Proofs.Ytdjjibmjinllnaa.DigB
open Go Go.Sim Go.Sim.E Go.RowKit Go.Proofs Go.Proofs.Ytdjjibmjinllnaa.Cod Go.Proofs.Ytdjjibmjinllnaa.Tab Go.Proofs.Ytdjjibmjinllnaa.DigA
set_option linter.unusedVariables false
set_option linter.unusedSimpArgs false
set_option maxRecDepth 100000
set_option maxHeartbeats 4000000
abbrev ag8 (S : List Int) : AV := .ag [U (S.getD 0 0), U (S.getD 1 0), U (S.getD 2 0), U (S.getD 3 0), U (S.getD 4 0), U (S.getD 5 0), U (S.getD 6 0), U (S.getD 7 0)]
abbrev cSt (S l : List Int) (g : Int) : List AV := [Bo true, U (S.getD 0 0), U (S.getD 1 0), U (S.getD 2 0), U (S.getD 3 0), U (S.getD 4 0), U (S.getD 5 0), U (S.getD 6 0), U (S.getD 7 0), fB l, L g]
theorem block_length (S b : List Int) : (block S b).length = 8 := by rw [block, sums_length, runs_length]
theorem block_con' (S b : List Int) (hS : S.length = 8) (hb : 64 ≤ b.length) : Con Try.prog 48 [] [ag8 S, fB b] [] (ag8 (block S b)) := by
  have h := block_con S b hS hb
  rwa [cU8 S hS, cU8 _ (block_length S b)] at h
theorem first_con' : Con Try.prog 45 [] [] [] (ag8 W0) := first_con
theorem new_con : Con Try.prog 14 [] [] [(0, ⟨cSt W0 [] 0, 1, 0⟩)] (.pt 0 0) := by
  refine con_o b14 rfl ?_
  sym =>
  simp [Zab,Zad,Zak,Zam,Zaz,Za0,Za1,Za2,Za3,Za4,Za5,Za9,Zba,Zbb,Zb9,Zcx,Zdc,Zdd,Zde,Zdi,Zev,Zew,Zez,Ze0,Ze2,Ze3,Zfc,Zfd,Zfe,Zfh,Zhd,Zhe,Zhf,Zhg,Zhh,Zio,Zip,Zi6,Zi8,Zjq,Zkv,Zkw,Zkx,Zla,Zlz,Zmt,Zmv,Zmw,Zmx,Zmz,Zm2,Zna,Znb,Zne,Znf,Znn,Zno,Znp,Znr,Zos,Zo7,Zpa,Zpu,Zpv,Zqb,Zqc,Zqh,Zqi,Zqk,Zql,Zqm,Zqn,eq_self,true_and,and_true,callable_45]
  tactic =>
  refine cl none (first_con') trivial ?_
  sym =>
  simp [Zab,Zad,Zak,Zam,Zaz,Za0,Za1,Za2,Za3,Za4,Za5,Za9,Zba,Zbb,Zb9,Zcx,Zdc,Zdd,Zde,Zdi,Zev,Zew,Zez,Ze0,Ze2,Ze3,Zfc,Zfd,Zfe,Zfh,Zhd,Zhe,Zhf,Zhg,Zhh,Zio,Zip,Zi6,Zi8,Zjq,Zkv,Zkw,Zkx,Zla,Zlz,Zmt,Zmv,Zmw,Zmx,Zmz,Zm2,Zna,Znb,Zne,Znf,Znn,Zno,Znp,Znr,Zos,Zo7,Zpa,Zpu,Zpv,Zqb,Zqc,Zqh,Zqi,Zqk,Zql,Zqm,Zqn,eq_self,true_and,and_true]
  tactic =>
  refine endO [(0, 3)] (nx := 4) ?_
  sym =>
  simp [Zab,Zad,Zak,Zam,Zaz,Za0,Za1,Za2,Za3,Za4,Za5,Za9,Zba,Zbb,Zb9,Zcx,Zdc,Zdd,Zde,Zdi,Zev,Zew,Zez,Ze0,Ze2,Ze3,Zfc,Zfd,Zfe,Zfh,Zhd,Zhe,Zhf,Zhg,Zhh,Zio,Zip,Zi6,Zi8,Zjq,Zkv,Zkw,Zkx,Zla,Zlz,Zmt,Zmv,Zmw,Zmx,Zmz,Zm2,Zna,Znb,Zne,Znf,Znn,Zno,Znp,Znr,Zos,Zo7,Zpa,Zpu,Zpv,Zqb,Zqc,Zqh,Zqi,Zqk,Zql,Zqm,Zqn,eq_self,true_and,and_true]
  tactic =>
  rfl
def absorb (S all : List Int) : Nat → List Int
  | 0 => S
  | m + 1 => block (absorb S all m) (all.drop (64 * m))
theorem absorb_length (S all : List Int) (h : S.length = 8) : ∀ m, (absorb S all m).length = 8
  | 0 => h
  | m + 1 => block_length _ _
def i15 (S l all : List Int) (g : Int) (k : Nat) (s : St) : Prop := ∃ m : Nat, 64 * m ≤ all.length ∧ k = all.length - 64 * m ∧ s = ⟨[(0, .pt 0 0), (4, .lv 1 (64 * m) (all.length - 64 * m))], [(0, ⟨cSt (absorb S all m) l g, 1, 0⟩), (1, ⟨cB all, 1, 0⟩)], 2⟩
theorem write_con (S l b : List Int) (g : Int) (hS : S.length = 8) (hl : l.length ≤ 1000) (hb : b.length ≤ 100000) (S' l' : List Int) (g' : Int)
    (eS : S' = absorb S (l ++ b) ((l ++ b).length / 64)) (el : l' = (l ++ b).drop (64 * ((l ++ b).length / 64))) (eg : IntKind.u64.wrap (g + IntKind.u64.wrap (IN b.length)) = g') : Con Try.prog 15 [(0, ⟨cSt S l g, 1, 0⟩)] [.pt 0 0, fB b] [(0, ⟨cSt S' l' g', 1, 0⟩)] (.tu []) := by
  refine con_n b15 rfl ?_
  sym =>
  simp [Zaa,Zab,Zad,Zae,Zaf,Zag,Zah,Zai,Zal,Zam,Zan,Zap,Zaq,Zav,Zaw,Zaz,Za0,Za1,Za2,Za3,Za4,Za5,Za9,Zba,Zbb,Zbf,Zbj,Zbl,Zbt,Zbv,Zcd,Zch,Zcn,Zc3,Zc5,Zdc,Zdd,Zde,Zdi,Zev,Zew,Zez,Ze0,Ze1,Ze2,Ze3,Ze4,Ze5,Ze8,Ze9,Zfc,Zfd,Zfe,Zff,Zfg,Zfh,Zfn,Zfq,Zf4,Zgd,Zgg,Zgh,Zgi,Zgr,Zgs,Zgt,Zgv,Zgw,Zgx,Zhj,Zhk,Zhm,Zhn,Zho,Zhs,Zhx,Zhy,Zh6,Zh7,Zh9,Ziu,Ziv,Ziw,Zix,Ziz,Zi0,Zi1,Zi6,Zi7,Zje,Zjg,Zjh,Zji,Zjl,Zjm,Zjn,Zjp,Zjq,Zju,Zjw,Zj9,Zkl,Zkv,Zkw,Zkx,Zla,Zlb,Zlc,Zld,Zle,Zlf,Zlh,Zlk,Zll,Zlt,Zlu,Zlx,Zly,Zlz,Zl0,Zl1,Zl2,Zmk,Zmu,Zmv,Zmw,Zm4,Zm5,Zm6,Zm7,Zm9,Zna,Znb,Znc,Zne,Znf,Zng,Znn,Zno,Znp,Znr,Zns,Znu,Zrd,Zos,Zot,Zo3,Zo7,Zo8,Zo9,Zpa,Zpg,Zpo,Zpu,Zpy,Zp1,Zp2,Zp3,Zp9,Zqb,Zqc,Zqd,Zq5,Zq6,Zqf,Zqg,Zqh,Zqi,Zqk,Zql,Zqm,Zqn,Zqo,Zqr,List.length_append,List.length_drop,List.length_map,eq_self,true_and,and_true,Nat.zero_add,Nat.mul_one,Nat.sub_zero,callable_46]
  tactic =>
  refine cl none (ok_con' _ rfl (by simp)) trivial ?_
  sym =>
  simp [Zaa,Zab,Zad,Zae,Zaf,Zag,Zah,Zai,Zal,Zam,Zan,Zap,Zaq,Zav,Zaw,Zaz,Za0,Za1,Za2,Za3,Za4,Za5,Za9,Zba,Zbb,Zbf,Zbj,Zbl,Zbt,Zbv,Zcd,Zch,Zcn,Zc3,Zc5,Zdc,Zdd,Zde,Zdi,Zev,Zew,Zez,Ze0,Ze1,Ze2,Ze3,Ze4,Ze5,Ze8,Ze9,Zfc,Zfd,Zfe,Zff,Zfg,Zfh,Zfn,Zfq,Zf4,Zgd,Zgg,Zgh,Zgi,Zgr,Zgs,Zgt,Zgv,Zgw,Zgx,Zhj,Zhk,Zhm,Zhn,Zho,Zhs,Zhx,Zhy,Zh6,Zh7,Zh9,Ziu,Ziv,Ziw,Zix,Ziz,Zi0,Zi1,Zi6,Zi7,Zje,Zjg,Zjh,Zji,Zjl,Zjm,Zjn,Zjp,Zjq,Zju,Zjw,Zj9,Zkl,Zkv,Zkw,Zkx,Zla,Zlb,Zlc,Zld,Zle,Zlf,Zlh,Zlk,Zll,Zlt,Zlu,Zlx,Zly,Zlz,Zl0,Zl1,Zl2,Zmk,Zmu,Zmv,Zmw,Zm4,Zm5,Zm6,Zm7,Zm9,Zna,Znb,Znc,Zne,Znf,Zng,Znn,Zno,Znp,Znr,Zns,Znu,Zrd,Zos,Zot,Zo3,Zo7,Zo8,Zo9,Zpa,Zpg,Zpo,Zpu,Zpy,Zp1,Zp2,Zp3,Zp9,Zqb,Zqc,Zqd,Zq5,Zq6,Zqf,Zqg,Zqh,Zqi,Zqk,Zql,Zqm,Zqn,Zqo,Zqr,List.length_append,List.length_drop,List.length_map,eq_self,true_and,and_true,Nat.zero_add,Nat.mul_one,Nat.sub_zero,callable_47,eg]
  tactic =>
  refine cl (some ⟨cB l, 1, 0⟩) (bclone_con l (by omega)) ?_ ?_
  · exact ⟨rfl, cB_okI l⟩
  sym =>
  simp [Zaa,Zab,Zad,Zae,Zaf,Zag,Zah,Zai,Zal,Zam,Zan,Zap,Zaq,Zav,Zaw,Zaz,Za0,Za1,Za2,Za3,Za4,Za5,Za9,Zba,Zbb,Zbf,Zbj,Zbl,Zbt,Zbv,Zcd,Zch,Zcn,Zc3,Zc5,Zdc,Zdd,Zde,Zdi,Zev,Zew,Zez,Ze0,Ze1,Ze2,Ze3,Ze4,Ze5,Ze8,Ze9,Zfc,Zfd,Zfe,Zff,Zfg,Zfh,Zfn,Zfq,Zf4,Zgd,Zgg,Zgh,Zgi,Zgr,Zgs,Zgt,Zgv,Zgw,Zgx,Zhj,Zhk,Zhm,Zhn,Zho,Zhs,Zhx,Zhy,Zh6,Zh7,Zh9,Ziu,Ziv,Ziw,Zix,Ziz,Zi0,Zi1,Zi6,Zi7,Zje,Zjg,Zjh,Zji,Zjl,Zjm,Zjn,Zjp,Zjq,Zju,Zjw,Zj9,Zkl,Zkv,Zkw,Zkx,Zla,Zlb,Zlc,Zld,Zle,Zlf,Zlh,Zlk,Zll,Zlt,Zlu,Zlx,Zly,Zlz,Zl0,Zl1,Zl2,Zmk,Zmu,Zmv,Zmw,Zm4,Zm5,Zm6,Zm7,Zm9,Zna,Znb,Znc,Zne,Znf,Zng,Znn,Zno,Znp,Znr,Zns,Znu,Zrd,Zos,Zot,Zo3,Zo7,Zo8,Zo9,Zpa,Zpg,Zpo,Zpu,Zpy,Zp1,Zp2,Zp3,Zp9,Zqb,Zqc,Zqd,Zq5,Zq6,Zqf,Zqg,Zqh,Zqi,Zqk,Zql,Zqm,Zqn,Zqo,Zqr,List.length_append,List.length_drop,List.length_map,eq_self,true_and,and_true,Nat.zero_add,Nat.mul_one,Nat.sub_zero,cB_length]
  tactic =>
  refine ⟨⟨cB_okF b, by omega, by omega, by omega⟩, ?_⟩
  obtain ⟨A, hA⟩ : ∃ A, A = l ++ b := ⟨_, rfl⟩
  have hAl : A.length = l.length + b.length := by rw [hA, List.length_append]
  rw [← hA] at eS el
  refine lpA (i15 S l A g') A.length [(0, 0), (1, 21)] _ ⟨0, by omega, by omega, rfl⟩ (wkM ?_) ?_
  · sym =>
    simp [Zaa,Zab,Zad,Zae,Zaf,Zag,Zah,Zai,Zal,Zam,Zan,Zap,Zaq,Zav,Zaw,Zaz,Za0,Za1,Za2,Za3,Za4,Za5,Za9,Zba,Zbb,Zbf,Zbj,Zbl,Zbt,Zbv,Zcd,Zch,Zcn,Zc3,Zc5,Zdc,Zdd,Zde,Zdi,Zev,Zew,Zez,Ze0,Ze1,Ze2,Ze3,Ze4,Ze5,Ze8,Ze9,Zfc,Zfd,Zfe,Zff,Zfg,Zfh,Zfn,Zfq,Zf4,Zgd,Zgg,Zgh,Zgi,Zgr,Zgs,Zgt,Zgv,Zgw,Zgx,Zhj,Zhk,Zhm,Zhn,Zho,Zhs,Zhx,Zhy,Zh6,Zh7,Zh9,Ziu,Ziv,Ziw,Zix,Ziz,Zi0,Zi1,Zi6,Zi7,Zje,Zjg,Zjh,Zji,Zjl,Zjm,Zjn,Zjp,Zjq,Zju,Zjw,Zj9,Zkl,Zkv,Zkw,Zkx,Zla,Zlb,Zlc,Zld,Zle,Zlf,Zlh,Zlk,Zll,Zlt,Zlu,Zlx,Zly,Zlz,Zl0,Zl1,Zl2,Zmk,Zmu,Zmv,Zmw,Zm4,Zm5,Zm6,Zm7,Zm9,Zna,Znb,Znc,Zne,Znf,Zng,Znn,Zno,Znp,Znr,Zns,Znu,Zrd,Zos,Zot,Zo3,Zo7,Zo8,Zo9,Zpa,Zpg,Zpo,Zpu,Zpy,Zp1,Zp2,Zp3,Zp9,Zqb,Zqc,Zqd,Zq5,Zq6,Zqf,Zqg,Zqh,Zqi,Zqk,Zql,Zqm,Zqn,Zqo,Zqr,List.length_append,List.length_drop,List.length_map,eq_self,true_and,and_true,Nat.zero_add,Nat.mul_one,Nat.sub_zero]
    tactic =>
    exact ⟨hAl.symm, by simp only [absorb, and_self], cB_rs _ _ _ _ _ (by rw [hA, cB_append])⟩
  rintro k s ⟨m, hm, hk, rfl⟩
  have hSl := absorb_length S A hS m
  obtain ⟨T, hT⟩ : ∃ T, T = absorb S A m := ⟨_, rfl⟩
  rw [← hT] at hSl ⊢
  by_cases h : 64 ≤ A.length - 64 * m
  · have hI : IN (A.length - 64 * m) ≥ (64 : Int) := by simp only [IN]; omega
    obtain ⟨D, hD⟩ : ∃ D, D = A.drop (64 * m) := ⟨_, rfl⟩
    have hDl : D.length = A.length - 64 * m := by rw [hD, List.length_drop]
    have hdt : List.take (A.length - 64 * m) (List.drop (64 * m) (cB A)) = cB D := by
      rw [hD, cB, ← List.map_drop]; exact List.take_of_length_le (by simp)
    have hc := block_con' T D hSl (by omega)
    simp only [fB, hDl] at hc
    sym =>
    simp [Zaa,Zab,Zad,Zae,Zaf,Zag,Zah,Zai,Zal,Zam,Zan,Zap,Zaq,Zav,Zaw,Zaz,Za0,Za1,Za2,Za3,Za4,Za5,Za9,Zba,Zbb,Zbf,Zbj,Zbl,Zbt,Zbv,Zcd,Zch,Zcn,Zc3,Zc5,Zdc,Zdd,Zde,Zdi,Zev,Zew,Zez,Ze0,Ze1,Ze2,Ze3,Ze4,Ze5,Ze8,Ze9,Zfc,Zfd,Zfe,Zff,Zfg,Zfh,Zfn,Zfq,Zf4,Zgd,Zgg,Zgh,Zgi,Zgr,Zgs,Zgt,Zgv,Zgw,Zgx,Zhj,Zhk,Zhm,Zhn,Zho,Zhs,Zhx,Zhy,Zh6,Zh7,Zh9,Ziu,Ziv,Ziw,Zix,Ziz,Zi0,Zi1,Zi6,Zi7,Zje,Zjg,Zjh,Zji,Zjl,Zjm,Zjn,Zjp,Zjq,Zju,Zjw,Zj9,Zkl,Zkv,Zkw,Zkx,Zla,Zlb,Zlc,Zld,Zle,Zlf,Zlh,Zlk,Zll,Zlt,Zlu,Zlx,Zly,Zlz,Zl0,Zl1,Zl2,Zmk,Zmu,Zmv,Zmw,Zm4,Zm5,Zm6,Zm7,Zm9,Zna,Znb,Znc,Zne,Znf,Zng,Znn,Zno,Znp,Znr,Zns,Znu,Zrd,Zos,Zot,Zo3,Zo7,Zo8,Zo9,Zpa,Zpg,Zpo,Zpu,Zpy,Zp1,Zp2,Zp3,Zp9,Zqb,Zqc,Zqd,Zq5,Zq6,Zqf,Zqg,Zqh,Zqi,Zqk,Zql,Zqm,Zqn,Zqo,Zqr,List.length_append,List.length_drop,List.length_map,eq_self,true_and,and_true,Nat.zero_add,Nat.mul_one,Nat.sub_zero,hI,callable_48,hdt]
    tactic =>
    refine ⟨⟨by rw [cB_length]; omega, cB_okI A⟩, ?_⟩
    refine cl none (hc) trivial ?_
    sym =>
    simp [Zaa,Zab,Zad,Zae,Zaf,Zag,Zah,Zai,Zal,Zam,Zan,Zap,Zaq,Zav,Zaw,Zaz,Za0,Za1,Za2,Za3,Za4,Za5,Za9,Zba,Zbb,Zbf,Zbj,Zbl,Zbt,Zbv,Zcd,Zch,Zcn,Zc3,Zc5,Zdc,Zdd,Zde,Zdi,Zev,Zew,Zez,Ze0,Ze1,Ze2,Ze3,Ze4,Ze5,Ze8,Ze9,Zfc,Zfd,Zfe,Zff,Zfg,Zfh,Zfn,Zfq,Zf4,Zgd,Zgg,Zgh,Zgi,Zgr,Zgs,Zgt,Zgv,Zgw,Zgx,Zhj,Zhk,Zhm,Zhn,Zho,Zhs,Zhx,Zhy,Zh6,Zh7,Zh9,Ziu,Ziv,Ziw,Zix,Ziz,Zi0,Zi1,Zi6,Zi7,Zje,Zjg,Zjh,Zji,Zjl,Zjm,Zjn,Zjp,Zjq,Zju,Zjw,Zj9,Zkl,Zkv,Zkw,Zkx,Zla,Zlb,Zlc,Zld,Zle,Zlf,Zlh,Zlk,Zll,Zlt,Zlu,Zlx,Zly,Zlz,Zl0,Zl1,Zl2,Zmk,Zmu,Zmv,Zmw,Zm4,Zm5,Zm6,Zm7,Zm9,Zna,Znb,Znc,Zne,Znf,Zng,Znn,Zno,Znp,Znr,Zns,Znu,Zrd,Zos,Zot,Zo3,Zo7,Zo8,Zo9,Zpa,Zpg,Zpo,Zpu,Zpy,Zp1,Zp2,Zp3,Zp9,Zqb,Zqc,Zqd,Zq5,Zq6,Zqf,Zqg,Zqh,Zqi,Zqk,Zql,Zqm,Zqn,Zqo,Zqr,List.length_append,List.length_drop,List.length_map,eq_self,true_and,and_true,Nat.zero_add,Nat.mul_one,Nat.sub_zero]
    tactic =>
    refine ⟨⟨hI, by omega, by omega⟩, ?_⟩
    unfold NextL; refine ⟨(k - 64), [(0, 0), (1, 1)], _, by omega, ⟨m + 1, by omega, by omega, rfl⟩, wkM ?_⟩
    sym =>
    simp [Zaa,Zab,Zad,Zae,Zaf,Zag,Zah,Zai,Zal,Zam,Zan,Zap,Zaq,Zav,Zaw,Zaz,Za0,Za1,Za2,Za3,Za4,Za5,Za9,Zba,Zbb,Zbf,Zbj,Zbl,Zbt,Zbv,Zcd,Zch,Zcn,Zc3,Zc5,Zdc,Zdd,Zde,Zdi,Zev,Zew,Zez,Ze0,Ze1,Ze2,Ze3,Ze4,Ze5,Ze8,Ze9,Zfc,Zfd,Zfe,Zff,Zfg,Zfh,Zfn,Zfq,Zf4,Zgd,Zgg,Zgh,Zgi,Zgr,Zgs,Zgt,Zgv,Zgw,Zgx,Zhj,Zhk,Zhm,Zhn,Zho,Zhs,Zhx,Zhy,Zh6,Zh7,Zh9,Ziu,Ziv,Ziw,Zix,Ziz,Zi0,Zi1,Zi6,Zi7,Zje,Zjg,Zjh,Zji,Zjl,Zjm,Zjn,Zjp,Zjq,Zju,Zjw,Zj9,Zkl,Zkv,Zkw,Zkx,Zla,Zlb,Zlc,Zld,Zle,Zlf,Zlh,Zlk,Zll,Zlt,Zlu,Zlx,Zly,Zlz,Zl0,Zl1,Zl2,Zmk,Zmu,Zmv,Zmw,Zm4,Zm5,Zm6,Zm7,Zm9,Zna,Znb,Znc,Zne,Znf,Zng,Znn,Zno,Znp,Znr,Zns,Znu,Zrd,Zos,Zot,Zo3,Zo7,Zo8,Zo9,Zpa,Zpg,Zpo,Zpu,Zpy,Zp1,Zp2,Zp3,Zp9,Zqb,Zqc,Zqd,Zq5,Zq6,Zqf,Zqg,Zqh,Zqi,Zqk,Zql,Zqm,Zqn,Zqo,Zqr,List.length_append,List.length_drop,List.length_map,eq_self,true_and,and_true,Nat.zero_add,Nat.mul_one,Nat.sub_zero]
    tactic =>
    refine ⟨⟨by omega, by omega⟩, ?_, rs_self (cB_okI A)⟩
    rw [absorb, ← hT, ← hD]
    simp only [and_self]
  · have hI : ¬ IN (A.length - 64 * m) ≥ (64 : Int) := by simp only [IN]; omega
    sym =>
    simp [Zaa,Zab,Zad,Zae,Zaf,Zag,Zah,Zai,Zal,Zam,Zan,Zap,Zaq,Zav,Zaw,Zaz,Za0,Za1,Za2,Za3,Za4,Za5,Za9,Zba,Zbb,Zbf,Zbj,Zbl,Zbt,Zbv,Zcd,Zch,Zcn,Zc3,Zc5,Zdc,Zdd,Zde,Zdi,Zev,Zew,Zez,Ze0,Ze1,Ze2,Ze3,Ze4,Ze5,Ze8,Ze9,Zfc,Zfd,Zfe,Zff,Zfg,Zfh,Zfn,Zfq,Zf4,Zgd,Zgg,Zgh,Zgi,Zgr,Zgs,Zgt,Zgv,Zgw,Zgx,Zhj,Zhk,Zhm,Zhn,Zho,Zhs,Zhx,Zhy,Zh6,Zh7,Zh9,Ziu,Ziv,Ziw,Zix,Ziz,Zi0,Zi1,Zi6,Zi7,Zje,Zjg,Zjh,Zji,Zjl,Zjm,Zjn,Zjp,Zjq,Zju,Zjw,Zj9,Zkl,Zkv,Zkw,Zkx,Zla,Zlb,Zlc,Zld,Zle,Zlf,Zlh,Zlk,Zll,Zlt,Zlu,Zlx,Zly,Zlz,Zl0,Zl1,Zl2,Zmk,Zmu,Zmv,Zmw,Zm4,Zm5,Zm6,Zm7,Zm9,Zna,Znb,Znc,Zne,Znf,Zng,Znn,Zno,Znp,Znr,Zns,Znu,Zrd,Zos,Zot,Zo3,Zo7,Zo8,Zo9,Zpa,Zpg,Zpo,Zpu,Zpy,Zp1,Zp2,Zp3,Zp9,Zqb,Zqc,Zqd,Zq5,Zq6,Zqf,Zqg,Zqh,Zqi,Zqk,Zql,Zqm,Zqn,Zqo,Zqr,List.length_append,List.length_drop,List.length_map,eq_self,true_and,and_true,Nat.zero_add,Nat.mul_one,Nat.sub_zero,hI]
    tactic =>
    have hmm : A.length / 64 = m := by omega
    rw [hmm] at eS el
    have hTS : T = S' := by rw [hT, eS]
    subst hTS
    refine endM [(0, 0)] 1 ?_
    sym =>
    simp [Zaa,Zab,Zad,Zae,Zaf,Zag,Zah,Zai,Zal,Zam,Zan,Zap,Zaq,Zav,Zaw,Zaz,Za0,Za1,Za2,Za3,Za4,Za5,Za9,Zba,Zbb,Zbf,Zbj,Zbl,Zbt,Zbv,Zcd,Zch,Zcn,Zc3,Zc5,Zdc,Zdd,Zde,Zdi,Zev,Zew,Zez,Ze0,Ze1,Ze2,Ze3,Ze4,Ze5,Ze8,Ze9,Zfc,Zfd,Zfe,Zff,Zfg,Zfh,Zfn,Zfq,Zf4,Zgd,Zgg,Zgh,Zgi,Zgr,Zgs,Zgt,Zgv,Zgw,Zgx,Zhj,Zhk,Zhm,Zhn,Zho,Zhs,Zhx,Zhy,Zh6,Zh7,Zh9,Ziu,Ziv,Ziw,Zix,Ziz,Zi0,Zi1,Zi6,Zi7,Zje,Zjg,Zjh,Zji,Zjl,Zjm,Zjn,Zjp,Zjq,Zju,Zjw,Zj9,Zkl,Zkv,Zkw,Zkx,Zla,Zlb,Zlc,Zld,Zle,Zlf,Zlh,Zlk,Zll,Zlt,Zlu,Zlx,Zly,Zlz,Zl0,Zl1,Zl2,Zmk,Zmu,Zmv,Zmw,Zm4,Zm5,Zm6,Zm7,Zm9,Zna,Znb,Znc,Zne,Znf,Zng,Znn,Zno,Znp,Znr,Zns,Znu,Zrd,Zos,Zot,Zo3,Zo7,Zo8,Zo9,Zpa,Zpg,Zpo,Zpu,Zpy,Zp1,Zp2,Zp3,Zp9,Zqb,Zqc,Zqd,Zq5,Zq6,Zqf,Zqg,Zqh,Zqi,Zqk,Zql,Zqm,Zqn,Zqo,Zqr,List.length_append,List.length_drop,List.length_map,eq_self,true_and,and_true,Nat.zero_add,Nat.mul_one,Nat.sub_zero]
    tactic =>
    refine ⟨by rw [el, List.length_drop], ?_, by rw [cB_length]; omega, cB_okI A⟩
    rw [el]
    symm
    rw [cB, cB, ← List.map_drop]
    exact List.take_of_length_le (by simp)
/-- A sum's bytes. -/
def out32 (S : List Int) : List Int := (List.range 32).map fun i => IntKind.u8.wrap ((S.getD (i / 4) 0).fdiv (2 ^ (8 * (3 - i % 4))))
def sumS (S l : List Int) (g : Int) : List Int := absorb S (fill l g) ((fill l g).length / 64)
def oPart (S : List Int) (i : Nat) : List Int := (out32 S).take i ++ List.replicate (32 - i) 0
theorem out32_length (S : List Int) : (out32 S).length = 32 := by simp [out32]
theorem oPart_length (S : List Int) (i : Nat) (h : i ≤ 32) : (oPart S i).length = 32 := by simp [oPart, out32_length]; omega
theorem oPart_step (S : List Int) (i : Nat) (h : i < 32) : (oPart S i).set i (IntKind.u8.wrap ((S.getD (i / 4) 0).fdiv (2 ^ min (8 * (3 - i % 4)) IntKind.u32.bits))) = oPart S (i + 1) := by
  have e : min (8 * (3 - i % 4)) IntKind.u32.bits = 8 * (3 - i % 4) := by simp only [IntKind.bits]; omega
  rw [e]
  have hg : (out32 S)[i]? = some (IntKind.u8.wrap ((S.getD (i / 4) 0).fdiv (2 ^ (8 * (3 - i % 4))))) := by simp [out32, List.getElem?_range h]
  have hl : ((out32 S).take i).length = i := by simp [out32_length]; omega
  unfold oPart
  rw [List.take_add_one, hg, List.set_append_right _ _ (by omega), hl, Nat.sub_self, show 32 - i = (32 - (i + 1)) + 1 from by omega, List.replicate_succ]
  simp
theorem oPart_all (S : List Int) : oPart S 32 = out32 S := by
  rw [oPart, List.take_of_length_le (by rw [out32_length]; exact Nat.le_refl _)]
  simp
abbrev z32 : List AV := List.replicate 32 (Y 0)
theorem z32_okI : okI z32 := cB_okI (List.replicate 32 0)
def i16 (S P : List Int) (k : Nat) (s : St) : Prop := ∃ m : Nat, 64 * m ≤ P.length ∧ k = P.length - 64 * m ∧ s = ⟨[(2, .pt 0 0), (3, .pt 1 0), (4, .pt 2 0), (5, .lv 3 (64 * m) (P.length - 64 * m))], [(0, ⟨List.replicate 32 (Y 0), 1, 0⟩), (1, ⟨List.replicate 32 (Y 0), 1, 0⟩), (2, ⟨[U ((absorb S P m).getD 0 0), U ((absorb S P m).getD 1 0), U ((absorb S P m).getD 2 0), U ((absorb S P m).getD 3 0), U ((absorb S P m).getD 4 0), U ((absorb S P m).getD 5 0), U ((absorb S P m).getD 6 0), U ((absorb S P m).getD 7 0)], 1, 0⟩), (3, ⟨cB P, 1, 0⟩)], 4⟩
def j16 (S : List Int) (k : Nat) (s : St) : Prop := ∃ i : Nat, i + k = 32 ∧ s = ⟨[(2, .pt 0 0), (3, .pt 1 0), (4, .pt 2 0), (25, I (IN i))], [(0, ⟨List.replicate 32 (Y 0), 1, 0⟩), (1, ⟨cB (oPart S i), 1, 0⟩), (2, ⟨cU S, 1, 0⟩)], 3⟩
theorem fill_length (l : List Int) (g : Int) : (fill l g).length % 64 = 0 ∧ (fill l g).length ≤ l.length + 100 := by
  have h : (fill l g).length = l.length + 1 + padz l.length + 8 := by rw [← pad2_all, pad2_length _ _ _ (by omega)]
  rw [h]; simp only [padz]; omega
theorem sum_con (S l : List Int) (g : Int) (hS : S.length = 8) (hl : l.length ≤ 1000) : Con Try.prog 16 [] [.fp (cSt S l g) 0] [] (.ag (cB (out32 (sumS S l g)))) := by
  refine con_j b16 rfl ?_
  sym =>
  simp [Zaa,Zab,Zad,Zae,Zaf,Zag,Zah,Zai,Zak,Zal,Zam,Zan,Zap,Zaq,Zav,Zaw,Zay,Zaz,Za0,Za1,Za2,Za3,Za4,Za5,Za9,Zba,Zbb,Zbf,Zbj,Zbl,Zbt,Zbv,Zbz,Zcd,Zch,Zcn,Zcv,Zc3,Zdc,Zdd,Zde,Zdi,Zev,Zew,Zez,Ze0,Ze1,Ze2,Ze3,Ze5,Ze8,Ze9,Zfc,Zfd,Zfe,Zfh,Zfn,Zfp,Zfq,Zfr,Zfs,Zft,Zfu,Zf1,Zf3,Zgd,Zgg,Zgh,Zgi,Zgr,Zgs,Zgt,Zgu,Zgv,Zgw,Zgy,Zg1,Zg2,Zhj,Zhl,Zhm,Zhn,Zho,Zhs,Zhx,Zhy,Zh6,Zh9,Zin,Ziu,Ziv,Ziw,Zi6,Zi7,Zjh,Zji,Zjn,Zjq,Zjw,Zkv,Zkw,Zkx,Zla,Zlb,Zlc,Zld,Zle,Zlf,Zlh,Zlk,Zln,Zlt,Zlx,Zlz,Zl0,Zl1,Zl2,Zmk,Zmt,Zmv,Zmw,Zmy,Zm0,Zm1,Zm2,Zm5,Zm6,Zm7,Zm9,Zna,Znb,Znc,Zne,Znf,Zng,Znn,Zno,Znp,Znr,Zns,Znu,Znw,Znx,Zn5,Zoa,Zoc,Zrd,Zos,Zot,Zo3,Zo7,Zo8,Zo9,Zpa,Zpc,Zpo,Zpu,Zp8,Zqb,Zqc,Zqf,Zqg,Zqh,Zqi,Zqk,Zql,Zqm,Zqn,Zqr,List.length_drop,List.length_replicate,List.length_map,eq_self,true_and,and_true,Nat.zero_add,Nat.mul_one,Nat.sub_zero,callable_46]
  tactic =>
  refine cl none (ok_con' _ rfl (by simp)) trivial ?_
  sym =>
  simp [Zaa,Zab,Zad,Zae,Zaf,Zag,Zah,Zai,Zak,Zal,Zam,Zan,Zap,Zaq,Zav,Zaw,Zay,Zaz,Za0,Za1,Za2,Za3,Za4,Za5,Za9,Zba,Zbb,Zbf,Zbj,Zbl,Zbt,Zbv,Zbz,Zcd,Zch,Zcn,Zcv,Zc3,Zdc,Zdd,Zde,Zdi,Zev,Zew,Zez,Ze0,Ze1,Ze2,Ze3,Ze5,Ze8,Ze9,Zfc,Zfd,Zfe,Zfh,Zfn,Zfp,Zfq,Zfr,Zfs,Zft,Zfu,Zf1,Zf3,Zgd,Zgg,Zgh,Zgi,Zgr,Zgs,Zgt,Zgu,Zgv,Zgw,Zgy,Zg1,Zg2,Zhj,Zhl,Zhm,Zhn,Zho,Zhs,Zhx,Zhy,Zh6,Zh9,Zin,Ziu,Ziv,Ziw,Zi6,Zi7,Zjh,Zji,Zjn,Zjq,Zjw,Zkv,Zkw,Zkx,Zla,Zlb,Zlc,Zld,Zle,Zlf,Zlh,Zlk,Zln,Zlt,Zlx,Zlz,Zl0,Zl1,Zl2,Zmk,Zmt,Zmv,Zmw,Zmy,Zm0,Zm1,Zm2,Zm5,Zm6,Zm7,Zm9,Zna,Znb,Znc,Zne,Znf,Zng,Znn,Zno,Znp,Znr,Zns,Znu,Znw,Znx,Zn5,Zoa,Zoc,Zrd,Zos,Zot,Zo3,Zo7,Zo8,Zo9,Zpa,Zpc,Zpo,Zpu,Zp8,Zqb,Zqc,Zqf,Zqg,Zqh,Zqi,Zqk,Zql,Zqm,Zqn,Zqr,List.length_drop,List.length_replicate,List.length_map,eq_self,true_and,and_true,Nat.zero_add,Nat.mul_one,Nat.sub_zero,callable_49]
  tactic =>
  have hf := fill_con (cSt S l g) l g rfl rfl rfl hl
  obtain ⟨P, hP⟩ : ∃ P, P = fill l g := ⟨_, rfl⟩
  have hP1 := fill_length l g
  have hgo : sumS S l g = absorb S P (P.length / 64) := by rw [hP, sumS]
  rw [← hP] at hf hP1
  rw [hgo]
  refine cl (some ⟨cB P, 1, 0⟩) hf ?_ ?_
  · exact ⟨rfl, cB_okI P⟩
  sym =>
  simp [Zaa,Zab,Zad,Zae,Zaf,Zag,Zah,Zai,Zak,Zal,Zam,Zan,Zap,Zaq,Zav,Zaw,Zay,Zaz,Za0,Za1,Za2,Za3,Za4,Za5,Za9,Zba,Zbb,Zbf,Zbj,Zbl,Zbt,Zbv,Zbz,Zcd,Zch,Zcn,Zcv,Zc3,Zdc,Zdd,Zde,Zdi,Zev,Zew,Zez,Ze0,Ze1,Ze2,Ze3,Ze5,Ze8,Ze9,Zfc,Zfd,Zfe,Zfh,Zfn,Zfp,Zfq,Zfr,Zfs,Zft,Zfu,Zf1,Zf3,Zgd,Zgg,Zgh,Zgi,Zgr,Zgs,Zgt,Zgu,Zgv,Zgw,Zgy,Zg1,Zg2,Zhj,Zhl,Zhm,Zhn,Zho,Zhs,Zhx,Zhy,Zh6,Zh9,Zin,Ziu,Ziv,Ziw,Zi6,Zi7,Zjh,Zji,Zjn,Zjq,Zjw,Zkv,Zkw,Zkx,Zla,Zlb,Zlc,Zld,Zle,Zlf,Zlh,Zlk,Zln,Zlt,Zlx,Zlz,Zl0,Zl1,Zl2,Zmk,Zmt,Zmv,Zmw,Zmy,Zm0,Zm1,Zm2,Zm5,Zm6,Zm7,Zm9,Zna,Znb,Znc,Zne,Znf,Zng,Znn,Zno,Znp,Znr,Zns,Znu,Znw,Znx,Zn5,Zoa,Zoc,Zrd,Zos,Zot,Zo3,Zo7,Zo8,Zo9,Zpa,Zpc,Zpo,Zpu,Zp8,Zqb,Zqc,Zqf,Zqg,Zqh,Zqi,Zqk,Zql,Zqm,Zqn,Zqr,List.length_drop,List.length_replicate,List.length_map,eq_self,true_and,and_true,Nat.zero_add,Nat.mul_one,Nat.sub_zero]
  tactic =>
  refine lpA (i16 S P) P.length [(0, 0), (1, 1), (2, 9), (3, 12)] _ ⟨0, by omega, by omega, rfl⟩ (wkA ?_) ?_
  · sym =>
    simp [Zaa,Zab,Zad,Zae,Zaf,Zag,Zah,Zai,Zak,Zal,Zam,Zan,Zap,Zaq,Zav,Zaw,Zay,Zaz,Za0,Za1,Za2,Za3,Za4,Za5,Za9,Zba,Zbb,Zbf,Zbj,Zbl,Zbt,Zbv,Zbz,Zcd,Zch,Zcn,Zcv,Zc3,Zdc,Zdd,Zde,Zdi,Zev,Zew,Zez,Ze0,Ze1,Ze2,Ze3,Ze5,Ze8,Ze9,Zfc,Zfd,Zfe,Zfh,Zfn,Zfp,Zfq,Zfr,Zfs,Zft,Zfu,Zf1,Zf3,Zgd,Zgg,Zgh,Zgi,Zgr,Zgs,Zgt,Zgu,Zgv,Zgw,Zgy,Zg1,Zg2,Zhj,Zhl,Zhm,Zhn,Zho,Zhs,Zhx,Zhy,Zh6,Zh9,Zin,Ziu,Ziv,Ziw,Zi6,Zi7,Zjh,Zji,Zjn,Zjq,Zjw,Zkv,Zkw,Zkx,Zla,Zlb,Zlc,Zld,Zle,Zlf,Zlh,Zlk,Zln,Zlt,Zlx,Zlz,Zl0,Zl1,Zl2,Zmk,Zmt,Zmv,Zmw,Zmy,Zm0,Zm1,Zm2,Zm5,Zm6,Zm7,Zm9,Zna,Znb,Znc,Zne,Znf,Zng,Znn,Zno,Znp,Znr,Zns,Znu,Znw,Znx,Zn5,Zoa,Zoc,Zrd,Zos,Zot,Zo3,Zo7,Zo8,Zo9,Zpa,Zpc,Zpo,Zpu,Zp8,Zqb,Zqc,Zqf,Zqg,Zqh,Zqi,Zqk,Zql,Zqm,Zqn,Zqr,List.length_drop,List.length_replicate,List.length_map,eq_self,true_and,and_true,Nat.zero_add,Nat.mul_one,Nat.sub_zero]
    tactic =>
    exact ⟨rs_self z32_okI, rs_self z32_okI, ⟨rfl, rfl, rfl, rfl, rfl, rfl, rfl, rfl⟩, rs_self (cB_okI P)⟩
  rintro k s ⟨m, hm, hk, rfl⟩
  have hSl := absorb_length S P hS m
  obtain ⟨T, hT⟩ : ∃ T, T = absorb S P m := ⟨_, rfl⟩
  rw [← hT] at hSl ⊢
  by_cases h : 0 < P.length - 64 * m
  · have hI : IN (P.length - 64 * m) > (0 : Int) := by simp only [IN]; omega
    obtain ⟨D, hD⟩ : ∃ D, D = P.drop (64 * m) := ⟨_, rfl⟩
    have hDl : D.length = P.length - 64 * m := by rw [hD, List.length_drop]
    have hdt : List.take (P.length - 64 * m) (List.drop (64 * m) (cB P)) = cB D := by
      rw [hD, cB, ← List.map_drop]; exact List.take_of_length_le (by simp)
    have hc := block_con' T D hSl (by omega)
    simp only [fB, hDl] at hc
    sym =>
    simp [Zaa,Zab,Zad,Zae,Zaf,Zag,Zah,Zai,Zak,Zal,Zam,Zan,Zap,Zaq,Zav,Zaw,Zay,Zaz,Za0,Za1,Za2,Za3,Za4,Za5,Za9,Zba,Zbb,Zbf,Zbj,Zbl,Zbt,Zbv,Zbz,Zcd,Zch,Zcn,Zcv,Zc3,Zdc,Zdd,Zde,Zdi,Zev,Zew,Zez,Ze0,Ze1,Ze2,Ze3,Ze5,Ze8,Ze9,Zfc,Zfd,Zfe,Zfh,Zfn,Zfp,Zfq,Zfr,Zfs,Zft,Zfu,Zf1,Zf3,Zgd,Zgg,Zgh,Zgi,Zgr,Zgs,Zgt,Zgu,Zgv,Zgw,Zgy,Zg1,Zg2,Zhj,Zhl,Zhm,Zhn,Zho,Zhs,Zhx,Zhy,Zh6,Zh9,Zin,Ziu,Ziv,Ziw,Zi6,Zi7,Zjh,Zji,Zjn,Zjq,Zjw,Zkv,Zkw,Zkx,Zla,Zlb,Zlc,Zld,Zle,Zlf,Zlh,Zlk,Zln,Zlt,Zlx,Zlz,Zl0,Zl1,Zl2,Zmk,Zmt,Zmv,Zmw,Zmy,Zm0,Zm1,Zm2,Zm5,Zm6,Zm7,Zm9,Zna,Znb,Znc,Zne,Znf,Zng,Znn,Zno,Znp,Znr,Zns,Znu,Znw,Znx,Zn5,Zoa,Zoc,Zrd,Zos,Zot,Zo3,Zo7,Zo8,Zo9,Zpa,Zpc,Zpo,Zpu,Zp8,Zqb,Zqc,Zqf,Zqg,Zqh,Zqi,Zqk,Zql,Zqm,Zqn,Zqr,List.length_drop,List.length_replicate,List.length_map,eq_self,true_and,and_true,Nat.zero_add,Nat.mul_one,Nat.sub_zero,h,callable_48,hdt]
    tactic =>
    refine ⟨⟨by rw [cB_length]; omega, cB_okI P⟩, ?_⟩
    refine cl none (hc) trivial ?_
    sym =>
    simp [Zaa,Zab,Zad,Zae,Zaf,Zag,Zah,Zai,Zak,Zal,Zam,Zan,Zap,Zaq,Zav,Zaw,Zay,Zaz,Za0,Za1,Za2,Za3,Za4,Za5,Za9,Zba,Zbb,Zbf,Zbj,Zbl,Zbt,Zbv,Zbz,Zcd,Zch,Zcn,Zcv,Zc3,Zdc,Zdd,Zde,Zdi,Zev,Zew,Zez,Ze0,Ze1,Ze2,Ze3,Ze5,Ze8,Ze9,Zfc,Zfd,Zfe,Zfh,Zfn,Zfp,Zfq,Zfr,Zfs,Zft,Zfu,Zf1,Zf3,Zgd,Zgg,Zgh,Zgi,Zgr,Zgs,Zgt,Zgu,Zgv,Zgw,Zgy,Zg1,Zg2,Zhj,Zhl,Zhm,Zhn,Zho,Zhs,Zhx,Zhy,Zh6,Zh9,Zin,Ziu,Ziv,Ziw,Zi6,Zi7,Zjh,Zji,Zjn,Zjq,Zjw,Zkv,Zkw,Zkx,Zla,Zlb,Zlc,Zld,Zle,Zlf,Zlh,Zlk,Zln,Zlt,Zlx,Zlz,Zl0,Zl1,Zl2,Zmk,Zmt,Zmv,Zmw,Zmy,Zm0,Zm1,Zm2,Zm5,Zm6,Zm7,Zm9,Zna,Znb,Znc,Zne,Znf,Zng,Znn,Zno,Znp,Znr,Zns,Znu,Znw,Znx,Zn5,Zoa,Zoc,Zrd,Zos,Zot,Zo3,Zo7,Zo8,Zo9,Zpa,Zpc,Zpo,Zpu,Zp8,Zqb,Zqc,Zqf,Zqg,Zqh,Zqi,Zqk,Zql,Zqm,Zqn,Zqr,List.length_drop,List.length_replicate,List.length_map,eq_self,true_and,and_true,Nat.zero_add,Nat.mul_one,Nat.sub_zero]
    tactic =>
    refine ⟨⟨by simp only [IN]; omega, by omega, by omega⟩, ?_⟩
    unfold NextL; refine ⟨(k - 64), [(0, 0), (1, 1), (2, 2), (3, 3)], _, by omega, ⟨m + 1, by omega, by omega, rfl⟩, wkA ?_⟩
    sym =>
    simp [Zaa,Zab,Zad,Zae,Zaf,Zag,Zah,Zai,Zak,Zal,Zam,Zan,Zap,Zaq,Zav,Zaw,Zay,Zaz,Za0,Za1,Za2,Za3,Za4,Za5,Za9,Zba,Zbb,Zbf,Zbj,Zbl,Zbt,Zbv,Zbz,Zcd,Zch,Zcn,Zcv,Zc3,Zdc,Zdd,Zde,Zdi,Zev,Zew,Zez,Ze0,Ze1,Ze2,Ze3,Ze5,Ze8,Ze9,Zfc,Zfd,Zfe,Zfh,Zfn,Zfp,Zfq,Zfr,Zfs,Zft,Zfu,Zf1,Zf3,Zgd,Zgg,Zgh,Zgi,Zgr,Zgs,Zgt,Zgu,Zgv,Zgw,Zgy,Zg1,Zg2,Zhj,Zhl,Zhm,Zhn,Zho,Zhs,Zhx,Zhy,Zh6,Zh9,Zin,Ziu,Ziv,Ziw,Zi6,Zi7,Zjh,Zji,Zjn,Zjq,Zjw,Zkv,Zkw,Zkx,Zla,Zlb,Zlc,Zld,Zle,Zlf,Zlh,Zlk,Zln,Zlt,Zlx,Zlz,Zl0,Zl1,Zl2,Zmk,Zmt,Zmv,Zmw,Zmy,Zm0,Zm1,Zm2,Zm5,Zm6,Zm7,Zm9,Zna,Znb,Znc,Zne,Znf,Zng,Znn,Zno,Znp,Znr,Zns,Znu,Znw,Znx,Zn5,Zoa,Zoc,Zrd,Zos,Zot,Zo3,Zo7,Zo8,Zo9,Zpa,Zpc,Zpo,Zpu,Zp8,Zqb,Zqc,Zqf,Zqg,Zqh,Zqi,Zqk,Zql,Zqm,Zqn,Zqr,List.length_drop,List.length_replicate,List.length_map,eq_self,true_and,and_true,Nat.zero_add,Nat.mul_one,Nat.sub_zero]
    tactic =>
    refine ⟨⟨by omega, by omega⟩, rs_self z32_okI, rs_self z32_okI, ?_, rs_self (cB_okI P)⟩
    rw [absorb, ← hT, ← hD]
    simp only [and_self]
  · have hI : ¬ IN (P.length - 64 * m) > (0 : Int) := by simp only [IN]; omega
    sym =>
    simp [Zaa,Zab,Zad,Zae,Zaf,Zag,Zah,Zai,Zak,Zal,Zam,Zan,Zap,Zaq,Zav,Zaw,Zay,Zaz,Za0,Za1,Za2,Za3,Za4,Za5,Za9,Zba,Zbb,Zbf,Zbj,Zbl,Zbt,Zbv,Zbz,Zcd,Zch,Zcn,Zcv,Zc3,Zdc,Zdd,Zde,Zdi,Zev,Zew,Zez,Ze0,Ze1,Ze2,Ze3,Ze5,Ze8,Ze9,Zfc,Zfd,Zfe,Zfh,Zfn,Zfp,Zfq,Zfr,Zfs,Zft,Zfu,Zf1,Zf3,Zgd,Zgg,Zgh,Zgi,Zgr,Zgs,Zgt,Zgu,Zgv,Zgw,Zgy,Zg1,Zg2,Zhj,Zhl,Zhm,Zhn,Zho,Zhs,Zhx,Zhy,Zh6,Zh9,Zin,Ziu,Ziv,Ziw,Zi6,Zi7,Zjh,Zji,Zjn,Zjq,Zjw,Zkv,Zkw,Zkx,Zla,Zlb,Zlc,Zld,Zle,Zlf,Zlh,Zlk,Zln,Zlt,Zlx,Zlz,Zl0,Zl1,Zl2,Zmk,Zmt,Zmv,Zmw,Zmy,Zm0,Zm1,Zm2,Zm5,Zm6,Zm7,Zm9,Zna,Znb,Znc,Zne,Znf,Zng,Znn,Zno,Znp,Znr,Zns,Znu,Znw,Znx,Zn5,Zoa,Zoc,Zrd,Zos,Zot,Zo3,Zo7,Zo8,Zo9,Zpa,Zpc,Zpo,Zpu,Zp8,Zqb,Zqc,Zqf,Zqg,Zqh,Zqi,Zqk,Zql,Zqm,Zqn,Zqr,List.length_drop,List.length_replicate,List.length_map,eq_self,true_and,and_true,Nat.zero_add,Nat.mul_one,Nat.sub_zero,h]
    tactic =>
    have hmm : P.length / 64 = m := by omega
    rw [hmm, ← hT]
    refine lpA (j16 T) 32 [(0, 0), (1, 1), (2, 2)] _ ⟨0, by omega, rfl⟩ (wkA ?_) ?_
    · sym =>
      simp [Zaa,Zab,Zad,Zae,Zaf,Zag,Zah,Zai,Zak,Zal,Zam,Zan,Zap,Zaq,Zav,Zaw,Zay,Zaz,Za0,Za1,Za2,Za3,Za4,Za5,Za9,Zba,Zbb,Zbf,Zbj,Zbl,Zbt,Zbv,Zbz,Zcd,Zch,Zcn,Zcv,Zc3,Zdc,Zdd,Zde,Zdi,Zev,Zew,Zez,Ze0,Ze1,Ze2,Ze3,Ze5,Ze8,Ze9,Zfc,Zfd,Zfe,Zfh,Zfn,Zfp,Zfq,Zfr,Zfs,Zft,Zfu,Zf1,Zf3,Zgd,Zgg,Zgh,Zgi,Zgr,Zgs,Zgt,Zgu,Zgv,Zgw,Zgy,Zg1,Zg2,Zhj,Zhl,Zhm,Zhn,Zho,Zhs,Zhx,Zhy,Zh6,Zh9,Zin,Ziu,Ziv,Ziw,Zi6,Zi7,Zjh,Zji,Zjn,Zjq,Zjw,Zkv,Zkw,Zkx,Zla,Zlb,Zlc,Zld,Zle,Zlf,Zlh,Zlk,Zln,Zlt,Zlx,Zlz,Zl0,Zl1,Zl2,Zmk,Zmt,Zmv,Zmw,Zmy,Zm0,Zm1,Zm2,Zm5,Zm6,Zm7,Zm9,Zna,Znb,Znc,Zne,Znf,Zng,Znn,Zno,Znp,Znr,Zns,Znu,Znw,Znx,Zn5,Zoa,Zoc,Zrd,Zos,Zot,Zo3,Zo7,Zo8,Zo9,Zpa,Zpc,Zpo,Zpu,Zp8,Zqb,Zqc,Zqf,Zqg,Zqh,Zqi,Zqk,Zql,Zqm,Zqn,Zqr,List.length_drop,List.length_replicate,List.length_map,eq_self,true_and,and_true,Nat.zero_add,Nat.mul_one,Nat.sub_zero]
      tactic =>
      exact ⟨rs_self z32_okI, cB_rs _ _ _ _ _ rfl, by rw [cU8 T hSl]; exact rs_self (cU8 T hSl ▸ cU_okI T)⟩
    rintro k2 s ⟨i, hi, rfl⟩
    have hol := oPart_length T i (by omega)
    by_cases h2 : i < 32
    · have hI : IN i < (32 : Int) := by simp only [IN]; omega
      have hw := w64s i (by omega)
      have hq := (q4 i).resolve_right (by omega)
      have hr4 : (IN i).tmod (4 : Int) = IN (i % 4) := by simp only [IN]; rw [Int.tmod_eq_emod_of_nonneg (by omega)]; omega
      have h3 : IntKind.i64.wrap (3 - IN (i % 4)) = IN (3 - i % 4) := by simp only [IN]; rw [w64 _ (by omega)]; omega
      have h8 : IntKind.i64.wrap (8 * IN (3 - i % 4)) = IN (8 * (3 - i % 4)) := by simp only [IN]; rw [w64 _ (by omega)]; omega
      have gT := cU_get T (i / 4) (by omega)
      have hs2 := cB_set (oPart T i) i
      have hst := oPart_step T i h2
      sym =>
      simp [Zaa,Zab,Zad,Zae,Zaf,Zag,Zah,Zai,Zak,Zal,Zam,Zan,Zap,Zaq,Zav,Zaw,Zay,Zaz,Za0,Za1,Za2,Za3,Za4,Za5,Za9,Zba,Zbb,Zbf,Zbj,Zbl,Zbt,Zbv,Zbz,Zcd,Zch,Zcn,Zcv,Zc3,Zdc,Zdd,Zde,Zdi,Zev,Zew,Zez,Ze0,Ze1,Ze2,Ze3,Ze5,Ze8,Ze9,Zfc,Zfd,Zfe,Zfh,Zfn,Zfp,Zfq,Zfr,Zfs,Zft,Zfu,Zf1,Zf3,Zgd,Zgg,Zgh,Zgi,Zgr,Zgs,Zgt,Zgu,Zgv,Zgw,Zgy,Zg1,Zg2,Zhj,Zhl,Zhm,Zhn,Zho,Zhs,Zhx,Zhy,Zh6,Zh9,Zin,Ziu,Ziv,Ziw,Zi6,Zi7,Zjh,Zji,Zjn,Zjq,Zjw,Zkv,Zkw,Zkx,Zla,Zlb,Zlc,Zld,Zle,Zlf,Zlh,Zlk,Zln,Zlt,Zlx,Zlz,Zl0,Zl1,Zl2,Zmk,Zmt,Zmv,Zmw,Zmy,Zm0,Zm1,Zm2,Zm5,Zm6,Zm7,Zm9,Zna,Znb,Znc,Zne,Znf,Zng,Znn,Zno,Znp,Znr,Zns,Znu,Znw,Znx,Zn5,Zoa,Zoc,Zrd,Zos,Zot,Zo3,Zo7,Zo8,Zo9,Zpa,Zpc,Zpo,Zpu,Zp8,Zqb,Zqc,Zqf,Zqg,Zqh,Zqi,Zqk,Zql,Zqm,Zqn,Zqr,List.length_drop,List.length_replicate,List.length_map,eq_self,true_and,and_true,Nat.zero_add,Nat.mul_one,Nat.sub_zero,hI,hw,hq,hr4,h3,h8,gT,cB_length,cU_length,hSl,hol,hs2,hst]
      tactic =>
      refine ⟨by simp only [IN]; omega, by omega, by omega, ?_⟩
      unfold NextL; refine ⟨(k2 - 1), [(0, 0), (1, 1), (2, 2)], _, by omega, ⟨i + 1, by omega, rfl⟩, wkA ?_⟩
      sym =>
      simp [Zaa,Zab,Zad,Zae,Zaf,Zag,Zah,Zai,Zak,Zal,Zam,Zan,Zap,Zaq,Zav,Zaw,Zay,Zaz,Za0,Za1,Za2,Za3,Za4,Za5,Za9,Zba,Zbb,Zbf,Zbj,Zbl,Zbt,Zbv,Zbz,Zcd,Zch,Zcn,Zcv,Zc3,Zdc,Zdd,Zde,Zdi,Zev,Zew,Zez,Ze0,Ze1,Ze2,Ze3,Ze5,Ze8,Ze9,Zfc,Zfd,Zfe,Zfh,Zfn,Zfp,Zfq,Zfr,Zfs,Zft,Zfu,Zf1,Zf3,Zgd,Zgg,Zgh,Zgi,Zgr,Zgs,Zgt,Zgu,Zgv,Zgw,Zgy,Zg1,Zg2,Zhj,Zhl,Zhm,Zhn,Zho,Zhs,Zhx,Zhy,Zh6,Zh9,Zin,Ziu,Ziv,Ziw,Zi6,Zi7,Zjh,Zji,Zjn,Zjq,Zjw,Zkv,Zkw,Zkx,Zla,Zlb,Zlc,Zld,Zle,Zlf,Zlh,Zlk,Zln,Zlt,Zlx,Zlz,Zl0,Zl1,Zl2,Zmk,Zmt,Zmv,Zmw,Zmy,Zm0,Zm1,Zm2,Zm5,Zm6,Zm7,Zm9,Zna,Znb,Znc,Zne,Znf,Zng,Znn,Zno,Znp,Znr,Zns,Znu,Znw,Znx,Zn5,Zoa,Zoc,Zrd,Zos,Zot,Zo3,Zo7,Zo8,Zo9,Zpa,Zpc,Zpo,Zpu,Zp8,Zqb,Zqc,Zqf,Zqg,Zqh,Zqi,Zqk,Zql,Zqm,Zqn,Zqr,List.length_drop,List.length_replicate,List.length_map,eq_self,true_and,and_true,Nat.zero_add,Nat.mul_one,Nat.sub_zero]
      tactic =>
      exact ⟨rs_self z32_okI, rs_self (cB_okI _), rs_self (cU_okI _)⟩
    · have hI : ¬ IN i < (32 : Int) := by simp only [IN]; omega
      have e32 : i = 32 := by omega
      subst e32
      rw [oPart_all]
      obtain ⟨X, hX⟩ : ∃ X, X = out32 T := ⟨_, rfl⟩
      have hXl : X.length = 32 := by rw [hX, out32_length]
      rw [← hX]
      have hr : rdb (cB X) 0 32 = cB X := rdb_all (by rw [cB_length, hXl])
      have hs : spl (List.replicate 32 (.sc (.int .u8 0))) 0 (cB X) = cB X := spl_new _ _ (by rw [cB_length, hXl]; simp)
      sym =>
      simp [Zaa,Zab,Zad,Zae,Zaf,Zag,Zah,Zai,Zak,Zal,Zam,Zan,Zap,Zaq,Zav,Zaw,Zay,Zaz,Za0,Za1,Za2,Za3,Za4,Za5,Za9,Zba,Zbb,Zbf,Zbj,Zbl,Zbt,Zbv,Zbz,Zcd,Zch,Zcn,Zcv,Zc3,Zdc,Zdd,Zde,Zdi,Zev,Zew,Zez,Ze0,Ze1,Ze2,Ze3,Ze5,Ze8,Ze9,Zfc,Zfd,Zfe,Zfh,Zfn,Zfp,Zfq,Zfr,Zfs,Zft,Zfu,Zf1,Zf3,Zgd,Zgg,Zgh,Zgi,Zgr,Zgs,Zgt,Zgu,Zgv,Zgw,Zgy,Zg1,Zg2,Zhj,Zhl,Zhm,Zhn,Zho,Zhs,Zhx,Zhy,Zh6,Zh9,Zin,Ziu,Ziv,Ziw,Zi6,Zi7,Zjh,Zji,Zjn,Zjq,Zjw,Zkv,Zkw,Zkx,Zla,Zlb,Zlc,Zld,Zle,Zlf,Zlh,Zlk,Zln,Zlt,Zlx,Zlz,Zl0,Zl1,Zl2,Zmk,Zmt,Zmv,Zmw,Zmy,Zm0,Zm1,Zm2,Zm5,Zm6,Zm7,Zm9,Zna,Znb,Znc,Zne,Znf,Zng,Znn,Zno,Znp,Znr,Zns,Znu,Znw,Znx,Zn5,Zoa,Zoc,Zrd,Zos,Zot,Zo3,Zo7,Zo8,Zo9,Zpa,Zpc,Zpo,Zpu,Zp8,Zqb,Zqc,Zqf,Zqg,Zqh,Zqi,Zqk,Zql,Zqm,Zqn,Zqr,List.length_drop,List.length_replicate,List.length_map,eq_self,true_and,and_true,Nat.zero_add,Nat.mul_one,Nat.sub_zero,hI,hr,hs,cB_length,hXl]
      tactic =>
      refine ⟨okF_cells (cB_okF X) _, endA ?_⟩
      sym =>
      simp [Zaa,Zab,Zad,Zae,Zaf,Zag,Zah,Zai,Zak,Zal,Zam,Zan,Zap,Zaq,Zav,Zaw,Zay,Zaz,Za0,Za1,Za2,Za3,Za4,Za5,Za9,Zba,Zbb,Zbf,Zbj,Zbl,Zbt,Zbv,Zbz,Zcd,Zch,Zcn,Zcv,Zc3,Zdc,Zdd,Zde,Zdi,Zev,Zew,Zez,Ze0,Ze1,Ze2,Ze3,Ze5,Ze8,Ze9,Zfc,Zfd,Zfe,Zfh,Zfn,Zfp,Zfq,Zfr,Zfs,Zft,Zfu,Zf1,Zf3,Zgd,Zgg,Zgh,Zgi,Zgr,Zgs,Zgt,Zgu,Zgv,Zgw,Zgy,Zg1,Zg2,Zhj,Zhl,Zhm,Zhn,Zho,Zhs,Zhx,Zhy,Zh6,Zh9,Zin,Ziu,Ziv,Ziw,Zi6,Zi7,Zjh,Zji,Zjn,Zjq,Zjw,Zkv,Zkw,Zkx,Zla,Zlb,Zlc,Zld,Zle,Zlf,Zlh,Zlk,Zln,Zlt,Zlx,Zlz,Zl0,Zl1,Zl2,Zmk,Zmt,Zmv,Zmw,Zmy,Zm0,Zm1,Zm2,Zm5,Zm6,Zm7,Zm9,Zna,Znb,Znc,Zne,Znf,Zng,Znn,Zno,Znp,Znr,Zns,Znu,Znw,Znx,Zn5,Zoa,Zoc,Zrd,Zos,Zot,Zo3,Zo7,Zo8,Zo9,Zpa,Zpc,Zpo,Zpu,Zp8,Zqb,Zqc,Zqf,Zqg,Zqh,Zqi,Zqk,Zql,Zqm,Zqn,Zqr,List.length_drop,List.length_replicate,List.length_map,eq_self,true_and,and_true,Nat.zero_add,Nat.mul_one,Nat.sub_zero]
      tactic =>
      exact rs_self (cB_okI X)
theorem len_con (S l : List Int) (g : Int) : Con Try.prog 17 [] [.fp (cSt S l g) 0] [] (L g) := by
  refine con_j b17 rfl ?_
  sym =>
  simp [Zaa,Zab,Zad,Zae,Zaf,Zak,Zal,Zam,Zaz,Za0,Za1,Za2,Za3,Za4,Za5,Za9,Zba,Zbb,Zbj,Zbt,Zbv,Zcd,Zdc,Zdd,Zde,Zdi,Zev,Zew,Zez,Ze0,Ze2,Ze5,Zfd,Zfe,Zfh,Zgd,Zgg,Zgr,Zgu,Zgw,Zgy,Zhj,Zhl,Zjw,Zla,Zlb,Zle,Zln,Zlz,Zmt,Zmv,Zmw,Zmx,Zmz,Zm2,Zm6,Zm9,Zna,Znb,Zne,Znf,Zng,Zos,Zot,Zo3,Zo7,Zpc,eq_self,true_and,and_true,Nat.zero_add,callable_46]
  tactic =>
  refine cl none (ok_con' _ rfl (by simp)) trivial ?_
  sym =>
  simp [Zaa,Zab,Zad,Zae,Zaf,Zak,Zal,Zam,Zaz,Za0,Za1,Za2,Za3,Za4,Za5,Za9,Zba,Zbb,Zbj,Zbt,Zbv,Zcd,Zdc,Zdd,Zde,Zdi,Zev,Zew,Zez,Ze0,Ze2,Ze5,Zfd,Zfe,Zfh,Zgd,Zgg,Zgr,Zgu,Zgw,Zgy,Zhj,Zhl,Zjw,Zla,Zlb,Zle,Zln,Zlz,Zmt,Zmv,Zmw,Zmx,Zmz,Zm2,Zm6,Zm9,Zna,Znb,Zne,Znf,Zng,Zos,Zot,Zo3,Zo7,Zpc,eq_self,true_and,and_true,Nat.zero_add]
  tactic =>
  refine endA ?_
  sym =>
  simp [Zaa,Zab,Zad,Zae,Zaf,Zak,Zal,Zam,Zaz,Za0,Za1,Za2,Za3,Za4,Za5,Za9,Zba,Zbb,Zbj,Zbt,Zbv,Zcd,Zdc,Zdd,Zde,Zdi,Zev,Zew,Zez,Ze0,Ze2,Ze5,Zfd,Zfe,Zfh,Zgd,Zgg,Zgr,Zgu,Zgw,Zgy,Zhj,Zhl,Zjw,Zla,Zlb,Zle,Zln,Zlz,Zmt,Zmv,Zmw,Zmx,Zmz,Zm2,Zm6,Zm9,Zna,Znb,Zne,Znf,Zng,Zos,Zot,Zo3,Zo7,Zpc,eq_self,true_and,and_true,Nat.zero_add]
theorem sclone_con (S l : List Int) (g : Int) (hl : l.length ≤ 1000) : Con Try.prog 18 [] [.fp (cSt S l g) 0] [(0, ⟨cSt S l g, 1, 0⟩)] (.pt 0 0) := by
  refine con_o b18 rfl ?_
  sym =>
  simp [Zaa,Zab,Zad,Zae,Zaf,Zak,Zal,Zam,Zaz,Za0,Za1,Za2,Za3,Za4,Za5,Za9,Zba,Zbb,Zbj,Zbt,Zbv,Zcd,Zcv,Zc3,Zdc,Zdd,Zde,Zdi,Zev,Zew,Zez,Ze0,Ze1,Ze2,Ze3,Ze5,Zfc,Zfd,Zfe,Zfh,Zgd,Zgg,Zgr,Zgu,Zgv,Zgw,Zgx,Zgy,Zhj,Zhl,Zin,Ziu,Ziv,Ziw,Zi6,Zje,Zjg,Zjh,Zji,Zjn,Zjs,Zjw,Zj7,Zkl,Zla,Zlb,Zle,Zll,Zln,Zlz,Zl0,Zl1,Zl2,Zmk,Zmt,Zmv,Zmw,Zmx,Zmz,Zm2,Zm5,Zm6,Zm9,Zna,Znb,Zne,Znf,Zng,Znh,Znn,Zno,Znp,Znr,Zos,Zot,Zo3,Zo7,Zpa,Zpu,Zpy,Zp1,Zp2,Zp3,Zqb,Zqc,Zqh,Zqi,Zqk,Zql,Zqm,Zqn,Zqo,eq_self,true_and,and_true,Nat.zero_add,Nat.mul_one,callable_46]
  tactic =>
  refine cl none (ok_con' _ rfl (by simp)) trivial ?_
  have hr : rdb (cSt S l g) 0 11 = cSt S l g := rdb_all rfl
  sym =>
  simp [Zaa,Zab,Zad,Zae,Zaf,Zak,Zal,Zam,Zaz,Za0,Za1,Za2,Za3,Za4,Za5,Za9,Zba,Zbb,Zbj,Zbt,Zbv,Zcd,Zcv,Zc3,Zdc,Zdd,Zde,Zdi,Zev,Zew,Zez,Ze0,Ze1,Ze2,Ze3,Ze5,Zfc,Zfd,Zfe,Zfh,Zgd,Zgg,Zgr,Zgu,Zgv,Zgw,Zgx,Zgy,Zhj,Zhl,Zin,Ziu,Ziv,Ziw,Zi6,Zje,Zjg,Zjh,Zji,Zjn,Zjs,Zjw,Zj7,Zkl,Zla,Zlb,Zle,Zll,Zln,Zlz,Zl0,Zl1,Zl2,Zmk,Zmt,Zmv,Zmw,Zmx,Zmz,Zm2,Zm5,Zm6,Zm9,Zna,Znb,Zne,Znf,Zng,Znh,Znn,Zno,Znp,Znr,Zos,Zot,Zo3,Zo7,Zpa,Zpu,Zpy,Zp1,Zp2,Zp3,Zqb,Zqc,Zqh,Zqi,Zqk,Zql,Zqm,Zqn,Zqo,eq_self,true_and,and_true,Nat.zero_add,Nat.mul_one,callable_47,hr]
  tactic =>
  refine cl (some ⟨cB l, 1, 0⟩) (bclone_con l (by omega)) ?_ ?_
  · exact ⟨rfl, cB_okI l⟩
  sym =>
  simp [Zaa,Zab,Zad,Zae,Zaf,Zak,Zal,Zam,Zaz,Za0,Za1,Za2,Za3,Za4,Za5,Za9,Zba,Zbb,Zbj,Zbt,Zbv,Zcd,Zcv,Zc3,Zdc,Zdd,Zde,Zdi,Zev,Zew,Zez,Ze0,Ze1,Ze2,Ze3,Ze5,Zfc,Zfd,Zfe,Zfh,Zgd,Zgg,Zgr,Zgu,Zgv,Zgw,Zgx,Zgy,Zhj,Zhl,Zin,Ziu,Ziv,Ziw,Zi6,Zje,Zjg,Zjh,Zji,Zjn,Zjs,Zjw,Zj7,Zkl,Zla,Zlb,Zle,Zll,Zln,Zlz,Zl0,Zl1,Zl2,Zmk,Zmt,Zmv,Zmw,Zmx,Zmz,Zm2,Zm5,Zm6,Zm9,Zna,Znb,Zne,Znf,Zng,Znh,Znn,Zno,Znp,Znr,Zos,Zot,Zo3,Zo7,Zpa,Zpu,Zpy,Zp1,Zp2,Zp3,Zqb,Zqc,Zqh,Zqi,Zqk,Zql,Zqm,Zqn,Zqo,eq_self,true_and,and_true,Nat.zero_add,Nat.mul_one]
  tactic =>
  refine endO [(0, 7)] (nx := 14) ?_
  sym =>
  simp [Zaa,Zab,Zad,Zae,Zaf,Zak,Zal,Zam,Zaz,Za0,Za1,Za2,Za3,Za4,Za5,Za9,Zba,Zbb,Zbj,Zbt,Zbv,Zcd,Zcv,Zc3,Zdc,Zdd,Zde,Zdi,Zev,Zew,Zez,Ze0,Ze1,Ze2,Ze3,Ze5,Zfc,Zfd,Zfe,Zfh,Zgd,Zgg,Zgr,Zgu,Zgv,Zgw,Zgx,Zgy,Zhj,Zhl,Zin,Ziu,Ziv,Ziw,Zi6,Zje,Zjg,Zjh,Zji,Zjn,Zjs,Zjw,Zj7,Zkl,Zla,Zlb,Zle,Zll,Zln,Zlz,Zl0,Zl1,Zl2,Zmk,Zmt,Zmv,Zmw,Zmx,Zmz,Zm2,Zm5,Zm6,Zm9,Zna,Znb,Zne,Znf,Zng,Znh,Znn,Zno,Znp,Znr,Zos,Zot,Zo3,Zo7,Zpa,Zpu,Zpy,Zp1,Zp2,Zp3,Zqb,Zqc,Zqh,Zqi,Zqk,Zql,Zqm,Zqn,Zqo,eq_self,true_and,and_true,Nat.zero_add,Nat.mul_one]
  tactic =>
  exact ⟨(List.take_of_length_le (by rw [cB_length]; exact Nat.le_refl _)).symm, by rw [cB_length]; exact Nat.le_refl _, cB_okI l⟩
theorem con_nil1 {P : Program} {f : FuncId} {hp0 hp1 : List (Nat × Ob)} {r : AV} (h : Con P f hp0 [.fz 0 []] hp1 r) : Con P f hp0 [.nl] hp1 r := by
  intro W I S L cargs a b c
  refine h W I S L cargs a b ⟨c.1, fun i x hx => ?_⟩
  match i with
  | 0 =>
    simp only [List.getElem?_cons_zero, Option.some.injEq] at hx
    subst hx
    have h0 := c.2 0 .nl rfl
    revert h0
    generalize cargs.toList.getD 0 undef = v
    intro h0
    cases h0
    exact .fz0 _ _ _
  | i + 1 => simp at hx
theorem cSt_okI (S l : List Int) (g : Int) : okI (cSt S l g) := fun x hx => List.all_eq_true.1 (rfl : (cSt S l g).all isF = true) x hx
theorem wu64 (n : Int) : IntKind.u64.wrap n = n % 18446744073709551616 := by simp [IntKind.wrap, IntKind.bits, IntKind.signed]
theorem cB_fl (l : List Int) : flL (cB l) = true := by
  induction l with
  | nil => rfl
  | cons a l ih => exact ih
theorem cB_cells (st : St) (l : List Int) : okCells st (cB l) = True := eq_true (okF_cells (cB_okF l) st)
def digestF (b : List Int) : List Int := out32 (sumS (absorb W0 b (b.length / 64)) (b.drop (64 * (b.length / 64))) (IN b.length))
theorem of_con (b : List Int) (hb : b.length ≤ 100000) : Con Try.prog 12 [] [fB b] [] (.ag (cB (digestF b))) := by
  refine con_j b12 rfl ?_
  sym =>
  simp [Zab,Zad,Zak,Zam,Zay,Zaz,Za0,Za1,Za2,Za3,Za4,Za5,Za9,Zba,Zbb,Zcv,Zc3,Zdc,Zdd,Zde,Zqx,Zqy,Zqz,Zq0,Zq1,Zdi,Zev,Zew,Zez,Ze0,Ze1,Ze2,Ze3,Ze5,Zfc,Zfd,Zfe,Zfh,Zin,Ziu,Ziv,Ziw,Zi6,Zjl,Zjm,Zjp,Zju,Zj9,Zkv,Zla,Zlb,Zle,Zll,Zlu,Zly,Zlz,Zl0,Zl1,Zq3,Zl2,Zmn,Zmt,Zmv,Zmw,Zmy,Zm0,Zm1,Zm2,Zm5,Zna,Znb,Zne,Znf,Zng,Zos,Zot,Zo7,Zp8,List.length_drop,List.length_replicate,eq_self,true_and,and_true,Nat.zero_add,callable_14]
  tactic =>
  refine cl (some ⟨cSt W0 [] 0, 1, 0⟩) new_con ?_ ?_
  · exact ⟨rfl, cSt_okI _ _ _⟩
  have eg : IntKind.u64.wrap (0 + IntKind.u64.wrap (IN b.length)) = IN b.length := by
    simp only [IN]; rw [wu64, wu64]; omega
  obtain ⟨S', hS'⟩ : ∃ S', S' = absorb W0 b (b.length / 64) := ⟨_, rfl⟩
  obtain ⟨l', hl'⟩ : ∃ l', l' = b.drop (64 * (b.length / 64)) := ⟨_, rfl⟩
  have hw := write_con W0 [] b 0 rfl (Nat.zero_le _) hb S' l' (IN b.length) hS' hl' eg
  sym =>
  simp [Zab,Zad,Zak,Zam,Zay,Zaz,Za0,Za1,Za2,Za3,Za4,Za5,Za9,Zba,Zbb,Zcv,Zc3,Zdc,Zdd,Zde,Zqx,Zqy,Zqz,Zq0,Zq1,Zdi,Zev,Zew,Zez,Ze0,Ze1,Ze2,Ze3,Ze5,Zfc,Zfd,Zfe,Zfh,Zin,Ziu,Ziv,Ziw,Zi6,Zjl,Zjm,Zjp,Zju,Zj9,Zkv,Zla,Zlb,Zle,Zll,Zlu,Zly,Zlz,Zl0,Zl1,Zq3,Zl2,Zmn,Zmt,Zmv,Zmw,Zmy,Zm0,Zm1,Zm2,Zm5,Zna,Znb,Zne,Znf,Zng,Zos,Zot,Zo7,Zp8,List.length_drop,List.length_replicate,eq_self,true_and,and_true,Nat.zero_add,callable_15]
  tactic =>
  refine clM ⟨cSt S' l' (IN b.length), 1, 0⟩ none hw ?_ ?_
  · exact ⟨rfl, cSt_okI _ _ _, rfl⟩
  have hSl : S'.length = 8 := by rw [hS', absorb_length _ _ rfl]
  have hll : l'.length ≤ 1000 := by rw [hl', List.length_drop]; omega
  sym =>
  simp [Zab,Zad,Zak,Zam,Zay,Zaz,Za0,Za1,Za2,Za3,Za4,Za5,Za9,Zba,Zbb,Zcv,Zc3,Zdc,Zdd,Zde,Zqx,Zqy,Zqz,Zq0,Zq1,Zdi,Zev,Zew,Zez,Ze0,Ze1,Ze2,Ze3,Ze5,Zfc,Zfd,Zfe,Zfh,Zin,Ziu,Ziv,Ziw,Zi6,Zjl,Zjm,Zjp,Zju,Zj9,Zkv,Zla,Zlb,Zle,Zll,Zlu,Zly,Zlz,Zl0,Zl1,Zq3,Zl2,Zmn,Zmt,Zmv,Zmw,Zmy,Zm0,Zm1,Zm2,Zm5,Zna,Znb,Zne,Znf,Zng,Zos,Zot,Zo7,Zp8,List.length_drop,List.length_replicate,eq_self,true_and,and_true,Nat.zero_add,callable_16]
  tactic =>
  refine cl none (sum_con S' l' (IN b.length) hSl hll) trivial ?_
  have hgo : digestF b = out32 (sumS S' l' (IN b.length)) := by rw [digestF, ← hS', ← hl']
  rw [hgo]
  obtain ⟨X, hX⟩ : ∃ X, X = out32 (sumS S' l' (IN b.length)) := ⟨_, rfl⟩
  have hXl : X.length = 32 := by rw [hX, out32_length]
  rw [← hX]
  have hr : rdb (cB X) 0 32 = cB X := rdb_all (by rw [cB_length, hXl])
  have hs : spl (List.replicate 32 (.sc (.int .u8 0))) 0 (cB X) = cB X := spl_new _ _ (by rw [cB_length, hXl]; simp)
  have hf := cB_fl X
  sym =>
  simp [Zab,Zad,Zak,Zam,Zay,Zaz,Za0,Za1,Za2,Za3,Za4,Za5,Za9,Zba,Zbb,Zcv,Zc3,Zdc,Zdd,Zde,Zqx,Zqy,Zqz,Zq0,Zq1,Zdi,Zev,Zew,Zez,Ze0,Ze1,Ze2,Ze3,Ze5,Zfc,Zfd,Zfe,Zfh,Zin,Ziu,Ziv,Ziw,Zi6,Zjl,Zjm,Zjp,Zju,Zj9,Zkv,Zla,Zlb,Zle,Zll,Zlu,Zly,Zlz,Zl0,Zl1,Zq3,Zl2,Zmn,Zmt,Zmv,Zmw,Zmy,Zm0,Zm1,Zm2,Zm5,Zna,Znb,Zne,Znf,Zng,Zos,Zot,Zo7,Zp8,List.length_drop,List.length_replicate,eq_self,true_and,and_true,Nat.zero_add,hr,hs,cB_length,hXl,cB_cells,hf]
  tactic =>
  refine endA ?_
  sym =>
  simp [Zab,Zad,Zak,Zam,Zay,Zaz,Za0,Za1,Za2,Za3,Za4,Za5,Za9,Zba,Zbb,Zcv,Zc3,Zdc,Zdd,Zde,Zqx,Zqy,Zqz,Zq0,Zq1,Zdi,Zev,Zew,Zez,Ze0,Ze1,Ze2,Ze3,Ze5,Zfc,Zfd,Zfe,Zfh,Zin,Ziu,Ziv,Ziw,Zi6,Zjl,Zjm,Zjp,Zju,Zj9,Zkv,Zla,Zlb,Zle,Zll,Zlu,Zly,Zlz,Zl0,Zl1,Zq3,Zl2,Zmn,Zmt,Zmv,Zmw,Zmy,Zm0,Zm1,Zm2,Zm5,Zna,Znb,Zne,Znf,Zng,Zos,Zot,Zo7,Zp8,List.length_drop,List.length_replicate,eq_self,true_and,and_true,Nat.zero_add]
  tactic =>
  exact rs_self (cB_okI X)
end Go.Proofs.Ytdjjibmjinllnaa.DigB
