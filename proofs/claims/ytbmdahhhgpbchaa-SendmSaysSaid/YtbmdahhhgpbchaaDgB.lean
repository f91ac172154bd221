import Derived.Test.YtbmdahhhgpbchaaDgA
namespace Go.Proofs.Ytbmdahhhgpbchaa.DgB
open Go Go.Sim Go.Sim.E Go.RowKit Go.Proofs Go.Proofs.Ytbmdahhhgpbchaa.Cod Go.Proofs.Ytbmdahhhgpbchaa.Tab Go.Proofs.Ytbmdahhhgpbchaa.Bse Go.Proofs.Ytbmdahhhgpbchaa.DgA
set_option linter.unusedVariables false
set_option linter.unusedSimpArgs false
set_option maxRecDepth 100000
set_option maxHeartbeats 4000000
abbrev ag8 (S : List Int) : AV := .ag [U (S.getD 0 0), U (S.getD 1 0), U (S.getD 2 0), U (S.getD 3 0), U (S.getD 4 0), U (S.getD 5 0), U (S.getD 6 0), U (S.getD 7 0)]
abbrev cSt (S l : List Int) (g : Int) : List AV := [Bo true, U (S.getD 0 0), U (S.getD 1 0), U (S.getD 2 0), U (S.getD 3 0), U (S.getD 4 0), U (S.getD 5 0), U (S.getD 6 0), U (S.getD 7 0), fB l, L g]
theorem block_length (S b : List Int) : (block S b).length = 8 := by rw [block, sums_length, runs_length]
theorem block_con' (S b : List Int) (hS : S.length = 8) (hb : 64 ≤ b.length) : Con Try.prog 138 [] [ag8 S, fB b] [] (ag8 (block S b)) := by
  have h := block_con S b hS hb
  rwa [cU8 S hS, cU8 _ (block_length S b)] at h
theorem first_con' : Con Try.prog 136 [] [] [] (ag8 W0) := first_con
theorem new_con : Con Try.prog 116 [] [] [(0, ⟨cSt W0 [] 0, 1, 0⟩)] (.pt 0 0) := by
  refine con_o b116 rfl ?_
  sym =>
  simp [Zab,Zad,Zam,Zaz,Za0,Za1,Za2,Za4,Za5,Za9,Zba,Zbb,Zdc,Zdd,Zde,Zew,Ze0,Ze2,Zfd,Zfh,Zla,Zna,Znb,Zne,Znf,Zos,Zo7,eq_self,true_and,callable_136]
  tactic =>
  refine cl none (first_con') trivial ?_
  sym =>
  simp [Zak,Zam,Zaz,Za0,Za1,Za2,Za3,Za4,Za5,Za9,Zba,Zbb,Zb9,Zcx,Zdi,Zev,Zew,Zez,Ze0,Ze2,Ze3,Zfd,Zfe,Zfh,Zhd,Zhe,Zhf,Zhg,Zhh,Zio,Zip,Zi6,Zi8,Zjq,Zkv,Zkw,Zkx,Zlz,Zmt,Zmv,Zmw,Zmx,Zmz,Zm2,Zna,Znb,Znn,Zno,Znp,Zo7,eq_self,true_and,and_true]
  tactic =>
  refine endO [(0, 3)] (nx := 4) ?_
  sym =>
  simp [Za2,Zfc,Znr,Zpa,Zpu,Zpv,Zqb,Zqc,Zqh,Zqi,Zqk,Zql,Zqm,Zqn,eq_self,true_and,and_true]
  tactic =>
  rfl
def absorb (S all : List Int) : Nat → List Int
  | 0 => S
  | m + 1 => block (absorb S all m) (all.drop (64 * m))
theorem absorb_length (S all : List Int) (h : S.length = 8) : ∀ m, (absorb S all m).length = 8
  | 0 => h
  | m + 1 => block_length _ _
def i15 (S l all : List Int) (g : Int) (k : Nat) (s : St) : Prop := ∃ m : Nat, 64 * m ≤ all.length ∧ k = all.length - 64 * m ∧ s = ⟨[(0, .pt 0 0), (4, .lv 1 (64 * m) (all.length - 64 * m))], [(0, ⟨cSt (absorb S all m) l g, 1, 0⟩), (1, ⟨cB all, 1, 0⟩)], 2⟩
theorem write_con (S l b : List Int) (g : Int) (hS : S.length = 8) (hl : l.length ≤ 1000) (hb : b.length ≤ 100000) (S' l' : List Int) (g' : Int)
    (eS : S' = absorb S (l ++ b) ((l ++ b).length / 64)) (el : l' = (l ++ b).drop (64 * ((l ++ b).length / 64))) (eg : IntKind.u64.wrap (g + IntKind.u64.wrap (IN b.length)) = g') : Con Try.prog 117 [(0, ⟨cSt S l g, 1, 0⟩)] [.pt 0 0, fB b] [(0, ⟨cSt S' l' g', 1, 0⟩)] (.tu []) := by
  refine con_n b117 rfl ?_
  sym =>
  simp [Zab,Zad,Za5,Za9,Zba,Zbb,Zdc,Zdd,Zde,Zev,Zew,Zez,Ze0,Ze2,Ze5,Zfc,Zfd,Zfe,Zfh,Zjl,Zjm,Zjp,Zju,Zj9,Zla,Zlb,Zle,Zlu,Zly,Zna,Znb,Zne,Znf,Zng,Zos,Zot,eq_self,true_and,and_true,Nat.zero_add,callable_137]
  tactic =>
  refine cl none (ok_con' _ rfl (by simp)) trivial ?_
  sym =>
  simp [Zaa,Zab,Zad,Zae,Zaf,Zal,Zam,Zaz,Za0,Za1,Za2,Za3,Za4,Za5,Za9,Zba,Zbb,Zbf,Zbj,Zbl,Zbt,Zbv,Zcd,Zcn,Zc3,Zdc,Zdd,Zde,Zdi,Zev,Zew,Zez,Ze0,Ze1,Ze2,Ze3,Ze5,Ze8,Zfc,Zfd,Zfe,Zfh,Zfn,Zfq,Zgd,Zgg,Zgh,Zgi,Zgr,Zgs,Zgt,Zgv,Zgw,Zgx,Zhj,Zhk,Zh6,Zh7,Ziu,Ziv,Ziw,Zi7,Zjh,Zji,Zjn,Zjw,Zla,Zlb,Zle,Zll,Zlz,Zm6,Zm9,Zna,Znb,Zne,Znf,Zng,Znn,Zno,Znp,Zo3,Zo7,eq_self,true_and,and_true,callable_68,eg]
  tactic =>
  refine cl (some ⟨cB l, 1, 0⟩) (bclone_con l (by omega)) ?_ ?_
  · exact ⟨rfl, cB_okI l⟩
  sym =>
  simp [Zad,Zag,Zah,Zam,Zaz,Za0,Za1,Za2,Za3,Za4,Za5,Za9,Zba,Zbb,Zc5,Zdi,Zev,Zez,Ze0,Ze2,Ze3,Ze4,Ze5,Zfc,Zfd,Zfe,Zff,Zfg,Zfh,Zix,Ziz,Zi0,Zi1,Zl0,Zl1,Zl2,Zmk,Zo7,List.length_append,List.length_drop,List.length_map,eq_self,true_and,Nat.mul_one,cB_length]
  tactic =>
  refine ⟨⟨cB_okF b, by omega, by omega, by omega⟩, ?_⟩
  obtain ⟨A, hA⟩ : ∃ A, A = l ++ b := ⟨_, rfl⟩
  have hAl : A.length = l.length + b.length := by rw [hA, List.length_append]
  rw [← hA] at eS el
  refine lpA (i15 S l A g') A.length [(0, 0), (1, 21)] _ ⟨0, by omega, by omega, rfl⟩ (wkM ?_) ?_
  · sym =>
    simp [Za2,Za3,Zez,Zfc,Znr,Zpa,Zpg,Zpo,Zpu,Zqb,Zqc,Zq5,Zq6,Zqf,Zqg,Zqh,Zqi,Zqk,Zql,Zqm,Zqn,Zqr,eq_self,true_and,and_true,Nat.sub_zero]
    tactic =>
    exact ⟨hAl.symm, by simp only [absorb, and_self], cB_rs _ _ _ _ _ (by rw [hA, cB_append])⟩
  rintro k s ⟨m, hm, hk, rfl⟩
  have hSl := absorb_length S A hS m
  obtain ⟨T, hT⟩ : ∃ T, T = absorb S A m := ⟨_, rfl⟩
  rw [← hT] at hSl ⊢
  by_cases h : 64 ≤ A.length - 64 * m
  · have hI : IN (A.length - 64 * m) ≥ (64 : Int) := by simp only [IN]; omega
    obtain ⟨D, hD⟩ : ∃ D, D = A.drop (64 * m) := ⟨_, rfl⟩
    have hDl : D.length = A.length - 64 * m := by rw [hD, List.length_drop]
    have hdt : List.take (A.length - 64 * m) (List.drop (64 * m) (cB A)) = cB D := by
      rw [hD, cB, ← List.map_drop]; exact List.take_of_length_le (by simp)
    have hc := block_con' T D hSl (by omega)
    simp only [fB, hDl] at hc
    sym =>
    simp [Zaa,Zab,Zad,Zae,Zaf,Zag,Zal,Zam,Zaz,Za0,Za1,Za2,Za3,Za4,Za5,Za9,Zba,Zbb,Zbf,Zbt,Zbv,Zcd,Zcn,Zdc,Zdd,Zde,Zev,Zew,Zez,Ze0,Ze2,Ze5,Ze8,Zfc,Zfd,Zfe,Zfh,Zfn,Zf4,Zgr,Zgs,Zgt,Zgv,Zgw,Zgx,Zhj,Zhk,Zh6,Zh9,Zla,Zlb,Zlc,Zld,Zle,Zlf,Zlh,Zlk,Zlt,Zlx,Zm5,Zm7,Zm9,Zna,Znb,Znc,Zne,Znf,Zng,Zo7,Zo8,eq_self,true_and,and_true,Nat.mul_one,hI,callable_138,hdt]
    tactic =>
    refine ⟨⟨by rw [cB_length]; omega, cB_okI A⟩, ?_⟩
    refine cl none (hc) trivial ?_
    sym =>
    simp [Zab,Zam,Zap,Zav,Zaz,Za0,Za1,Za2,Za3,Za4,Za5,Za9,Zba,Zbb,Zbv,Zcd,Zch,Zc3,Zdi,Zev,Zew,Zez,Ze0,Ze1,Ze2,Ze3,Ze5,Ze9,Zfc,Zfd,Zfe,Zfh,Zgv,Zgw,Zgx,Zhj,Zhk,Zhm,Zhn,Zho,Zhs,Zhx,Zhy,Ziu,Ziv,Ziw,Zi6,Zjh,Zji,Zjn,Zjq,Zkv,Zkw,Zkx,Zlz,Zna,Znb,Znn,Zno,Znp,Zns,Znu,Zrd,Zo7,eq_self,true_and,and_true]
    tactic =>
    refine ⟨⟨hI, by omega, by omega⟩, ?_⟩
    unfold NextL; refine ⟨(k - 64), [(0, 0), (1, 1)], _, by omega, ⟨m + 1, by omega, by omega, rfl⟩, wkM ?_⟩
    sym =>
    simp [Za2,Za3,Zez,Zfc,Znr,Zpa,Zpg,Zpo,Zpu,Zqb,Zqc,Zq5,Zq6,Zqf,Zqg,Zqh,Zqi,Zqk,Zql,Zqm,Zqn,Zqr,eq_self,true_and,and_true]
    tactic =>
    refine ⟨⟨by omega, by omega⟩, ?_, rs_self (cB_okI A)⟩
    rw [absorb, ← hT, ← hD]
    simp only [and_self]
  · have hI : ¬ IN (A.length - 64 * m) ≥ (64 : Int) := by simp only [IN]; omega
    sym =>
    simp [Zab,Zad,Zae,Zaf,Zai,Zam,Zan,Zaq,Zaw,Zaz,Za0,Za1,Za2,Za3,Za4,Za5,Za9,Zba,Zbb,Zbf,Zbv,Zcd,Zcn,Zc3,Zev,Zew,Zez,Ze0,Ze1,Ze2,Ze3,Ze5,Zfc,Zfd,Zfe,Zfh,Zfn,Zf4,Zgv,Zgw,Zgx,Zhj,Zhk,Zh6,Zh9,Ziu,Ziv,Ziw,Zje,Zjg,Zjh,Zji,Zkl,Zmu,Zmv,Zmw,Zm4,Zna,Znb,Znn,Zno,Znp,Znr,Zo7,Zo9,eq_self,true_and,and_true,hI]
    tactic =>
    have hmm : A.length / 64 = m := by omega
    rw [hmm] at eS el
    have hTS : T = S' := by rw [hT, eS]
    subst hTS
    refine endM [(0, 0)] 1 ?_
    sym =>
    simp [Za2,Zfc,Zpa,Zpy,Zp1,Zp2,Zp3,Zp9,Zqb,Zqc,Zqd,Zq5,Zq6,Zqh,Zqi,Zqk,Zql,Zqm,Zqn,Zqo,List.length_drop,List.length_map,eq_self,true_and,and_true,Nat.mul_one]
    tactic =>
    refine ⟨by rw [el, List.length_drop], ?_, by rw [cB_length]; omega, cB_okI A⟩
    rw [el]
    symm
    rw [cB, cB, ← List.map_drop]
    exact List.take_of_length_le (by simp)
/-- A sum's bytes. -/
def out32 (S : List Int) : List Int := (List.range 32).map fun i => IntKind.u8.wrap ((S.getD (i / 4) 0).fdiv (2 ^ (8 * (3 - i % 4))))
def sumS (S l : List Int) (g : Int) : List Int := absorb S (fill l g) ((fill l g).length / 64)
def oPart (S : List Int) (i : Nat) : List Int := (out32 S).take i ++ List.replicate (32 - i) 0
theorem out32_length (S : List Int) : (out32 S).length = 32 := by simp [out32]
theorem oPart_length (S : List Int) (i : Nat) (h : i ≤ 32) : (oPart S i).length = 32 := by simp [oPart, out32_length]; omega
theorem oPart_step (S : List Int) (i : Nat) (h : i < 32) : (oPart S i).set i (IntKind.u8.wrap ((S.getD (i / 4) 0).fdiv (2 ^ min (8 * (3 - i % 4)) IntKind.u32.bits))) = oPart S (i + 1) := by
  have e : min (8 * (3 - i % 4)) IntKind.u32.bits = 8 * (3 - i % 4) := by simp only [IntKind.bits]; omega
  rw [e]
  have hg : (out32 S)[i]? = some (IntKind.u8.wrap ((S.getD (i / 4) 0).fdiv (2 ^ (8 * (3 - i % 4))))) := by simp [out32, List.getElem?_range h]
  have hl : ((out32 S).take i).length = i := by simp [out32_length]; omega
  unfold oPart
  rw [List.take_add_one, hg, List.set_append_right _ _ (by omega), hl, Nat.sub_self, show 32 - i = (32 - (i + 1)) + 1 from by omega, List.replicate_succ]
  simp
theorem oPart_all (S : List Int) : oPart S 32 = out32 S := by
  rw [oPart, List.take_of_length_le (by rw [out32_length]; exact Nat.le_refl _)]
  simp
abbrev z32 : List AV := List.replicate 32 (Y 0)
theorem z32_okI : okI z32 := cB_okI (List.replicate 32 0)
def i16 (S P : List Int) (k : Nat) (s : St) : Prop := ∃ m : Nat, 64 * m ≤ P.length ∧ k = P.length - 64 * m ∧ s = ⟨[(2, .pt 0 0), (3, .pt 1 0), (4, .pt 2 0), (5, .lv 3 (64 * m) (P.length - 64 * m))], [(0, ⟨List.replicate 32 (Y 0), 1, 0⟩), (1, ⟨List.replicate 32 (Y 0), 1, 0⟩), (2, ⟨[U ((absorb S P m).getD 0 0), U ((absorb S P m).getD 1 0), U ((absorb S P m).getD 2 0), U ((absorb S P m).getD 3 0), U ((absorb S P m).getD 4 0), U ((absorb S P m).getD 5 0), U ((absorb S P m).getD 6 0), U ((absorb S P m).getD 7 0)], 1, 0⟩), (3, ⟨cB P, 1, 0⟩)], 4⟩
def j16 (S : List Int) (k : Nat) (s : St) : Prop := ∃ i : Nat, i + k = 32 ∧ s = ⟨[(2, .pt 0 0), (3, .pt 1 0), (4, .pt 2 0), (25, I (IN i))], [(0, ⟨List.replicate 32 (Y 0), 1, 0⟩), (1, ⟨cB (oPart S i), 1, 0⟩), (2, ⟨cU S, 1, 0⟩)], 3⟩
theorem fill_length (l : List Int) (g : Int) : (fill l g).length % 64 = 0 ∧ (fill l g).length ≤ l.length + 100 := by
  have h : (fill l g).length = l.length + 1 + padz l.length + 8 := by rw [← pad2_all, pad2_length _ _ _ (by omega)]
  rw [h]; simp only [padz]; omega
theorem sum_con (S l : List Int) (g : Int) (hS : S.length = 8) (hl : l.length ≤ 1000) : Con Try.prog 118 [] [.fp (cSt S l g) 0] [] (.ag (cB (out32 (sumS S l g)))) := by
  refine con_j b118 rfl ?_
  sym =>
  simp [Zab,Zad,Zam,Zay,Za4,Za5,Za9,Zba,Zbb,Zcv,Zdc,Zdd,Zde,Zev,Zew,Zez,Ze0,Ze2,Ze3,Zfd,Zfe,Zfh,Zin,Zla,Zlb,Zle,Zln,Zna,Znb,Zne,Znf,Zng,Zos,Zot,eq_self,true_and,and_true,Nat.zero_add,callable_137]
  tactic =>
  refine cl none (ok_con' _ rfl (by simp)) trivial ?_
  sym =>
  simp [Zaa,Zab,Zad,Zae,Zaf,Zal,Zam,Zaz,Za0,Za1,Za2,Za3,Za4,Za5,Za9,Zba,Zbb,Zbj,Zbt,Zbv,Zcd,Zcv,Zc3,Zdc,Zdd,Zde,Zdi,Zev,Zew,Zez,Ze0,Ze1,Ze2,Ze3,Ze5,Zfc,Zfd,Zfe,Zfh,Zgd,Zgg,Zgr,Zgu,Zgw,Zgy,Zhj,Zhl,Zin,Ziu,Ziv,Ziw,Zi6,Zjh,Zji,Zjn,Zjw,Zla,Zlb,Zle,Zln,Zlz,Zm5,Zm7,Zm9,Zna,Znb,Zne,Znf,Zng,Znn,Zno,Znp,Zo3,Zo7,eq_self,true_and,and_true,callable_139]
  tactic =>
  have hf := fill_con (cSt S l g) l g rfl rfl rfl hl
  obtain ⟨P, hP⟩ : ∃ P, P = fill l g := ⟨_, rfl⟩
  have hP1 := fill_length l g
  have hgo : sumS S l g = absorb S P (P.length / 64) := by rw [hP, sumS]
  rw [← hP] at hf hP1
  rw [hgo]
  refine cl (some ⟨cB P, 1, 0⟩) hf ?_ ?_
  · exact ⟨rfl, cB_okI P⟩
  sym =>
  simp [Zag,Zah,Zam,Zaz,Za0,Za1,Za2,Za3,Za4,Za5,Za9,Zba,Zbb,Zdi,Zev,Zez,Ze0,Ze2,Zfd,Zfe,Zfh,Zl0,Zl1,Zl2,Zmk,Zo7,List.length_drop,List.length_map,eq_self,true_and]
  tactic =>
  refine lpA (i16 S P) P.length [(0, 0), (1, 1), (2, 9), (3, 12)] _ ⟨0, by omega, by omega, rfl⟩ (wkA ?_) ?_
  · sym =>
    simp [Za2,Za3,Zez,Zfc,Znr,Zpa,Zpo,Zpu,Zqb,Zqc,Zqf,Zqg,Zqh,Zqi,Zqk,Zql,Zqm,Zqn,Zqr,eq_self,true_and,and_true,Nat.sub_zero]
    tactic =>
    exact ⟨rs_self z32_okI, rs_self z32_okI, ⟨rfl, rfl, rfl, rfl, rfl, rfl, rfl, rfl⟩, rs_self (cB_okI P)⟩
  rintro k s ⟨m, hm, hk, rfl⟩
  have hSl := absorb_length S P hS m
  obtain ⟨T, hT⟩ : ∃ T, T = absorb S P m := ⟨_, rfl⟩
  rw [← hT] at hSl ⊢
  by_cases h : 0 < P.length - 64 * m
  · have hI : IN (P.length - 64 * m) > (0 : Int) := by simp only [IN]; omega
    obtain ⟨D, hD⟩ : ∃ D, D = P.drop (64 * m) := ⟨_, rfl⟩
    have hDl : D.length = P.length - 64 * m := by rw [hD, List.length_drop]
    have hdt : List.take (P.length - 64 * m) (List.drop (64 * m) (cB P)) = cB D := by
      rw [hD, cB, ← List.map_drop]; exact List.take_of_length_le (by simp)
    have hc := block_con' T D hSl (by omega)
    simp only [fB, hDl] at hc
    sym =>
    simp [Zaa,Zab,Zad,Zae,Zaf,Zag,Zal,Zam,Zaz,Za0,Za1,Za2,Za3,Za4,Za5,Za9,Zba,Zbb,Zbf,Zbt,Zcn,Zdc,Zdd,Zde,Zev,Zew,Zez,Ze0,Ze2,Ze5,Ze8,Zfc,Zfd,Zfe,Zfh,Zfn,Zf3,Zgr,Zgs,Zgt,Zgv,Zh6,Zh9,Zla,Zlb,Zlc,Zld,Zle,Zlf,Zlh,Zlk,Zlt,Zlx,Zm5,Zm7,Zm9,Zna,Znb,Znc,Zne,Znf,Zng,Znx,Zo7,Zo8,eq_self,true_and,and_true,Nat.mul_one,h,callable_138,hdt]
    tactic =>
    refine ⟨⟨by rw [cB_length]; omega, cB_okI P⟩, ?_⟩
    refine cl none (hc) trivial ?_
    sym =>
    simp [Zab,Zam,Zap,Zav,Zaz,Za0,Za1,Za2,Za3,Za4,Za5,Za9,Zba,Zbb,Zch,Zc3,Zdi,Zev,Zew,Zez,Ze0,Ze1,Ze2,Ze3,Ze5,Ze9,Zfc,Zfd,Zfe,Zfh,Zhm,Zhn,Zho,Zhs,Zhx,Zhy,Ziu,Ziv,Ziw,Zi6,Zjh,Zji,Zjn,Zjq,Zkv,Zkw,Zkx,Zlz,Zna,Znb,Znn,Zno,Znp,Zns,Znu,Zrd,Zo7,eq_self,true_and,and_true]
    tactic =>
    refine ⟨⟨by simp only [IN]; omega, by omega, by omega⟩, ?_⟩
    unfold NextL; refine ⟨(k - 64), [(0, 0), (1, 1), (2, 2), (3, 3)], _, by omega, ⟨m + 1, by omega, by omega, rfl⟩, wkA ?_⟩
    sym =>
    simp [Za2,Za3,Zez,Zfc,Znr,Zpa,Zpo,Zpu,Zqb,Zqc,Zqf,Zqg,Zqh,Zqi,Zqk,Zql,Zqm,Zqn,Zqr,eq_self,true_and,and_true]
    tactic =>
    refine ⟨⟨by omega, by omega⟩, rs_self z32_okI, rs_self z32_okI, ?_, rs_self (cB_okI P)⟩
    rw [absorb, ← hT, ← hD]
    simp only [and_self]
  · have hI : ¬ IN (P.length - 64 * m) > (0 : Int) := by simp only [IN]; omega
    sym =>
    simp [Zab,Zad,Zae,Zaf,Zag,Zah,Zai,Zam,Zan,Zaq,Zaw,Zaz,Za0,Za1,Za2,Za3,Za4,Za5,Za9,Zba,Zbb,Zbf,Zcn,Zev,Zew,Zez,Ze0,Ze2,Ze5,Zfc,Zfd,Zfe,Zfh,Zfn,Zf3,Zgv,Zh6,Zh9,Zna,Znb,Znx,Zo7,Zo9,eq_self,true_and,Nat.zero_add,h]
    tactic =>
    have hmm : P.length / 64 = m := by omega
    rw [hmm, ← hT]
    refine lpA (j16 T) 32 [(0, 0), (1, 1), (2, 2)] _ ⟨0, by omega, rfl⟩ (wkA ?_) ?_
    · sym =>
      simp [Za2,Za3,Zez,Zfc,Znr,Zn5,Zpc,Zpu,Zqf,Zqg,Zqh,Zqi,Zqk,Zql,Zqm,Zqn,eq_self,true_and,and_true]
      tactic =>
      exact ⟨rs_self z32_okI, cB_rs _ _ _ _ _ rfl, by rw [cU8 T hSl]; exact rs_self (cU8 T hSl ▸ cU_okI T)⟩
    rintro k2 s ⟨i, hi, rfl⟩
    have hol := oPart_length T i (by omega)
    by_cases h2 : i < 32
    · have hI : IN i < (32 : Int) := by simp only [IN]; omega
      have hw := w64s i (by omega)
      have hq := (q4 i).resolve_right (by omega)
      have hr4 : (IN i).tmod (4 : Int) = IN (i % 4) := by simp only [IN]; rw [Int.tmod_eq_emod_of_nonneg (by omega)]; omega
      have h3 : IntKind.i64.wrap (3 - IN (i % 4)) = IN (3 - i % 4) := by simp only [IN]; rw [w64 _ (by omega)]; omega
      have h8 : IntKind.i64.wrap (8 * IN (3 - i % 4)) = IN (8 * (3 - i % 4)) := by simp only [IN]; rw [w64 _ (by omega)]; omega
      have gT := cU_get T (i / 4) (by omega)
      have hs2 := cB_set (oPart T i) i
      have hst := oPart_step T i h2
      sym =>
      simp [Zaa,Zab,Zad,Zae,Zaf,Zag,Zal,Zam,Zap,Zav,Zay,Zaz,Za0,Za1,Za2,Za3,Za4,Za5,Za9,Zba,Zbb,Zbf,Zbl,Zbt,Zbz,Zc3,Zev,Zew,Zez,Ze0,Ze1,Ze2,Ze3,Ze5,Ze8,Zfc,Zfd,Zfe,Zfh,Zfn,Zfp,Zfq,Zfr,Zfs,Zft,Zfu,Zf1,Zgh,Zgi,Zgr,Zgs,Zgt,Zgv,Zg1,Zg2,Zho,Ziu,Ziv,Ziw,Zi7,Zjh,Zji,Zjn,Zm6,Zna,Znb,Znn,Zno,Zns,Znw,Zoa,Zoc,Zo7,Zo8,eq_self,true_and,and_true,Nat.zero_add,Nat.mul_one,hI,hw,hq,hr4,h3,h8,gT,cB_length,cU_length,hSl,hol,hs2,hst]
      tactic =>
      refine ⟨by simp only [IN]; omega, by omega, by omega, ?_⟩
      unfold NextL; refine ⟨(k2 - 1), [(0, 0), (1, 1), (2, 2)], _, by omega, ⟨i + 1, by omega, rfl⟩, wkA ?_⟩
      sym =>
      simp [Za2,Za3,Zez,Zfc,Znr,Zpc,Zpu,Zqf,Zqg,Zqh,Zqi,Zqk,Zql,Zqm,Zqn,eq_self,true_and,and_true]
      tactic =>
      exact ⟨rs_self z32_okI, rs_self (cB_okI _), rs_self (cU_okI _)⟩
    · have hI : ¬ IN i < (32 : Int) := by simp only [IN]; omega
      have e32 : i = 32 := by omega
      subst e32
      rw [oPart_all]
      obtain ⟨X, hX⟩ : ∃ X, X = out32 T := ⟨_, rfl⟩
      have hXl : X.length = 32 := by rw [hX, out32_length]
      rw [← hX]
      have hr : rdb (cB X) 0 32 = cB X := rdb_all (by rw [cB_length, hXl])
      have hs : spl (List.replicate 32 (.sc (.int .u8 0))) 0 (cB X) = cB X := spl_new _ _ (by rw [cB_length, hXl]; simp)
      sym =>
      simp [Zab,Zad,Zae,Zaf,Zai,Zak,Zam,Zan,Zaq,Zaw,Zay,Zaz,Za0,Za1,Za2,Za3,Za4,Za5,Za9,Zba,Zbf,Zbt,Zc3,Zev,Zew,Zez,Ze0,Ze1,Ze2,Ze3,Ze5,Ze8,Zfc,Zfd,Zfe,Zfn,Zf1,Zgr,Zgs,Zgt,Ziu,Ziv,Ziw,Zi6,Zmt,Zmv,Zmw,Zmy,Zm0,Zm1,Zm2,Zm5,Zna,Znb,Zoc,Zo7,Zo9,List.length_replicate,eq_self,true_and,and_true,hI,hr,hs,cB_length,hXl]
      tactic =>
      refine ⟨okF_cells (cB_okF X) _, endA ?_⟩
      sym =>
      simp [Zp8]
      tactic =>
      exact rs_self (cB_okI X)
theorem cSt_okI (S l : List Int) (g : Int) : okI (cSt S l g) := fun x hx => List.all_eq_true.1 (rfl : (cSt S l g).all isF = true) x hx
def digestF (b : List Int) : List Int := out32 (sumS (absorb W0 b (b.length / 64)) (b.drop (64 * (b.length / 64))) (IN b.length))
theorem of_con (b : List Int) (hb : b.length ≤ 100000) : Con Try.prog 85 [] [fB b] [] (.ag (cB (digestF b))) := by
  refine con_j b85 rfl ?_
  sym =>
  simp [Zab,Zad,Zam,Zay,Za4,Za5,Za9,Zba,Zcv,Zdc,Zdd,Zde,Zew,Ze0,Ze2,Ze3,Zfd,Zfe,Zin,Zla,Zna,Znb,Zne,Znf,Zos,Zot,eq_self,true_and,callable_116]
  tactic =>
  refine cl (some ⟨cSt W0 [] 0, 1, 0⟩) new_con ?_ ?_
  · exact ⟨rfl, cSt_okI _ _ _⟩
  have eg : IntKind.u64.wrap (0 + IntKind.u64.wrap (IN b.length)) = IN b.length := by
    simp only [IN]; rw [wu64, wu64]; omega
  obtain ⟨S', hS'⟩ : ∃ S', S' = absorb W0 b (b.length / 64) := ⟨_, rfl⟩
  obtain ⟨l', hl'⟩ : ∃ l', l' = b.drop (64 * (b.length / 64)) := ⟨_, rfl⟩
  have hw := write_con W0 [] b 0 rfl (Nat.zero_le _) hb S' l' (IN b.length) hS' hl' eg
  sym =>
  simp [Zab,Zad,Zam,Zaz,Za0,Za1,Za2,Za3,Za4,Za5,Za9,Zba,Zbb,Zqx,Zqy,Zqz,Zq0,Zq1,Zdi,Zev,Zew,Zez,Ze0,Ze2,Zfc,Zfd,Zfe,Zfh,Zjl,Zjm,Zjp,Zju,Zj9,Zla,Zlb,Zle,Zll,Zl0,Zl1,Zl2,Zmn,Zna,Znb,Zne,Znf,Zng,Zo7,List.length_drop,eq_self,true_and,and_true,callable_117]
  tactic =>
  refine clM ⟨cSt S' l' (IN b.length), 1, 0⟩ none hw ?_ ?_
  · exact ⟨rfl, cSt_okI _ _ _, rfl⟩
  have hSl : S'.length = 8 := by rw [hS', absorb_length _ _ rfl]
  have hll : l'.length ≤ 1000 := by rw [hl', List.length_drop]; omega
  sym =>
  simp [Zab,Zad,Zam,Zaz,Za0,Za1,Za2,Za3,Za4,Za5,Za9,Zba,Zbb,Zdc,Zdd,Zde,Zdi,Zev,Zew,Zez,Ze0,Ze2,Ze5,Zfc,Zfd,Zfe,Zfh,Zjl,Zjm,Zjp,Zju,Zj9,Zla,Zlb,Zle,Zlu,Zly,Zl1,Zq3,Zl2,Zna,Znb,Zne,Znf,Zng,Zo7,eq_self,true_and,and_true,Nat.zero_add,callable_118]
  tactic =>
  refine cl none (sum_con S' l' (IN b.length) hSl hll) trivial ?_
  have hgo : digestF b = out32 (sumS S' l' (IN b.length)) := by rw [digestF, ← hS', ← hl']
  rw [hgo]
  obtain ⟨X, hX⟩ : ∃ X, X = out32 (sumS S' l' (IN b.length)) := ⟨_, rfl⟩
  have hXl : X.length = 32 := by rw [hX, out32_length]
  rw [← hX]
  have hr : rdb (cB X) 0 32 = cB X := rdb_all (by rw [cB_length, hXl])
  have hs : spl (List.replicate 32 (.sc (.int .u8 0))) 0 (cB X) = cB X := spl_new _ _ (by rw [cB_length, hXl]; simp)
  have hf := cB_fl X
  sym =>
  simp [Zak,Zam,Zaz,Za0,Za1,Za2,Za3,Za4,Za5,Za9,Zba,Zc3,Zdi,Zev,Zez,Ze0,Ze1,Ze2,Ze3,Ze5,Zfc,Zfd,Zfe,Ziu,Ziv,Ziw,Zi6,Zkv,Zlz,Zmt,Zmv,Zmw,Zmy,Zm0,Zm1,Zm2,Zm5,Zo7,List.length_replicate,eq_self,true_and,and_true,hr,hs,cB_length,hXl,cB_cells,hf]
  tactic =>
  refine endA ?_
  sym =>
  simp [Zp8]
  tactic =>
  exact rs_self (cB_okI X)
end Go.Proofs.Ytbmdahhhgpbchaa.DgB
