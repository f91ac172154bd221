import Derived.Test.YtbmdahhhgpbchaaCodA
import Derived.Test.YtbmdahhhgpbchaaCodB
import Derived.Test.YtbmdahhhgpbchaaTab
import Derived.Test.YtbmdahhhgpbchaaBse
import Derived.Test.YtbmdahhhgpbchaaSpnP
namespace Go.Proofs.Ytbmdahhhgpbchaa.SwA
open Go Go.Sim Go.Sim.E Go.RowKit Go.Proofs Go.Proofs.Ytbmdahhhgpbchaa.Cod Go.Proofs.Ytbmdahhhgpbchaa.Tab Go.Proofs.Ytbmdahhhgpbchaa.Bse Go.Proofs.Ytbmdahhhgpbchaa.SpnP
set_option linter.unusedVariables false
set_option linter.unusedSimpArgs false
set_option maxRecDepth 100000
set_option maxHeartbeats 4000000
def enR (p : Rg) : List AV := [I p.1, I p.2]
def cR (l : List Rg) : List AV := l.flatMap enR
abbrev fR (l : List Rg) : AV := .fz l.length (cR l)
def lim (n : Int) : Int := min (max n 0) 4611686018427387904
@[simp] theorem cR_nil : cR [] = [] := rfl
@[simp] theorem cR_length (l : List Rg) : (cR l).length = l.length * 2 := flat_length enR 2 l (fun _ _ => rfl)
theorem cR_append (a b : List Rg) : cR (a ++ b) = cR a ++ cR b := by simp [cR]
theorem cR_cons (r : Rg) (l : List Rg) : cR (r :: l) = I r.1 :: I r.2 :: cR l := rfl
theorem cR_snoc (l : List Rg) (r : Rg) : cR (l ++ [r]) = cR l ++ [I r.1, I r.2] := by rw [cR_append]; rfl
@[simp] theorem cR_okI (l : List Rg) : okI (cR l) := okI_flat (fun a => by simp [enR]) l
@[simp] theorem cR_okF (l : List Rg) : okF (cR l) := okF_flat (fun a => by simp [enR]) l
theorem cR_q0 (l : List Rg) (i : Nat) (h : i < l.length) : (cR l).getD (i * 2) .un = I l[i].1 := by
  have := flat_at enR (s := 2) l (fun _ _ => rfl) i 0 h (by omega)
  rw [List.getD_eq_getElem?_getD]
  simpa [enR, cR, List.getElem?_eq_getElem h] using congrArg (fun x => x.getD AV.un) this
theorem cR_q1 (l : List Rg) (i : Nat) (h : i < l.length) : (cR l).getD (i * 2 + 1) .un = I l[i].2 := by
  have := flat_at enR (s := 2) l (fun _ _ => rfl) i 1 h (by omega)
  rw [List.getD_eq_getElem?_getD]
  simpa [enR, cR, List.getElem?_eq_getElem h] using congrArg (fun x => x.getD AV.un) this
theorem cR_drop (l : List Rg) (i : Nat) : (cR l).drop (i * 2) = cR (l.drop i) := by
  induction l generalizing i with
  | nil => simp
  | cons r l ih =>
    cases i with
    | zero => simp
    | succ i =>
      rw [show (i + 1) * 2 = i * 2 + 2 from by omega]
      show (I r.1 :: I r.2 :: cR l).drop (i * 2 + 2) = cR (l.drop i)
      exact ih i
theorem cR_all (l : List Rg) (k : Nat) (h : l.length * 2 ≤ k) : (cR l).take k = cR l := List.take_of_length_le (by simpa using h)
theorem cR_dt (l : List Rg) (j : Nat) : List.take ((l.length - j) * 2) (List.drop (j * 2) (cR l)) = cR (l.drop j) := by
  rw [cR_drop]; exact cR_all _ _ (by simp)
theorem take_one {α : Type} (l : List α) (i : Nat) (h : i < l.length) : l.take (i + 1) = l.take i ++ [l[i]] := by
  rw [List.take_add_one, List.getElem?_eq_getElem h]; rfl
theorem near_con (a b : Int) : Con Try.prog 130 [] [I a, I b] [] (.ag [I (lim a), I (lim b)]) := by
  refine con_j b130 rfl ?_
  sym =>
  simp [Zab,Zad,Zak,Zam,Zay,Zaz,Za0,Za1,Za2,Za3,Za4,Za5,Za9,Zba,Zbb,Zb9,Zcr,Zct,Zcv,Zc3,Zev,Zew,Zez,Ze0,Ze1,Ze2,Ze3,Ze5,Zfc,Zfd,Zfe,Zfh,Zhd,Zhe,Zhf,Zhg,Zhh,Zie,Zif,Zig,Zih,Zii,Zij,Zik,Zil,Zim,Zin,Ziu,Ziv,Ziw,Zi6,Zi7,Zjh,Zji,Zjn,Zmt,Zmv,Zmw,Zmy,Zm0,Zm1,Zm2,Zm5,Zm7,Zm9,Zna,Znb,Znf,Zng,Znn,Zno,Znp,Zos,Zot,Zo7,eq_self,true_and,and_true]
  tactic =>
  refine endA ?_
  sym =>
  simp [Zpa,Zp8,Zqb,Zqc,Zqr,and_true]
  tactic =>
  exact ⟨rfl, rfl⟩
theorem empty_con (a b : Int) : Con Try.prog 131 [] [.ag [I a, I b]] [] (Bo (decide (b ≤ a))) := by
  refine con_j b131 rfl ?_
  sym =>
  simp [Zab,Zad,Zak,Zam,Zaz,Za0,Za1,Za2,Za3,Za4,Za5,Za9,Zba,Zbb,Zbf,Zbt,Zbv,Zcx,Zev,Zew,Zez,Ze0,Ze2,Ze3,Ze5,Ze8,Zfc,Zfd,Zfe,Zfh,Zfn,Zf2,Zgr,Zgs,Zgt,Zgv,Zgw,Zgx,Zio,Zip,Zi6,Zmt,Zmv,Zmw,Zmx,Zmz,Zm2,Zm6,Zm9,Zna,Znb,Zos,Zot,Zo7,eq_self,true_and]
  tactic =>
  refine endA ?_
  sym =>
  simp [Zpc,eq_self]
theorem touches_con (a b c d : Int) : Con Try.prog 132 [] [.ag [I a, I b], .ag [I c, I d]] [] (Bo (decide (a ≤ d ∧ c ≤ b))) := by
  refine con_j b132 rfl ?_
  by_cases h : a ≤ d
  · sym =>
    simp [Zab,Zad,Zak,Zam,Zaz,Za0,Za1,Za2,Za3,Za4,Za5,Za6,Za7,Za9,Zba,Zbb,Zbd,Zbf,Zbt,Zbv,Zcx,Zev,Zew,Zex,Zez,Ze0,Ze2,Ze3,Ze5,Ze8,Zfc,Zfd,Zfe,Zfh,Zfi,Zfl,Zfn,Zf2,Zgr,Zgs,Zgt,Zgv,Zgw,Zgx,Zio,Zip,Zi6,Zmt,Zmv,Zmw,Zmx,Zmz,Zm2,Zm6,Zm9,Zna,Znb,Zos,Zot,Zo7,Zo8,eq_self,true_and,h]
    tactic =>
    refine endA ?_
    sym =>
    simp [Zpc,eq_self,h]
  · sym =>
    simp [Zab,Zad,Zak,Zam,Zaz,Za0,Za1,Za2,Za3,Za4,Za5,Za6,Za7,Za8,Za9,Zba,Zbb,Zbd,Zbf,Zbt,Zbv,Zcx,Zev,Zew,Zex,Zez,Ze0,Ze2,Ze3,Ze5,Ze8,Zfc,Zfd,Zfe,Zfh,Zfi,Zfk,Zfn,Zf2,Zgr,Zgs,Zgt,Zgv,Zgw,Zgx,Zio,Zip,Zi6,Zmt,Zmv,Zmw,Zmx,Zmz,Zm2,Zm6,Zm9,Zna,Znb,Zos,Zot,Zo7,Zo9,eq_self,true_and,false_and,h]
    tactic =>
    refine endA ?_
    sym =>
    simp [Zpc,eq_self,h]
def sumR (l : List Rg) : Int := l.foldl (fun n r => IntKind.i64.wrap (n + IntKind.i64.wrap (r.2 - r.1))) 0
theorem sumR_append (a : List Rg) (r : Rg) : sumR (a ++ [r]) = IntKind.i64.wrap (sumR a + IntKind.i64.wrap (r.2 - r.1)) := by simp [sumR]
def i36 (l : List Rg) (k : Nat) (s : St) : Prop := ∃ i : Nat, i + k = l.length ∧ s = ⟨[(3, I (sumR (l.take i))), (7, fR l), (8, I (IN l.length)), (9, I (IN i))], [], 0⟩
theorem size_con (l : List Rg) (hl : l.length < 1000000) : Con Try.prog 65 [] [.ag [fR l]] [] (I (sumR l)) := by
  refine con_j b65 rfl ?_
  sym =>
  simp [Zab,Zad,Zag,Zah,Zam,Zay,Zaz,Za0,Za1,Za2,Za3,Za4,Za5,Za9,Zba,Zbb,Zbt,Zbv,Zcn,Zcx,Zev,Zew,Zez,Ze0,Ze2,Ze3,Ze5,Ze8,Zfc,Zfd,Zfe,Zfh,Zgr,Zgs,Zgt,Zgv,Zgw,Zgx,Zh6,Zh7,Zio,Zip,Zi6,Zm6,Zm9,Zna,Znb,Zos,Zot,Zo7,eq_self,true_and]
  tactic =>
  refine lpA (i36 l) l.length [] _ ⟨0, by omega, rfl⟩ (wkA ?_) ?_
  · sym =>
    simp [Zez,Zn5,Zpc,Zpi,Zqf,Zqg,Zqh,Zqm,Zqr,eq_self,and_true]
    tactic =>
    rfl
  rintro k s ⟨i, hi, rfl⟩
  by_cases h : i < l.length
  · have hi' := h
    have hw := w64s i (by omega)
    have h0 := cR_q0 l i hi'
    have h1 := cR_q1 l i hi'
    sym =>
    simp [Zaa,Zab,Zad,Zae,Zaf,Zag,Zal,Zam,Zap,Zav,Zay,Zaz,Za0,Za1,Za2,Za3,Za4,Za5,Za9,Zba,Zbb,Zbf,Zbt,Zbv,Zb1,Zcv,Zc3,Zev,Zew,Zez,Ze0,Ze1,Ze2,Ze3,Ze5,Ze8,Zfc,Zfd,Zfe,Zfh,Zfn,Zfq,Zfr,Zf1,Zgr,Zgs,Zgt,Zgu,Zgv,Zgw,Zgx,Zg4,Zg6,Zho,Zin,Ziu,Ziv,Ziw,Zi6,Zjh,Zji,Zjn,Zm5,Zm6,Zm7,Zm9,Zna,Znb,Znn,Zno,Znp,Zns,Znt,Znw,Zo7,Zo8,eq_self,true_and,and_true,h,hw,h0,h1,cR_length]
    tactic =>
    and_intros <;> try (first | omega | rfl | assumption | exact cR_okF _ | exact cR_okI _ | exact rs_self (cR_okI _) | (symm; refine List.take_of_length_le ?_; simp <;> omega))
    unfold NextL; refine ⟨(k - 1), [], _, by omega, ⟨i + 1, by omega, rfl⟩, wkA ?_⟩
    sym =>
    simp [Zez,Zpc,Zpi,Zqf,Zqg,Zqh,Zqm,Zqr,eq_self,and_true]
    tactic =>
    rw [take_one l i hi', sumR_append]
  · sym =>
    simp [Zab,Zad,Zae,Zaf,Zai,Zak,Zam,Zan,Zaq,Zaw,Zay,Zaz,Za0,Za1,Za2,Za3,Za4,Za5,Za9,Zba,Zbb,Zbf,Zev,Zez,Ze0,Ze2,Zfd,Zfe,Zfh,Zfn,Zf1,Zmt,Zmv,Zmw,Zmx,Zmz,Zm2,Zna,Znb,Znt,Zo7,Zo9,eq_self,true_and,h]
    tactic =>
    refine endA ?_
    sym =>
    simp [Zpc,Zqr]
    tactic =>
    rw [show l.take i = l from List.take_of_length_le (by omega)]

theorem add_step (x : Rg) (l : List Rg) (i : Nat) (h : i < l.length) (h2 : l[i].2 < x.1) (he : add x l = l.take i ++ add x (l.drop i)) : add x l = l.take (i + 1) ++ add x (l.drop (i + 1)) := by
  rw [he, List.drop_eq_getElem_cons h, take_one l i h, List.append_assoc]
  simp [add, h2]
theorem add_stop (x : Rg) (l : List Rg) (i : Nat) (h : (hi : i < l.length) → ¬ l[i].2 < x.1) (he : add x l = l.take i ++ add x (l.drop i)) : add x l = l.take i ++ merge x (l.drop i) := by
  rw [he]
  by_cases hi : i < l.length
  · rw [List.drop_eq_getElem_cons hi]
    simp [add, h hi]
  · rw [List.drop_of_length_le (by omega)]; rfl
theorem merge_step (x : Rg) (l : List Rg) (i : Nat) (h : i < l.length) (h1 : l[i].1 ≤ x.2) (h2 : x.1 ≤ l[i].2) : merge x (l.drop i) = merge (min x.1 l[i].1, max x.2 l[i].2) (l.drop (i + 1)) := by
  rw [List.drop_eq_getElem_cons h]
  simp [merge, h1, h2]
theorem merge_stop (x : Rg) (l : List Rg) (i : Nat) (h : (hi : i < l.length) → ¬ (l[i].1 ≤ x.2 ∧ x.1 ≤ l[i].2)) : merge x (l.drop i) = x :: l.drop i := by
  by_cases hi : i < l.length
  · rw [List.drop_eq_getElem_cons hi]
    simp only [merge, if_neg (h hi)]
  · rw [List.drop_of_length_le (by omega)]; rfl
theorem cR_take_one (l : List Rg) (i : Nat) (h : i < l.length) : cR (l.take (i + 1)) = cR (l.take i) ++ [I l[i].1, I l[i].2] := by rw [take_one l i h, cR_snoc]
def i43 (l : List Rg) (xa xb : Int) (k : Nat) (s : St) : Prop := ∃ i : Nat, i + k = l.length ∧ add (xa, xb) l = l.take i ++ add (xa, xb) (l.drop i) ∧
  s = ⟨[(3, .pt 0 0), (6, .pt 1 0), (7, .pt 2 0), (8, .lv 3 0 i), (9, I (IN i))], [(0, ⟨[fR l], 1, 0⟩), (1, ⟨[.nl], 1, 0⟩), (2, ⟨[I xa, I xb], 1, 0⟩), (3, ⟨cR (l.take i), 2, 0⟩)], 4⟩
def j43 (l : List Rg) (xa xb : Int) (i : Nat) (k : Nat) (s : St) : Prop := ∃ j : Nat, ∃ x : Rg, j + k = l.length ∧ add (xa, xb) l = l.take i ++ merge x (l.drop j) ∧
  s = ⟨[(3, .pt 0 0), (6, .pt 1 0), (7, .pt 2 0), (8, .lv 3 0 i), (9, I (IN j))], [(0, ⟨[fR l], 1, 0⟩), (1, ⟨[.nl], 1, 0⟩), (2, ⟨[I x.1, I x.2], 1, 0⟩), (3, ⟨cR (l.take i), 2, 0⟩)], 4⟩
theorem add_con (l : List Rg) (hl : l.length < 1000000) (a b : Int) : Con Try.prog 104 [] [.ag [fR l], I a, I b] [] (.ag [fR (if lim b ≤ lim a then l else add (lim a, lim b) l)]) := by
  refine con_j b104 rfl ?_
  sym =>
  simp [Zab,Zad,Zaj,Zam,Zaz,Za0,Za1,Za2,Za3,Za4,Za5,Za9,Zba,Zbb,Zcv,Zcx,Zdc,Zdd,Zde,Zev,Zew,Zez,Ze0,Ze2,Ze3,Zfd,Zfe,Zfh,Zin,Zio,Zip,Zi6,Zla,Zlb,Zle,Zlj,Zna,Znb,Zne,Znf,Zng,Zos,Zot,Zo7,eq_self,true_and,and_true,callable_130]
  tactic =>
  refine cl none (near_con a b) trivial ?_
  sym =>
  simp [Zab,Zad,Zam,Zaz,Za0,Za1,Za2,Za3,Za4,Za5,Za9,Zba,Zbt,Zcv,Zc3,Zdc,Zdd,Zde,Zdi,Zev,Zew,Zez,Ze0,Ze1,Ze2,Ze3,Ze5,Ze8,Zfc,Zfd,Zfe,Zgr,Zgs,Zgt,Zin,Ziu,Ziv,Ziw,Zi6,Zjh,Zji,Zjn,Zjq,Zkv,Zkw,Zkx,Zla,Zlb,Zlc,Zld,Zle,Zlf,Zlh,Zlk,Zlz,Zm5,Zm7,Zm9,Zna,Znb,Zne,Znf,Zng,Znn,Zno,Znp,Zo7,eq_self,true_and,and_true,callable_131]
  tactic =>
  refine cl none (empty_con _ _) trivial ?_
  by_cases h00 : lim b ≤ lim a
  · sym =>
    simp [Zab,Zad,Zae,Zaf,Zak,Zal,Zam,Zao,Zau,Zaz,Za0,Za1,Za2,Za3,Za4,Za5,Za9,Zba,Zbt,Zc3,Zdi,Zev,Zez,Ze0,Ze1,Ze2,Ze3,Ze5,Ze8,Zfc,Zfd,Zfe,Zgr,Zgs,Zgt,Ziu,Ziv,Ziw,Zi6,Zjh,Zji,Zjw,Zj7,Zlz,Zmt,Zmv,Zmw,Zmy,Zm0,Zm1,Zm2,Zm5,Zm7,Zm9,Zna,Znb,Znn,Zno,Znp,Zo7,Zo8,eq_self,true_and,and_true,h00]
    tactic =>
    refine endA ?_
    sym =>
    simp [Zpg,Zp8,Zqb,Zqc,eq_self,and_true]
  · sym =>
    simp [Zaa,Zab,Zad,Zae,Zaf,Zag,Zah,Zal,Zam,Zay,Zaz,Za0,Za1,Za2,Za3,Za4,Za5,Za9,Zba,Zbb,Zdi,Zev,Zew,Zez,Ze0,Ze2,Zfd,Zfe,Zfh,Zjw,Zlz,Zna,Znb,Zo7,Zo9,eq_self,true_and,h00]
    tactic =>
    generalize lim a = xa at *
    generalize lim b = xb at *
    refine lpA (i43 l xa xb) l.length [(0, 0), (1, 1), (2, 5)] _ ⟨0, by omega, by simp, rfl⟩ (wkA ?_) ?_
    · sym =>
      simp [Za2,Za3,Zez,Zfb,Zfc,Znr,Zn5,Zpa,Zpc,Zpd,Zpg,Zpr,Zpu,Zqb,Zqc,Zqf,Zqg,Zqh,Zqi,Zqj,Zqk,Zql,Zqm,Zqn,eq_self,true_and,and_true]
      tactic =>
      rfl
    · rintro k s ⟨i, hi, he, rfl⟩
      have hT : (List.take i l).length = i := by simp; omega
      by_cases h : i < l.length
      · have hw := w64s i (by omega)
        have h0 := cR_q0 l i h
        have h1 := cR_q1 l i h
        by_cases h2 : l[i].2 < xa
        · sym =>
          simp [Zaa,Zab,Zac,Zad,Zae,Zaf,Zag,Zal,Zam,Zap,Zav,Zaz,Za0,Za1,Za2,Za3,Za4,Za5,Za9,Zba,Zbb,Zbc,Zbe,Zbf,Zbg,Zbt,Zbu,Zbv,Zbw,Zb1,Zb2,Zco,Zcz,Zc5,Zc7,Zc8,Zdo,Zdp,Zdq,Zdr,Zdt,Zdu,Zdv,Zdw,Zdx,Zdy,Zdz,Zd0,Zd1,Zd2,Zeb,Zee,Zek,Zev,Zew,Zex,Zez,Ze0,Ze2,Ze3,Ze4,Ze5,Ze8,Zfc,Zfd,Zfe,Zff,Zfg,Zfh,Zfi,Zfl,Zfn,Zfq,Zf1,Zgr,Zgs,Zgt,Zgu,Zgv,Zgw,Zgx,Zgy,Zg4,Zg6,Zhf,Zhg,Zhh,Zho,Zh6,Zh7,Ziq,Zir,Zix,Ziz,Zi0,Zi2,Zi3,Zi6,Zjj,Zjk,Zjo,Zm5,Zm6,Zm7,Zm9,Zna,Znb,Zne,Znh,Znl,Znm,Znn,Zno,Znp,Zns,Znt,Znw,Zo7,Zo8,eq_self,true_and,and_true,h,h0,h1,hw,h2,cR_length,hT]
          tactic =>
          and_intros <;> try (first | omega | rfl | assumption | exact cR_okF _ | exact cR_okI _ | exact rs_self (cR_okI _) | (symm; refine List.take_of_length_le ?_; simp <;> omega))
          unfold NextL; refine ⟨(k - 1), [(0, 0), (1, 1), (2, 2), (3, 27)], _, by omega, ⟨i + 1, by omega, add_step (xa, xb) l i h h2 he, rfl⟩, wkA ?_⟩
          sym =>
          simp [Za2,Za3,Zez,Zfc,Znr,Zpa,Zpc,Zpd,Zpg,Zpo,Zpu,Zqb,Zqc,Zqf,Zqg,Zqh,Zqi,Zqk,Zql,Zqm,Zqn,eq_self,true_and,and_true]
          tactic =>
          rw [cR_take_one l i h]
          and_intros <;> try (first | omega | rfl | assumption | exact cR_okF _ | exact cR_okI _ | exact rs_self (cR_okI _) | (symm; refine List.take_of_length_le ?_; simp <;> omega))
          exact rs_self (by simp)
        · have hstop : (hi : i < l.length) → ¬ l[i].2 < xa := fun _ => h2
          sym =>
          simp [Zac,Zad,Zae,Zaf,Zag,Zah,Zai,Zam,Zan,Zaq,Zxe,Zaw,Zaz,Za0,Za1,Za2,Za3,Zbc,Zbe,Zbg,Zbu,Zbw,Zb2,Zco,Zc7,Zc8,Zdo,Zdp,Zdq,Zdr,Zdt,Zdu,Zdv,Zdw,Zdx,Zdy,Zdz,Zd0,Zd1,Zd2,Zeb,Zee,Zek,Zev,Zew,Zex,Zez,Ze0,Ze2,Ze5,Ze8,Zfc,Zfd,Zfe,Zfh,Zfi,Zfl,Zfn,Zf1,Zgr,Zgs,Zgt,Zgu,Zgv,Zgw,Zgx,Zgy,Zg4,Zg6,Zho,Zh6,Zh7,Zm6,Zm9,Zna,Znb,Zne,Zns,Znt,Znw,Zo7,Zo8,Zo9,eq_self,true_and,and_true,h,h0,h1,hw,h2,cR_length]
          tactic =>
          and_intros <;> try (first | omega | rfl | assumption | exact cR_okF _ | exact cR_okI _ | exact rs_self (cR_okI _) | (symm; refine List.take_of_length_le ?_; simp <;> omega))
          refine lpA (j43 l xa xb i) (l.length - i) [(0, 0), (1, 1), (2, 2), (3, 3)] _ ⟨i, (xa, xb), by omega, add_stop (xa, xb) l i hstop he, rfl⟩ (wkA ?_) ?_
          · sym =>
            simp [Za2,Za3,Zez,Zfc,Znr,Zof,Zog,Zpa,Zpc,Zpd,Zpg,Zpo,Zpu,Zqb,Zqc,Zqf,Zqg,Zqh,Zqi,Zqk,Zql,Zqm,Zqn,eq_self,true_and,and_true]
            tactic =>
            and_intros <;> try (first | omega | rfl | assumption | exact cR_okF _ | exact cR_okI _ | exact rs_self (cR_okI _) | (symm; refine List.take_of_length_le ?_; simp <;> omega))
          · rintro k2 s ⟨j, x, hj, he2, rfl⟩
            by_cases h3 : j < l.length
            · have hw' := w64s j (by omega)
              have h0' := cR_q0 l j h3
              have h1' := cR_q1 l j h3
              sym =>
              simp [Zaa,Zab,Zac,Zad,Zae,Zaf,Zag,Zal,Zam,Zaz,Za0,Za1,Za2,Za3,Za4,Za5,Za9,Zba,Zbb,Zbc,Zbf,Zbt,Zbu,Zbv,Zbw,Zb2,Zcn,Zc7,Zc8,Zdf,Zdg,Zdh,Zdp,Zdt,Zdu,Zdv,Zdw,Zdx,Zdy,Zdz,Zd0,Zd1,Zd2,Zd3,Zeb,Zee,Zek,Zen,Zeq,Zer,Zes,Zet,Zev,Zew,Zez,Ze0,Ze2,Ze5,Ze8,Zfc,Zfd,Zfe,Zfh,Zfn,Zf1,Zgr,Zgs,Zgt,Zgu,Zgv,Zgw,Zgx,Zg4,Zg6,Zho,Zh6,Zh7,Zla,Zlb,Zlc,Zld,Zle,Zlf,Zlh,Zlk,Zm5,Zm6,Zm7,Zm9,Zna,Znb,Zne,Znf,Zng,Zns,Znt,Znw,Zo7,Zo8,eq_self,true_and,and_true,h3,h0',h1',hw',cR_length,callable_132]
              tactic =>
              and_intros <;> try (first | omega | rfl | assumption | exact cR_okF _ | exact cR_okI _ | exact rs_self (cR_okI _) | (symm; refine List.take_of_length_le ?_; simp <;> omega))
              refine cl none (touches_con _ _ _ _) trivial ?_
              by_cases h4 : l[j].1 ≤ x.2 ∧ x.1 ≤ l[j].2
              · sym =>
                simp [Zaa,Zab,Zac,Zae,Zaf,Zal,Zam,Zap,Zav,Zaz,Za0,Za1,Za2,Za3,Za4,Za5,Za9,Zba,Zbb,Zbc,Zbf,Zbk,Zbu,Zbw,Zb2,Zca,Zcs,Zcu,Zc4,Zc7,Zc8,Zc9,Zdj,Zdk,Zdo,Zdp,Zdt,Zdu,Zdv,Zdw,Zdx,Zdy,Zdz,Zd0,Zd1,Zd2,Zd3,Zeb,Zee,Zek,Zen,Zer,Zes,Zev,Zew,Zez,Ze0,Ze1,Ze2,Ze3,Ze5,Ze8,Zfc,Zfd,Zfe,Zfh,Zfn,Zfq,Zgd,Zgg,Zgr,Zgs,Zgt,Zgu,Zgv,Zgw,Zgx,Zgy,Zg4,Zg6,Zhd,Zhe,Zhf,Zhg,Zhh,Zho,Zie,Zif,Zig,Zih,Zii,Zij,Zik,Zil,Zim,Ziu,Ziv,Ziw,Zi6,Zi7,Zjh,Zji,Zjn,Zjw,Zlz,Zm6,Zm9,Zna,Znb,Zne,Znf,Zng,Znn,Zno,Znp,Zns,Znt,Znw,Zo3,Zo7,Zo8,eq_self,true_and,and_true,Nat.add_zero,h3,h0',h1',hw',h4,cR_length]
                tactic =>
                and_intros <;> try (first | omega | rfl | assumption | exact cR_okF _ | exact cR_okI _ | exact rs_self (cR_okI _) | (symm; refine List.take_of_length_le ?_; simp <;> omega))
                unfold NextL; refine ⟨(k2 - 1), [(0, 0), (1, 1), (2, 2), (3, 3)], _, by omega, ⟨j + 1, (min x.1 l[j].1, max x.2 l[j].2), by omega, by rw [he2, merge_step x l j h3 h4.1 h4.2], rfl⟩, wkA ?_⟩
                sym =>
                simp [Za2,Za3,Zez,Zfc,Znr,Zof,Zog,Zpa,Zpc,Zpd,Zpg,Zpo,Zpu,Zqb,Zqc,Zqf,Zqg,Zqh,Zqi,Zqk,Zql,Zqm,Zqn,eq_self,true_and,and_true]
                tactic =>
                and_intros <;> try (first | omega | rfl | assumption | exact cR_okF _ | exact cR_okI _ | exact rs_self (cR_okI _) | (symm; refine List.take_of_length_le ?_; simp <;> omega))
              · have hstop2 : (hi : j < l.length) → ¬ (l[j].1 ≤ x.2 ∧ x.1 ≤ l[j].2) := fun _ => h4
                have he3 : add (xa, xb) l = l.take i ++ x :: l.drop j := he2.trans (by rw [merge_stop x l j hstop2])
                have hT : (List.take i l).length = i := by simp; omega
                sym =>
                simp [Zac,Zad,Zae,Zaf,Zai,Zak,Zam,Zan,Zaq,Zau,Zaw,Zaz,Za0,Za1,Za2,Za3,Zbc,Zbk,Zbu,Zbw,Zca,Zci,Zc0,Zc4,Zc6,Zc7,Zc8,Zc9,Zdj,Zdk,Zdo,Zdp,Zdt,Zdu,Zdv,Zdw,Zdx,Zdy,Zdz,Zd0,Zd1,Zd2,Zd3,Zeb,Zeh,Zei,Zek,Zen,Zer,Zes,Zev,Zez,Ze0,Ze1,Ze2,Ze3,Ze4,Ze5,Ze8,Zfc,Zfd,Zfe,Zff,Zfg,Zfh,Zgd,Zgg,Zgr,Zgs,Zgt,Zgv,Zgw,Zgx,Zhd,Zhe,Zhf,Zhg,Zhh,Zhm,Zhn,Zho,Zhs,Zht,Zhu,Ziq,Zir,Ziu,Ziv,Ziw,Zix,Ziz,Zi0,Zi1,Zi2,Zi3,Zi6,Zje,Zjg,Zjh,Zji,Zjj,Zjk,Zjo,Zjw,Zkl,Zlz,Zmt,Zmv,Zmw,Zmy,Zm0,Zm1,Zm2,Zm5,Zm6,Zm7,Zm9,Zna,Znb,Znc,Znd,Zne,Znh,Znl,Znm,Znn,Zno,Znp,Znr,Zns,Znu,Znw,Zo4,Zo7,Zo9,List.append_assoc,List.length_append,List.length_drop,eq_self,true_and,and_true,h3,h0',h1',hw',h4,cR_length,hT,cR_dt,List.length_drop]
                tactic =>
                and_intros <;> try (first | omega | rfl | assumption | exact cR_okF _ | exact cR_okI _ | exact rs_self (cR_okI _) | (symm; refine List.take_of_length_le ?_; simp <;> omega))
                refine endA ?_
                rw [he3]
                sym =>
                simp [Zfc,Zjm,Zjp,Znb,Znh,Zod,Zpy,Zp1,Zp2,Zp8,Zqb,Zqc,List.length_append,List.length_drop,eq_self,true_and,and_true,Nat.zero_add,cR_length,hT,cR_dt,cR_append,cR_cons,List.length_append,List.length_drop]
                tactic =>
                and_intros <;> try (first | omega | rfl | assumption | exact cR_okF _ | exact cR_okI _ | exact rs_self (cR_okI _) | (symm; refine List.take_of_length_le ?_; simp <;> omega))
            · have hstop2 : (hi : j < l.length) → ¬ (l[j].1 ≤ x.2 ∧ x.1 ≤ l[j].2) := fun hi => absurd hi h3
              have h0' := h3; have h1' := h3; have hw' := h3; have h4 := h3
              have he3 : add (xa, xb) l = l.take i ++ x :: l.drop j := he2.trans (by rw [merge_stop x l j hstop2])
              have hT : (List.take i l).length = i := by simp; omega
              sym =>
              simp [Zab,Zac,Zad,Zae,Zaf,Zai,Zak,Zam,Zan,Zaq,Zau,Zaw,Zaz,Za0,Za1,Za2,Za3,Za4,Za5,Za9,Zba,Zbb,Zbc,Zbf,Zbt,Zbu,Zbv,Zbw,Zca,Zci,Zcn,Zc0,Zc4,Zc6,Zc7,Zc8,Zc9,Zdo,Zdp,Zdt,Zdu,Zdv,Zdw,Zdx,Zdy,Zdz,Zd0,Zd1,Zd2,Zd3,Zeb,Zeh,Zei,Zek,Zen,Zer,Zes,Zev,Zez,Ze0,Ze1,Ze2,Ze3,Ze4,Ze5,Ze8,Zfc,Zfd,Zfe,Zff,Zfg,Zfh,Zfn,Zf1,Zgr,Zgs,Zgt,Zgv,Zgw,Zgx,Zhd,Zhe,Zhf,Zhg,Zhh,Zhm,Zhn,Zho,Zhs,Zht,Zhu,Zh6,Zh7,Ziq,Zir,Ziu,Ziv,Ziw,Zix,Ziz,Zi0,Zi1,Zi2,Zi3,Zi6,Zje,Zjg,Zjh,Zji,Zjj,Zjk,Zjo,Zkl,Zmt,Zmv,Zmw,Zmy,Zm0,Zm1,Zm2,Zm5,Zm6,Zm7,Zm9,Zna,Znb,Znc,Znd,Zne,Znh,Znl,Znm,Znn,Zno,Znp,Znr,Zns,Znt,Znu,Znw,Zo7,Zo9,List.append_assoc,List.length_append,List.length_drop,eq_self,true_and,and_true,h3,h0',h1',hw',h4,cR_length,hT,cR_dt,List.length_drop]
              tactic =>
              and_intros <;> try (first | omega | rfl | assumption | exact cR_okF _ | exact cR_okI _ | exact rs_self (cR_okI _) | (symm; refine List.take_of_length_le ?_; simp <;> omega))
              refine endA ?_
              rw [he3]
              sym =>
              simp [Zfc,Zjm,Zjp,Znb,Znh,Zod,Zpy,Zp1,Zp2,Zp8,Zqb,Zqc,List.length_append,List.length_drop,eq_self,true_and,and_true,Nat.zero_add,cR_length,hT,cR_dt,cR_append,cR_cons,List.length_append,List.length_drop]
              tactic =>
              and_intros <;> try (first | omega | rfl | assumption | exact cR_okF _ | exact cR_okI _ | exact rs_self (cR_okI _) | (symm; refine List.take_of_length_le ?_; simp <;> omega))
      · have hstop : (hi : i < l.length) → ¬ l[i].2 < xa := fun hi => absurd hi h
        sym =>
        simp [Zac,Zad,Zae,Zaf,Zag,Zah,Zai,Zam,Zan,Zaq,Zxe,Zaw,Zaz,Za0,Za1,Za2,Za3,Zbc,Zbe,Zbg,Zbu,Zbw,Zco,Zc7,Zc8,Zdo,Zdp,Zdq,Zdr,Zds,Zdt,Zdu,Zdv,Zdw,Zdx,Zdy,Zd0,Zd1,Zd2,Zeb,Zek,Zev,Zew,Zex,Zez,Ze0,Ze2,Ze5,Ze8,Zfc,Zfd,Zfe,Zfh,Zfi,Zfk,Zfn,Zf1,Zgr,Zgs,Zgt,Zgv,Zgw,Zgx,Zh6,Zh7,Zm6,Zm9,Zna,Znb,Zne,Znt,Zo7,Zo9,eq_self,true_and,and_true,h]
        tactic =>
        refine lpA (j43 l xa xb i) (l.length - i) [(0, 0), (1, 1), (2, 2), (3, 3)] _ ⟨i, (xa, xb), by omega, add_stop (xa, xb) l i hstop he, rfl⟩ (wkA ?_) ?_
        · sym =>
          simp [Za2,Za3,Zez,Zfc,Znr,Zof,Zog,Zpa,Zpc,Zpd,Zpg,Zpo,Zpu,Zqb,Zqc,Zqf,Zqg,Zqh,Zqi,Zqk,Zql,Zqm,Zqn,eq_self,true_and,and_true]
          tactic =>
          and_intros <;> try (first | omega | rfl | assumption | exact cR_okF _ | exact cR_okI _ | exact rs_self (cR_okI _) | (symm; refine List.take_of_length_le ?_; simp <;> omega))
        · rintro k2 s ⟨j, x, hj, he2, rfl⟩
          by_cases h3 : j < l.length
          · have hw' := w64s j (by omega)
            have h0' := cR_q0 l j h3
            have h1' := cR_q1 l j h3
            sym =>
            simp [Zaa,Zab,Zac,Zad,Zae,Zaf,Zag,Zal,Zam,Zaz,Za0,Za1,Za2,Za3,Za4,Za5,Za9,Zba,Zbb,Zbc,Zbf,Zbt,Zbu,Zbv,Zbw,Zb2,Zcn,Zc7,Zc8,Zdf,Zdg,Zdh,Zdp,Zdt,Zdu,Zdv,Zdw,Zdx,Zdy,Zdz,Zd0,Zd1,Zd2,Zd3,Zeb,Zee,Zek,Zen,Zeq,Zer,Zes,Zet,Zev,Zew,Zez,Ze0,Ze2,Ze5,Ze8,Zfc,Zfd,Zfe,Zfh,Zfn,Zf1,Zgr,Zgs,Zgt,Zgu,Zgv,Zgw,Zgx,Zg4,Zg6,Zho,Zh6,Zh7,Zla,Zlb,Zlc,Zld,Zle,Zlf,Zlh,Zlk,Zm5,Zm6,Zm7,Zm9,Zna,Znb,Zne,Znf,Zng,Zns,Znt,Znw,Zo7,Zo8,eq_self,true_and,and_true,h3,h0',h1',hw',cR_length,callable_132]
            tactic =>
            and_intros <;> try (first | omega | rfl | assumption | exact cR_okF _ | exact cR_okI _ | exact rs_self (cR_okI _) | (symm; refine List.take_of_length_le ?_; simp <;> omega))
            refine cl none (touches_con _ _ _ _) trivial ?_
            by_cases h4 : l[j].1 ≤ x.2 ∧ x.1 ≤ l[j].2
            · sym =>
              simp [Zaa,Zab,Zac,Zae,Zaf,Zal,Zam,Zap,Zav,Zaz,Za0,Za1,Za2,Za3,Za4,Za5,Za9,Zba,Zbb,Zbc,Zbf,Zbk,Zbu,Zbw,Zb2,Zca,Zcs,Zcu,Zc4,Zc7,Zc8,Zc9,Zdj,Zdk,Zdo,Zdp,Zdt,Zdu,Zdv,Zdw,Zdx,Zdy,Zdz,Zd0,Zd1,Zd2,Zd3,Zeb,Zee,Zek,Zen,Zer,Zes,Zev,Zew,Zez,Ze0,Ze1,Ze2,Ze3,Ze5,Ze8,Zfc,Zfd,Zfe,Zfh,Zfn,Zfq,Zgd,Zgg,Zgr,Zgs,Zgt,Zgu,Zgv,Zgw,Zgx,Zgy,Zg4,Zg6,Zhd,Zhe,Zhf,Zhg,Zhh,Zho,Zie,Zif,Zig,Zih,Zii,Zij,Zik,Zil,Zim,Ziu,Ziv,Ziw,Zi6,Zi7,Zjh,Zji,Zjn,Zjw,Zlz,Zm6,Zm9,Zna,Znb,Zne,Znf,Zng,Znn,Zno,Znp,Zns,Znt,Znw,Zo3,Zo7,Zo8,eq_self,true_and,and_true,Nat.add_zero,h3,h0',h1',hw',h4,cR_length]
              tactic =>
              and_intros <;> try (first | omega | rfl | assumption | exact cR_okF _ | exact cR_okI _ | exact rs_self (cR_okI _) | (symm; refine List.take_of_length_le ?_; simp <;> omega))
              unfold NextL; refine ⟨(k2 - 1), [(0, 0), (1, 1), (2, 2), (3, 3)], _, by omega, ⟨j + 1, (min x.1 l[j].1, max x.2 l[j].2), by omega, by rw [he2, merge_step x l j h3 h4.1 h4.2], rfl⟩, wkA ?_⟩
              sym =>
              simp [Za2,Za3,Zez,Zfc,Znr,Zof,Zog,Zpa,Zpc,Zpd,Zpg,Zpo,Zpu,Zqb,Zqc,Zqf,Zqg,Zqh,Zqi,Zqk,Zql,Zqm,Zqn,eq_self,true_and,and_true]
              tactic =>
              and_intros <;> try (first | omega | rfl | assumption | exact cR_okF _ | exact cR_okI _ | exact rs_self (cR_okI _) | (symm; refine List.take_of_length_le ?_; simp <;> omega))
            · have hstop2 : (hi : j < l.length) → ¬ (l[j].1 ≤ x.2 ∧ x.1 ≤ l[j].2) := fun _ => h4
              have he3 : add (xa, xb) l = l.take i ++ x :: l.drop j := he2.trans (by rw [merge_stop x l j hstop2])
              have hT : (List.take i l).length = i := by simp; omega
              sym =>
              simp [Zac,Zad,Zae,Zaf,Zai,Zak,Zam,Zan,Zaq,Zau,Zaw,Zaz,Za0,Za1,Za2,Za3,Zbc,Zbk,Zbu,Zbw,Zca,Zci,Zc0,Zc4,Zc6,Zc7,Zc8,Zc9,Zdj,Zdk,Zdo,Zdp,Zdt,Zdu,Zdv,Zdw,Zdx,Zdy,Zdz,Zd0,Zd1,Zd2,Zd3,Zeb,Zeh,Zei,Zek,Zen,Zer,Zes,Zev,Zez,Ze0,Ze1,Ze2,Ze3,Ze4,Ze5,Ze8,Zfc,Zfd,Zfe,Zff,Zfg,Zfh,Zgd,Zgg,Zgr,Zgs,Zgt,Zgv,Zgw,Zgx,Zhd,Zhe,Zhf,Zhg,Zhh,Zhm,Zhn,Zho,Zhs,Zht,Zhu,Ziq,Zir,Ziu,Ziv,Ziw,Zix,Ziz,Zi0,Zi1,Zi2,Zi3,Zi6,Zje,Zjg,Zjh,Zji,Zjj,Zjk,Zjo,Zjw,Zkl,Zlz,Zmt,Zmv,Zmw,Zmy,Zm0,Zm1,Zm2,Zm5,Zm6,Zm7,Zm9,Zna,Znb,Znc,Znd,Zne,Znh,Znl,Znm,Znn,Zno,Znp,Znr,Zns,Znu,Znw,Zo4,Zo7,Zo9,List.append_assoc,List.length_append,List.length_drop,eq_self,true_and,and_true,h3,h0',h1',hw',h4,cR_length,hT,cR_dt,List.length_drop]
              tactic =>
              and_intros <;> try (first | omega | rfl | assumption | exact cR_okF _ | exact cR_okI _ | exact rs_self (cR_okI _) | (symm; refine List.take_of_length_le ?_; simp <;> omega))
              refine endA ?_
              rw [he3]
              sym =>
              simp [Zfc,Zjm,Zjp,Znb,Znh,Zod,Zpy,Zp1,Zp2,Zp8,Zqb,Zqc,List.length_append,List.length_drop,eq_self,true_and,and_true,Nat.zero_add,cR_length,hT,cR_dt,cR_append,cR_cons,List.length_append,List.length_drop]
              tactic =>
              and_intros <;> try (first | omega | rfl | assumption | exact cR_okF _ | exact cR_okI _ | exact rs_self (cR_okI _) | (symm; refine List.take_of_length_le ?_; simp <;> omega))
          · have hstop2 : (hi : j < l.length) → ¬ (l[j].1 ≤ x.2 ∧ x.1 ≤ l[j].2) := fun hi => absurd hi h3
            have h0' := h3; have h1' := h3; have hw' := h3; have h4 := h3
            have he3 : add (xa, xb) l = l.take i ++ x :: l.drop j := he2.trans (by rw [merge_stop x l j hstop2])
            have hT : (List.take i l).length = i := by simp; omega
            sym =>
            simp [Zab,Zac,Zad,Zae,Zaf,Zai,Zak,Zam,Zan,Zaq,Zau,Zaw,Zaz,Za0,Za1,Za2,Za3,Za4,Za5,Za9,Zba,Zbb,Zbc,Zbf,Zbt,Zbu,Zbv,Zbw,Zca,Zci,Zcn,Zc0,Zc4,Zc6,Zc7,Zc8,Zc9,Zdo,Zdp,Zdt,Zdu,Zdv,Zdw,Zdx,Zdy,Zdz,Zd0,Zd1,Zd2,Zd3,Zeb,Zeh,Zei,Zek,Zen,Zer,Zes,Zev,Zez,Ze0,Ze1,Ze2,Ze3,Ze4,Ze5,Ze8,Zfc,Zfd,Zfe,Zff,Zfg,Zfh,Zfn,Zf1,Zgr,Zgs,Zgt,Zgv,Zgw,Zgx,Zhd,Zhe,Zhf,Zhg,Zhh,Zhm,Zhn,Zho,Zhs,Zht,Zhu,Zh6,Zh7,Ziq,Zir,Ziu,Ziv,Ziw,Zix,Ziz,Zi0,Zi1,Zi2,Zi3,Zi6,Zje,Zjg,Zjh,Zji,Zjj,Zjk,Zjo,Zkl,Zmt,Zmv,Zmw,Zmy,Zm0,Zm1,Zm2,Zm5,Zm6,Zm7,Zm9,Zna,Znb,Znc,Znd,Zne,Znh,Znl,Znm,Znn,Zno,Znp,Znr,Zns,Znt,Znu,Znw,Zo7,Zo9,List.append_assoc,List.length_append,List.length_drop,eq_self,true_and,and_true,h3,h0',h1',hw',h4,cR_length,hT,cR_dt,List.length_drop]
            tactic =>
            and_intros <;> try (first | omega | rfl | assumption | exact cR_okF _ | exact cR_okI _ | exact rs_self (cR_okI _) | (symm; refine List.take_of_length_le ?_; simp <;> omega))
            refine endA ?_
            rw [he3]
            sym =>
            simp [Zfc,Zjm,Zjp,Znb,Znh,Zod,Zpy,Zp1,Zp2,Zp8,Zqb,Zqc,List.length_append,List.length_drop,eq_self,true_and,and_true,Nat.zero_add,cR_length,hT,cR_dt,cR_append,cR_cons,List.length_append,List.length_drop]
            tactic =>
            and_intros <;> try (first | omega | rfl | assumption | exact cR_okF _ | exact cR_okI _ | exact rs_self (cR_okI _) | (symm; refine List.take_of_length_le ?_; simp <;> omega))
end Go.Proofs.Ytbmdahhhgpbchaa.SwA
