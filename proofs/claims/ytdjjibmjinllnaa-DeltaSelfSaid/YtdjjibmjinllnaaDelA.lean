import Derived.Test.YtdjjibmjinllnaaCodE
import Derived.Test.YtdjjibmjinllnaaTab
import Derived.Test.YtdjjibmjinllnaaBse
namespace Go.Proofs.Ytdjjibmjinllnaa.DelA
open Go Go.Sim Go.Sim.E Go.RowKit Go.Proofs Go.Proofs.Ytdjjibmjinllnaa.Cod Go.Proofs.Ytdjjibmjinllnaa.Tab Go.Proofs.Ytdjjibmjinllnaa.Bse
set_option linter.unusedVariables false
set_option linter.unusedSimpArgs false
set_option maxRecDepth 100000
set_option maxHeartbeats 4000000
abbrev Pc := Int × Int × List Int
def eP (p : Pc) : List AV := [I p.1, I p.2.1, fB p.2.2]
def cP (l : List Pc) : List AV := l.flatMap eP
abbrev fP (l : List Pc) : AV := .fz l.length (cP l)
theorem cP_length (l : List Pc) : (cP l).length = l.length * 3 := flat_length eP 3 l (fun _ _ => rfl)
theorem cP_append (a b : List Pc) : cP (a ++ b) = cP a ++ cP b := by simp [cP]
theorem cP_snoc (l : List Pc) (r : Pc) : cP (l ++ [r]) = cP l ++ [I r.1, I r.2.1, fB r.2.2] := by rw [cP_append]; rfl
theorem cP_okI (l : List Pc) : okI (cP l) := okI_flat (fun a => by simp [eP, okI, isF]) l
theorem cP_okF (l : List Pc) : okF (cP l) := okF_flat (fun a => by simp [eP, okF, okf]) l
theorem cP_q (l : List Pc) (i : Nat) (h : i < l.length) (j : Nat) (hj : j < 3) : (cP l).getD (i * 3 + j) .un = (eP l[i]).getD j .un := by
  have := flat_at eP (s := 3) l (fun _ _ => rfl) i j h hj
  rw [List.getD_eq_getElem?_getD, cP, this, List.getD_eq_getElem?_getD, List.getD_eq_getElem?_getD, List.getElem?_eq_getElem h]
  rfl
theorem cP_q0 (l : List Pc) (i : Nat) (h : i < l.length) : (cP l).getD (i * 3) .un = I l[i].1 := cP_q l i h 0 (by decide)
theorem cP_q1 (l : List Pc) (i : Nat) (h : i < l.length) : (cP l).getD (i * 3 + 1) .un = I l[i].2.1 := cP_q l i h 1 (by decide)
theorem cP_q2 (l : List Pc) (i : Nat) (h : i < l.length) : (cP l).getD (i * 3 + 2) .un = fB l[i].2.2 := cP_q l i h 2 (by decide)
theorem cP_rs (P Q R) (l : List Pc) (c : List AV) (h : c = cP l) : rv1s P Q R c (cP l) := by subst h; exact rs_self (cP_okI _)
theorem cP_all (l : List Pc) : List.take (l.length * 3) (cP l) = cP l := List.take_of_length_le (by rw [cP_length]; exact Nat.le_refl _)
/-! ### two rows of bytes held against each other -/
theorem take_eq_step {a b : List Int} {i : Nat} (h : a.take i = b.take i) (ha : i < a.length) (hb : i < b.length) (e : a.getD i 0 = b.getD i 0) : a.take (i + 1) = b.take (i + 1) := by
  rw [take_stepD a i ha, take_stepD b i hb, h, e]
def i33 (a b : List Int) (k : Nat) (s : St) : Prop := ∃ i : Nat, i + k = a.length ∧ a.take i = b.take i ∧ s = ⟨[(0, fB a), (1, fB b), (5, I (IN i))], [], 0⟩
theorem nsame_con (a b : List Int) (ha : a.length < 4611686018427387904) : Con Try.prog 33 [] [fB a, fB b] [] (Bo (decide (a = b))) := by
  refine con_j b33 rfl ?_
  by_cases hl : a.length = b.length
  · have hl1 : IN a.length = IN b.length := by rw [hl]
    sym =>
    simp [Zaa,Zab,Zac,Zad,Zae,Zaf,Zag,Zah,Zai,Zak,Zal,Zam,Zan,Zao,Zap,Zaq,Zar,Zav,Zaw,Zax,Zay,Zaz,Za0,Za1,Za2,Za3,Za4,Za5,Za9,Zba,Zbb,Zbc,Zbf,Zbg,Zbu,Zb2,Zcn,Zc7,Zc8,Zdo,Zdp,Zdt,Zdu,Zdv,Zdw,Zdx,Zdy,Zd0,Zd1,Zd2,Zeb,Zee,Zev,Zew,Zez,Ze0,Ze2,Ze5,Zfd,Zfe,Zfh,Zfn,Zfq,Zf0,Zf1,Zgr,Zgu,Zg4,Zg6,Zho,Zh6,Zh7,Zmt,Zmv,Zmw,Zmx,Zmz,Zm2,Zm6,Zna,Znb,Zne,Zns,Znt,Znv,Znw,Zn5,Zos,Zot,Zo3,Zo4,Zo7,Zo8,Zo9,Zpc,Zpi,Zqf,Zqg,Zqh,Zqm,eq_self,true_and,and_true,Nat.mul_one,hl1]
    tactic =>
    refine lpA (i33 a b) a.length [] _ ⟨0, by omega, rfl, rfl⟩ (wkA ?_) ?_
    · sym =>
      simp [Zaa,Zab,Zac,Zad,Zae,Zaf,Zag,Zah,Zai,Zak,Zal,Zam,Zan,Zao,Zap,Zaq,Zar,Zav,Zaw,Zax,Zay,Zaz,Za0,Za1,Za2,Za3,Za4,Za5,Za9,Zba,Zbb,Zbc,Zbf,Zbg,Zbu,Zb2,Zcn,Zc7,Zc8,Zdo,Zdp,Zdt,Zdu,Zdv,Zdw,Zdx,Zdy,Zd0,Zd1,Zd2,Zeb,Zee,Zev,Zew,Zez,Ze0,Ze2,Ze5,Zfd,Zfe,Zfh,Zfn,Zfq,Zf0,Zf1,Zgr,Zgu,Zg4,Zg6,Zho,Zh6,Zh7,Zmt,Zmv,Zmw,Zmx,Zmz,Zm2,Zm6,Zna,Znb,Zne,Zns,Znt,Znv,Znw,Zn5,Zos,Zot,Zo3,Zo4,Zo7,Zo8,Zo9,Zpc,Zpi,Zqf,Zqg,Zqh,Zqm,eq_self,true_and,and_true,Nat.mul_one]
    rintro k s ⟨i, hi, ht, rfl⟩
    by_cases h : i < a.length
    · have hI : IN i < IN a.length := by simp only [IN]; omega
      have hI2 : IN i < IN b.length := by simp only [IN]; omega
      have hw := w64s i (by omega)
      have ga := cB_get a i h
      have gb := cB_get b i (by omega)
      have hb : i < b.length := by omega
      by_cases he : a.getD i 0 = b.getD i 0
      · sym =>
        simp [Zaa,Zab,Zac,Zad,Zae,Zaf,Zag,Zah,Zai,Zak,Zal,Zam,Zan,Zao,Zap,Zaq,Zar,Zav,Zaw,Zax,Zay,Zaz,Za0,Za1,Za2,Za3,Za4,Za5,Za9,Zba,Zbb,Zbc,Zbf,Zbg,Zbu,Zb2,Zcn,Zc7,Zc8,Zdo,Zdp,Zdt,Zdu,Zdv,Zdw,Zdx,Zdy,Zd0,Zd1,Zd2,Zeb,Zee,Zev,Zew,Zez,Ze0,Ze2,Ze5,Zfd,Zfe,Zfh,Zfn,Zfq,Zf0,Zf1,Zgr,Zgu,Zg4,Zg6,Zho,Zh6,Zh7,Zmt,Zmv,Zmw,Zmx,Zmz,Zm2,Zm6,Zna,Znb,Zne,Zns,Znt,Znv,Znw,Zn5,Zos,Zot,Zo3,Zo4,Zo7,Zo8,Zo9,Zpc,Zpi,Zqf,Zqg,Zqh,Zqm,eq_self,true_and,and_true,Nat.mul_one,h,hb,hw,ga,gb,he,cB_length]
        tactic =>
        and_intros <;> try (first | omega | rfl | assumption | simp only [IN]; omega)
        unfold NextL; refine ⟨(k - 1), [], _, by omega, ⟨i + 1, by omega, take_eq_step ht h (by omega) he, rfl⟩, wkA ?_⟩
        sym =>
        simp [Zaa,Zab,Zac,Zad,Zae,Zaf,Zag,Zah,Zai,Zak,Zal,Zam,Zan,Zao,Zap,Zaq,Zar,Zav,Zaw,Zax,Zay,Zaz,Za0,Za1,Za2,Za3,Za4,Za5,Za9,Zba,Zbb,Zbc,Zbf,Zbg,Zbu,Zb2,Zcn,Zc7,Zc8,Zdo,Zdp,Zdt,Zdu,Zdv,Zdw,Zdx,Zdy,Zd0,Zd1,Zd2,Zeb,Zee,Zev,Zew,Zez,Ze0,Ze2,Ze5,Zfd,Zfe,Zfh,Zfn,Zfq,Zf0,Zf1,Zgr,Zgu,Zg4,Zg6,Zho,Zh6,Zh7,Zmt,Zmv,Zmw,Zmx,Zmz,Zm2,Zm6,Zna,Znb,Zne,Zns,Znt,Znv,Znw,Zn5,Zos,Zot,Zo3,Zo4,Zo7,Zo8,Zo9,Zpc,Zpi,Zqf,Zqg,Zqh,Zqm,eq_self,true_and,and_true,Nat.mul_one]
      · have hab : ¬ a = b := fun e => he (by rw [e])
        sym =>
        simp [Zaa,Zab,Zac,Zad,Zae,Zaf,Zag,Zah,Zai,Zak,Zal,Zam,Zan,Zao,Zap,Zaq,Zar,Zav,Zaw,Zax,Zay,Zaz,Za0,Za1,Za2,Za3,Za4,Za5,Za9,Zba,Zbb,Zbc,Zbf,Zbg,Zbu,Zb2,Zcn,Zc7,Zc8,Zdo,Zdp,Zdt,Zdu,Zdv,Zdw,Zdx,Zdy,Zd0,Zd1,Zd2,Zeb,Zee,Zev,Zew,Zez,Ze0,Ze2,Ze5,Zfd,Zfe,Zfh,Zfn,Zfq,Zf0,Zf1,Zgr,Zgu,Zg4,Zg6,Zho,Zh6,Zh7,Zmt,Zmv,Zmw,Zmx,Zmz,Zm2,Zm6,Zna,Znb,Zne,Zns,Znt,Znv,Znw,Zn5,Zos,Zot,Zo3,Zo4,Zo7,Zo8,Zo9,Zpc,Zpi,Zqf,Zqg,Zqh,Zqm,eq_self,true_and,and_true,Nat.mul_one,h,hb,hw,ga,gb,he,cB_length]
        tactic =>
        and_intros <;> try (first | omega | rfl | assumption | simp only [IN]; omega)
        refine endA ?_
        sym =>
        simp [Zaa,Zab,Zac,Zad,Zae,Zaf,Zag,Zah,Zai,Zak,Zal,Zam,Zan,Zao,Zap,Zaq,Zar,Zav,Zaw,Zax,Zay,Zaz,Za0,Za1,Za2,Za3,Za4,Za5,Za9,Zba,Zbb,Zbc,Zbf,Zbg,Zbu,Zb2,Zcn,Zc7,Zc8,Zdo,Zdp,Zdt,Zdu,Zdv,Zdw,Zdx,Zdy,Zd0,Zd1,Zd2,Zeb,Zee,Zev,Zew,Zez,Ze0,Ze2,Ze5,Zfd,Zfe,Zfh,Zfn,Zfq,Zf0,Zf1,Zgr,Zgu,Zg4,Zg6,Zho,Zh6,Zh7,Zmt,Zmv,Zmw,Zmx,Zmz,Zm2,Zm6,Zna,Znb,Zne,Zns,Znt,Znv,Znw,Zn5,Zos,Zot,Zo3,Zo4,Zo7,Zo8,Zo9,Zpc,Zpi,Zqf,Zqg,Zqh,Zqm,eq_self,true_and,and_true,Nat.mul_one,hab]
    · have hab : a = b := by
        rw [List.take_of_length_le (by omega), List.take_of_length_le (by omega)] at ht
        exact ht
      sym =>
      simp [Zaa,Zab,Zac,Zad,Zae,Zaf,Zag,Zah,Zai,Zak,Zal,Zam,Zan,Zao,Zap,Zaq,Zar,Zav,Zaw,Zax,Zay,Zaz,Za0,Za1,Za2,Za3,Za4,Za5,Za9,Zba,Zbb,Zbc,Zbf,Zbg,Zbu,Zb2,Zcn,Zc7,Zc8,Zdo,Zdp,Zdt,Zdu,Zdv,Zdw,Zdx,Zdy,Zd0,Zd1,Zd2,Zeb,Zee,Zev,Zew,Zez,Ze0,Ze2,Ze5,Zfd,Zfe,Zfh,Zfn,Zfq,Zf0,Zf1,Zgr,Zgu,Zg4,Zg6,Zho,Zh6,Zh7,Zmt,Zmv,Zmw,Zmx,Zmz,Zm2,Zm6,Zna,Znb,Zne,Zns,Znt,Znv,Znw,Zn5,Zos,Zot,Zo3,Zo4,Zo7,Zo8,Zo9,Zpc,Zpi,Zqf,Zqg,Zqh,Zqm,eq_self,true_and,and_true,Nat.mul_one,h]
      tactic =>
      refine endA ?_
      sym =>
      simp [Zaa,Zab,Zac,Zad,Zae,Zaf,Zag,Zah,Zai,Zak,Zal,Zam,Zan,Zao,Zap,Zaq,Zar,Zav,Zaw,Zax,Zay,Zaz,Za0,Za1,Za2,Za3,Za4,Za5,Za9,Zba,Zbb,Zbc,Zbf,Zbg,Zbu,Zb2,Zcn,Zc7,Zc8,Zdo,Zdp,Zdt,Zdu,Zdv,Zdw,Zdx,Zdy,Zd0,Zd1,Zd2,Zeb,Zee,Zev,Zew,Zez,Ze0,Ze2,Ze5,Zfd,Zfe,Zfh,Zfn,Zfq,Zf0,Zf1,Zgr,Zgu,Zg4,Zg6,Zho,Zh6,Zh7,Zmt,Zmv,Zmw,Zmx,Zmz,Zm2,Zm6,Zna,Znb,Zne,Zns,Znt,Znv,Znw,Zn5,Zos,Zot,Zo3,Zo4,Zo7,Zo8,Zo9,Zpc,Zpi,Zqf,Zqg,Zqh,Zqm,eq_self,true_and,and_true,Nat.mul_one,hab]
  · have hl1 : ¬ IN a.length = IN b.length := by simp only [IN]; omega
    have hab : ¬ a = b := fun e => hl (by rw [e])
    sym =>
    simp [Zaa,Zab,Zac,Zad,Zae,Zaf,Zag,Zah,Zai,Zak,Zal,Zam,Zan,Zao,Zap,Zaq,Zar,Zav,Zaw,Zax,Zay,Zaz,Za0,Za1,Za2,Za3,Za4,Za5,Za9,Zba,Zbb,Zbc,Zbf,Zbg,Zbu,Zb2,Zcn,Zc7,Zc8,Zdo,Zdp,Zdt,Zdu,Zdv,Zdw,Zdx,Zdy,Zd0,Zd1,Zd2,Zeb,Zee,Zev,Zew,Zez,Ze0,Ze2,Ze5,Zfd,Zfe,Zfh,Zfn,Zfq,Zf0,Zf1,Zgr,Zgu,Zg4,Zg6,Zho,Zh6,Zh7,Zmt,Zmv,Zmw,Zmx,Zmz,Zm2,Zm6,Zna,Znb,Zne,Zns,Znt,Znv,Znw,Zn5,Zos,Zot,Zo3,Zo4,Zo7,Zo8,Zo9,Zpc,Zpi,Zqf,Zqg,Zqh,Zqm,eq_self,true_and,and_true,Nat.mul_one,hl]
    tactic =>
    refine endA ?_
    sym =>
    simp [Zaa,Zab,Zac,Zad,Zae,Zaf,Zag,Zah,Zai,Zak,Zal,Zam,Zan,Zao,Zap,Zaq,Zar,Zav,Zaw,Zax,Zay,Zaz,Za0,Za1,Za2,Za3,Za4,Za5,Za9,Zba,Zbb,Zbc,Zbf,Zbg,Zbu,Zb2,Zcn,Zc7,Zc8,Zdo,Zdp,Zdt,Zdu,Zdv,Zdw,Zdx,Zdy,Zd0,Zd1,Zd2,Zeb,Zee,Zev,Zew,Zez,Ze0,Ze2,Ze5,Zfd,Zfe,Zfh,Zfn,Zfq,Zf0,Zf1,Zgr,Zgu,Zg4,Zg6,Zho,Zh6,Zh7,Zmt,Zmv,Zmw,Zmx,Zmz,Zm2,Zm6,Zna,Znb,Zne,Zns,Znt,Znv,Znw,Zn5,Zos,Zot,Zo3,Zo4,Zo7,Zo8,Zo9,Zpc,Zpi,Zqf,Zqg,Zqh,Zqm,eq_self,true_and,and_true,Nat.mul_one,hab]
/-- How many bytes two rows begin with that are the same. -/
def alk : List Int → List Int → Nat
  | x :: a, y :: b => if x = y then alk a b + 1 else 0
  | _, _ => 0
theorem alk_le : ∀ (a b : List Int), alk a b ≤ a.length ∧ alk a b ≤ b.length
  | [], b => by simp [alk]
  | x :: a, [] => by simp [alk]
  | x :: a, y :: b => by
    have := alk_le a b
    unfold alk
    split <;> simp only [List.length_cons] <;> omega
theorem alk_at : ∀ (a b : List Int) (i : Nat), i ≤ alk a b → i < a.length → i < b.length → (a.getD i 0 = b.getD i 0 ↔ i < alk a b)
  | [], b, i, _, h, _ => by simp at h
  | x :: a, [], i, _, _, h => by simp at h
  | x :: a, y :: b, i, hi, ha, hb => by
    unfold alk at hi ⊢
    by_cases e : x = y
    · rw [if_pos e] at hi ⊢
      cases i with
      | zero => simp [e]
      | succ i =>
        have := alk_at a b i (by omega) (by simpa using ha) (by simpa using hb)
        simp only [List.getD_cons_succ]
        rw [this]; omega
    · rw [if_neg e] at hi ⊢
      obtain rfl : i = 0 := by omega
      simp [e]
def i75 (a b : List Int) (m : Nat) (k : Nat) (s : St) : Prop := ∃ i : Nat, i + k = m ∧ i ≤ alk a b ∧ s = ⟨[(0, fB a), (1, fB b), (5, I (IN m)), (12, I (IN m)), (13, I (IN i))], [], 0⟩
theorem alike_con (a b : List Int) (ha : a.length < 4611686018427387904) : Con Try.prog 75 [] [fB a, fB b] [] (I (IN (alk a b))) := by
  refine con_j b75 rfl ?_
  sym =>
  simp [Zaa,Zab,Zac,Zad,Zae,Zaf,Zag,Zah,Zai,Zak,Zal,Zam,Zan,Zao,Zap,Zaq,Zar,Zav,Zaw,Zax,Zay,Zaz,Za0,Za1,Za2,Za3,Za4,Za5,Za9,Zba,Zbb,Zbc,Zbf,Zbg,Zbu,Zb2,Zcn,Zct,Zc7,Zc8,Zdo,Zdp,Zdt,Zdu,Zdv,Zdw,Zdx,Zdy,Zd0,Zd1,Zd2,Zeb,Zee,Zev,Zew,Zez,Ze0,Ze2,Ze5,Zfd,Zfe,Zfh,Zfn,Zfq,Zf0,Zf1,Zgr,Zgu,Zg4,Zg6,Zho,Zh6,Zh7,Zif,Zig,Zik,Zil,Zim,Zmt,Zmv,Zmw,Zmx,Zmz,Zm2,Zm6,Zna,Znb,Zne,Znf,Zng,Zns,Znt,Znw,Zn4,Zn5,Zos,Zot,Zo3,Zo4,Zo7,Zo8,Zo9,Zpc,Zpi,Zqf,Zqg,Zqh,Zqm,eq_self,true_and,and_true,Nat.mul_one]
  tactic =>
  have hle := alk_le a b
  obtain ⟨m, hm⟩ : ∃ m, m = min a.length b.length := ⟨_, rfl⟩
  rw [← hm]
  refine lpA (i75 a b m) m [] _ ⟨0, by omega, Nat.zero_le _, rfl⟩ (wkA ?_) ?_
  · sym =>
    simp [Zaa,Zab,Zac,Zad,Zae,Zaf,Zag,Zah,Zai,Zak,Zal,Zam,Zan,Zao,Zap,Zaq,Zar,Zav,Zaw,Zax,Zay,Zaz,Za0,Za1,Za2,Za3,Za4,Za5,Za9,Zba,Zbb,Zbc,Zbf,Zbg,Zbu,Zb2,Zcn,Zct,Zc7,Zc8,Zdo,Zdp,Zdt,Zdu,Zdv,Zdw,Zdx,Zdy,Zd0,Zd1,Zd2,Zeb,Zee,Zev,Zew,Zez,Ze0,Ze2,Ze5,Zfd,Zfe,Zfh,Zfn,Zfq,Zf0,Zf1,Zgr,Zgu,Zg4,Zg6,Zho,Zh6,Zh7,Zif,Zig,Zik,Zil,Zim,Zmt,Zmv,Zmw,Zmx,Zmz,Zm2,Zm6,Zna,Znb,Zne,Znf,Zng,Zns,Znt,Znw,Zn4,Zn5,Zos,Zot,Zo3,Zo4,Zo7,Zo8,Zo9,Zpc,Zpi,Zqf,Zqg,Zqh,Zqm,eq_self,true_and,and_true,Nat.mul_one]
  rintro k s ⟨i, hi, hak, rfl⟩
  by_cases h : i < m
  · have hw := w64s i (by omega)
    have h1 : i < a.length := by omega
    have h2 : i < b.length := by omega
    have ga := cB_get a i h1
    have gb := cB_get b i h2
    have hat := alk_at a b i hak h1 h2
    by_cases he : a.getD i 0 = b.getD i 0
    · sym =>
      simp [Zaa,Zab,Zac,Zad,Zae,Zaf,Zag,Zah,Zai,Zak,Zal,Zam,Zan,Zao,Zap,Zaq,Zar,Zav,Zaw,Zax,Zay,Zaz,Za0,Za1,Za2,Za3,Za4,Za5,Za9,Zba,Zbb,Zbc,Zbf,Zbg,Zbu,Zb2,Zcn,Zct,Zc7,Zc8,Zdo,Zdp,Zdt,Zdu,Zdv,Zdw,Zdx,Zdy,Zd0,Zd1,Zd2,Zeb,Zee,Zev,Zew,Zez,Ze0,Ze2,Ze5,Zfd,Zfe,Zfh,Zfn,Zfq,Zf0,Zf1,Zgr,Zgu,Zg4,Zg6,Zho,Zh6,Zh7,Zif,Zig,Zik,Zil,Zim,Zmt,Zmv,Zmw,Zmx,Zmz,Zm2,Zm6,Zna,Znb,Zne,Znf,Zng,Zns,Znt,Znw,Zn4,Zn5,Zos,Zot,Zo3,Zo4,Zo7,Zo8,Zo9,Zpc,Zpi,Zqf,Zqg,Zqh,Zqm,eq_self,true_and,and_true,Nat.mul_one,h,hw,ga,gb,he,h1,h2,cB_length]
      tactic =>
      and_intros <;> try (first | omega | rfl | assumption | simp only [IN]; omega)
      have := hat.1 he
      unfold NextL; refine ⟨(k - 1), [], _, by omega, ⟨i + 1, by omega, by omega, rfl⟩, wkA ?_⟩
      sym =>
      simp [Zaa,Zab,Zac,Zad,Zae,Zaf,Zag,Zah,Zai,Zak,Zal,Zam,Zan,Zao,Zap,Zaq,Zar,Zav,Zaw,Zax,Zay,Zaz,Za0,Za1,Za2,Za3,Za4,Za5,Za9,Zba,Zbb,Zbc,Zbf,Zbg,Zbu,Zb2,Zcn,Zct,Zc7,Zc8,Zdo,Zdp,Zdt,Zdu,Zdv,Zdw,Zdx,Zdy,Zd0,Zd1,Zd2,Zeb,Zee,Zev,Zew,Zez,Ze0,Ze2,Ze5,Zfd,Zfe,Zfh,Zfn,Zfq,Zf0,Zf1,Zgr,Zgu,Zg4,Zg6,Zho,Zh6,Zh7,Zif,Zig,Zik,Zil,Zim,Zmt,Zmv,Zmw,Zmx,Zmz,Zm2,Zm6,Zna,Znb,Zne,Znf,Zng,Zns,Znt,Znw,Zn4,Zn5,Zos,Zot,Zo3,Zo4,Zo7,Zo8,Zo9,Zpc,Zpi,Zqf,Zqg,Zqh,Zqm,eq_self,true_and,and_true,Nat.mul_one]
    · have hai : alk a b = i := by
        have : ¬ i < alk a b := fun e => he (hat.2 e)
        omega
      sym =>
      simp [Zaa,Zab,Zac,Zad,Zae,Zaf,Zag,Zah,Zai,Zak,Zal,Zam,Zan,Zao,Zap,Zaq,Zar,Zav,Zaw,Zax,Zay,Zaz,Za0,Za1,Za2,Za3,Za4,Za5,Za9,Zba,Zbb,Zbc,Zbf,Zbg,Zbu,Zb2,Zcn,Zct,Zc7,Zc8,Zdo,Zdp,Zdt,Zdu,Zdv,Zdw,Zdx,Zdy,Zd0,Zd1,Zd2,Zeb,Zee,Zev,Zew,Zez,Ze0,Ze2,Ze5,Zfd,Zfe,Zfh,Zfn,Zfq,Zf0,Zf1,Zgr,Zgu,Zg4,Zg6,Zho,Zh6,Zh7,Zif,Zig,Zik,Zil,Zim,Zmt,Zmv,Zmw,Zmx,Zmz,Zm2,Zm6,Zna,Znb,Zne,Znf,Zng,Zns,Znt,Znw,Zn4,Zn5,Zos,Zot,Zo3,Zo4,Zo7,Zo8,Zo9,Zpc,Zpi,Zqf,Zqg,Zqh,Zqm,eq_self,true_and,and_true,Nat.mul_one,h,hw,ga,gb,he,h1,h2,cB_length]
      tactic =>
      and_intros <;> try (first | omega | rfl | assumption | simp only [IN]; omega)
      refine endA ?_
      sym =>
      simp [Zaa,Zab,Zac,Zad,Zae,Zaf,Zag,Zah,Zai,Zak,Zal,Zam,Zan,Zao,Zap,Zaq,Zar,Zav,Zaw,Zax,Zay,Zaz,Za0,Za1,Za2,Za3,Za4,Za5,Za9,Zba,Zbb,Zbc,Zbf,Zbg,Zbu,Zb2,Zcn,Zct,Zc7,Zc8,Zdo,Zdp,Zdt,Zdu,Zdv,Zdw,Zdx,Zdy,Zd0,Zd1,Zd2,Zeb,Zee,Zev,Zew,Zez,Ze0,Ze2,Ze5,Zfd,Zfe,Zfh,Zfn,Zfq,Zf0,Zf1,Zgr,Zgu,Zg4,Zg6,Zho,Zh6,Zh7,Zif,Zig,Zik,Zil,Zim,Zmt,Zmv,Zmw,Zmx,Zmz,Zm2,Zm6,Zna,Znb,Zne,Znf,Zng,Zns,Znt,Znw,Zn4,Zn5,Zos,Zot,Zo3,Zo4,Zo7,Zo8,Zo9,Zpc,Zpi,Zqf,Zqg,Zqh,Zqm,eq_self,true_and,and_true,Nat.mul_one,hai]
  · have hai : alk a b = m := by omega
    sym =>
    simp [Zaa,Zab,Zac,Zad,Zae,Zaf,Zag,Zah,Zai,Zak,Zal,Zam,Zan,Zao,Zap,Zaq,Zar,Zav,Zaw,Zax,Zay,Zaz,Za0,Za1,Za2,Za3,Za4,Za5,Za9,Zba,Zbb,Zbc,Zbf,Zbg,Zbu,Zb2,Zcn,Zct,Zc7,Zc8,Zdo,Zdp,Zdt,Zdu,Zdv,Zdw,Zdx,Zdy,Zd0,Zd1,Zd2,Zeb,Zee,Zev,Zew,Zez,Ze0,Ze2,Ze5,Zfd,Zfe,Zfh,Zfn,Zfq,Zf0,Zf1,Zgr,Zgu,Zg4,Zg6,Zho,Zh6,Zh7,Zif,Zig,Zik,Zil,Zim,Zmt,Zmv,Zmw,Zmx,Zmz,Zm2,Zm6,Zna,Znb,Zne,Znf,Zng,Zns,Znt,Znw,Zn4,Zn5,Zos,Zot,Zo3,Zo4,Zo7,Zo8,Zo9,Zpc,Zpi,Zqf,Zqg,Zqh,Zqm,eq_self,true_and,and_true,Nat.mul_one,h]
    tactic =>
    refine endA ?_
    sym =>
    simp [Zaa,Zab,Zac,Zad,Zae,Zaf,Zag,Zah,Zai,Zak,Zal,Zam,Zan,Zao,Zap,Zaq,Zar,Zav,Zaw,Zax,Zay,Zaz,Za0,Za1,Za2,Za3,Za4,Za5,Za9,Zba,Zbb,Zbc,Zbf,Zbg,Zbu,Zb2,Zcn,Zct,Zc7,Zc8,Zdo,Zdp,Zdt,Zdu,Zdv,Zdw,Zdx,Zdy,Zd0,Zd1,Zd2,Zeb,Zee,Zev,Zew,Zez,Ze0,Ze2,Ze5,Zfd,Zfe,Zfh,Zfn,Zfq,Zf0,Zf1,Zgr,Zgu,Zg4,Zg6,Zho,Zh6,Zh7,Zif,Zig,Zik,Zil,Zim,Zmt,Zmv,Zmw,Zmx,Zmz,Zm2,Zm6,Zna,Znb,Zne,Znf,Zng,Zns,Znt,Znw,Zn4,Zn5,Zos,Zot,Zo3,Zo4,Zo7,Zo8,Zo9,Zpc,Zpi,Zqf,Zqg,Zqh,Zqm,eq_self,true_and,and_true,Nat.mul_one,hai]
def i61 (a b : List Int) (k : Nat) (s : St) : Prop := ∃ i : Nat, i + k = alk a b ∧ s = ⟨[(0, fB a), (1, fB b), (5, I (IN i))], [], 0⟩
theorem ralike_con (a b : List Int) (ha : a.length < 4611686018427387904) : Con Try.prog 61 [] [fB a, fB b] [] (I (IN (alk a b))) := by
  refine con_j b61 rfl ?_
  sym =>
  simp [Zaa,Zab,Zac,Zad,Zae,Zaf,Zag,Zah,Zai,Zak,Zal,Zam,Zan,Zap,Zaq,Zav,Zaw,Zay,Zaz,Za0,Za1,Za2,Za3,Za4,Za5,Za9,Zba,Zbb,Zbc,Zbe,Zbf,Zbg,Zbu,Zb2,Zco,Zc7,Zc8,Zdo,Zdp,Zdq,Zdr,Zds,Zdt,Zdu,Zdv,Zdw,Zdx,Zdy,Zd0,Zd1,Zd2,Zeb,Zee,Zev,Zew,Zex,Zez,Ze0,Ze2,Ze5,Zfd,Zfe,Zfh,Zfi,Zfk,Zfl,Zfn,Zfq,Zfz,Zf1,Zgr,Zgu,Zg4,Zg6,Zho,Zh6,Zh7,Zmt,Zmv,Zmw,Zmx,Zmz,Zm2,Zm6,Zna,Znb,Zne,Zns,Znt,Znw,Zn5,Zos,Zot,Zo7,Zo8,Zo9,Zpc,Zpi,Zqf,Zqg,Zqh,Zqm,eq_self,true_and,and_true,Nat.mul_one]
  tactic =>
  have hle := alk_le a b
  refine lpA (i61 a b) (alk a b) [] _ ⟨0, by omega, rfl⟩ (wkA ?_) ?_
  · sym =>
    simp [Zaa,Zab,Zac,Zad,Zae,Zaf,Zag,Zah,Zai,Zak,Zal,Zam,Zan,Zap,Zaq,Zav,Zaw,Zay,Zaz,Za0,Za1,Za2,Za3,Za4,Za5,Za9,Zba,Zbb,Zbc,Zbe,Zbf,Zbg,Zbu,Zb2,Zco,Zc7,Zc8,Zdo,Zdp,Zdq,Zdr,Zds,Zdt,Zdu,Zdv,Zdw,Zdx,Zdy,Zd0,Zd1,Zd2,Zeb,Zee,Zev,Zew,Zex,Zez,Ze0,Ze2,Ze5,Zfd,Zfe,Zfh,Zfi,Zfk,Zfl,Zfn,Zfq,Zfz,Zf1,Zgr,Zgu,Zg4,Zg6,Zho,Zh6,Zh7,Zmt,Zmv,Zmw,Zmx,Zmz,Zm2,Zm6,Zna,Znb,Zne,Zns,Znt,Znw,Zn5,Zos,Zot,Zo7,Zo8,Zo9,Zpc,Zpi,Zqf,Zqg,Zqh,Zqm,eq_self,true_and,and_true,Nat.mul_one]
  rintro k s ⟨i, hi, rfl⟩
  have hw := w64s i (by omega)
  by_cases h1 : i < a.length
  · by_cases h2 : i < b.length
    · have ga := cB_get a i h1
      have gb := cB_get b i h2
      have hat := alk_at a b i (by omega) h1 h2
      by_cases he : a.getD i 0 = b.getD i 0
      · have := hat.1 he
        sym =>
        simp [Zaa,Zab,Zac,Zad,Zae,Zaf,Zag,Zah,Zai,Zak,Zal,Zam,Zan,Zap,Zaq,Zav,Zaw,Zay,Zaz,Za0,Za1,Za2,Za3,Za4,Za5,Za9,Zba,Zbb,Zbc,Zbe,Zbf,Zbg,Zbu,Zb2,Zco,Zc7,Zc8,Zdo,Zdp,Zdq,Zdr,Zds,Zdt,Zdu,Zdv,Zdw,Zdx,Zdy,Zd0,Zd1,Zd2,Zeb,Zee,Zev,Zew,Zex,Zez,Ze0,Ze2,Ze5,Zfd,Zfe,Zfh,Zfi,Zfk,Zfl,Zfn,Zfq,Zfz,Zf1,Zgr,Zgu,Zg4,Zg6,Zho,Zh6,Zh7,Zmt,Zmv,Zmw,Zmx,Zmz,Zm2,Zm6,Zna,Znb,Zne,Zns,Znt,Znw,Zn5,Zos,Zot,Zo7,Zo8,Zo9,Zpc,Zpi,Zqf,Zqg,Zqh,Zqm,eq_self,true_and,and_true,Nat.mul_one,h1,h2,hw,ga,gb,he,cB_length]
        tactic =>
        and_intros <;> try (first | omega | rfl | assumption | simp only [IN]; omega)
        unfold NextL; refine ⟨(k - 1), [], _, by omega, ⟨i + 1, by omega, rfl⟩, wkA ?_⟩
        sym =>
        simp [Zaa,Zab,Zac,Zad,Zae,Zaf,Zag,Zah,Zai,Zak,Zal,Zam,Zan,Zap,Zaq,Zav,Zaw,Zay,Zaz,Za0,Za1,Za2,Za3,Za4,Za5,Za9,Zba,Zbb,Zbc,Zbe,Zbf,Zbg,Zbu,Zb2,Zco,Zc7,Zc8,Zdo,Zdp,Zdq,Zdr,Zds,Zdt,Zdu,Zdv,Zdw,Zdx,Zdy,Zd0,Zd1,Zd2,Zeb,Zee,Zev,Zew,Zex,Zez,Ze0,Ze2,Ze5,Zfd,Zfe,Zfh,Zfi,Zfk,Zfl,Zfn,Zfq,Zfz,Zf1,Zgr,Zgu,Zg4,Zg6,Zho,Zh6,Zh7,Zmt,Zmv,Zmw,Zmx,Zmz,Zm2,Zm6,Zna,Znb,Zne,Zns,Znt,Znw,Zn5,Zos,Zot,Zo7,Zo8,Zo9,Zpc,Zpi,Zqf,Zqg,Zqh,Zqm,eq_self,true_and,and_true,Nat.mul_one]
      · have hai : alk a b = i := by
          have : ¬ i < alk a b := fun e => he (hat.2 e)
          omega
        sym =>
        simp [Zaa,Zab,Zac,Zad,Zae,Zaf,Zag,Zah,Zai,Zak,Zal,Zam,Zan,Zap,Zaq,Zav,Zaw,Zay,Zaz,Za0,Za1,Za2,Za3,Za4,Za5,Za9,Zba,Zbb,Zbc,Zbe,Zbf,Zbg,Zbu,Zb2,Zco,Zc7,Zc8,Zdo,Zdp,Zdq,Zdr,Zds,Zdt,Zdu,Zdv,Zdw,Zdx,Zdy,Zd0,Zd1,Zd2,Zeb,Zee,Zev,Zew,Zex,Zez,Ze0,Ze2,Ze5,Zfd,Zfe,Zfh,Zfi,Zfk,Zfl,Zfn,Zfq,Zfz,Zf1,Zgr,Zgu,Zg4,Zg6,Zho,Zh6,Zh7,Zmt,Zmv,Zmw,Zmx,Zmz,Zm2,Zm6,Zna,Znb,Zne,Zns,Znt,Znw,Zn5,Zos,Zot,Zo7,Zo8,Zo9,Zpc,Zpi,Zqf,Zqg,Zqh,Zqm,eq_self,true_and,and_true,Nat.mul_one,h1,h2,hw,ga,gb,he,cB_length]
        tactic =>
        and_intros <;> try (first | omega | rfl | assumption | simp only [IN]; omega)
        refine endA ?_
        sym =>
        simp [Zaa,Zab,Zac,Zad,Zae,Zaf,Zag,Zah,Zai,Zak,Zal,Zam,Zan,Zap,Zaq,Zav,Zaw,Zay,Zaz,Za0,Za1,Za2,Za3,Za4,Za5,Za9,Zba,Zbb,Zbc,Zbe,Zbf,Zbg,Zbu,Zb2,Zco,Zc7,Zc8,Zdo,Zdp,Zdq,Zdr,Zds,Zdt,Zdu,Zdv,Zdw,Zdx,Zdy,Zd0,Zd1,Zd2,Zeb,Zee,Zev,Zew,Zex,Zez,Ze0,Ze2,Ze5,Zfd,Zfe,Zfh,Zfi,Zfk,Zfl,Zfn,Zfq,Zfz,Zf1,Zgr,Zgu,Zg4,Zg6,Zho,Zh6,Zh7,Zmt,Zmv,Zmw,Zmx,Zmz,Zm2,Zm6,Zna,Znb,Zne,Zns,Znt,Znw,Zn5,Zos,Zot,Zo7,Zo8,Zo9,Zpc,Zpi,Zqf,Zqg,Zqh,Zqm,eq_self,true_and,and_true,Nat.mul_one,hai]
    · have hai : alk a b = i := by omega
      sym =>
      simp [Zaa,Zab,Zac,Zad,Zae,Zaf,Zag,Zah,Zai,Zak,Zal,Zam,Zan,Zap,Zaq,Zav,Zaw,Zay,Zaz,Za0,Za1,Za2,Za3,Za4,Za5,Za9,Zba,Zbb,Zbc,Zbe,Zbf,Zbg,Zbu,Zb2,Zco,Zc7,Zc8,Zdo,Zdp,Zdq,Zdr,Zds,Zdt,Zdu,Zdv,Zdw,Zdx,Zdy,Zd0,Zd1,Zd2,Zeb,Zee,Zev,Zew,Zex,Zez,Ze0,Ze2,Ze5,Zfd,Zfe,Zfh,Zfi,Zfk,Zfl,Zfn,Zfq,Zfz,Zf1,Zgr,Zgu,Zg4,Zg6,Zho,Zh6,Zh7,Zmt,Zmv,Zmw,Zmx,Zmz,Zm2,Zm6,Zna,Znb,Zne,Zns,Znt,Znw,Zn5,Zos,Zot,Zo7,Zo8,Zo9,Zpc,Zpi,Zqf,Zqg,Zqh,Zqm,eq_self,true_and,and_true,Nat.mul_one,h1,h2]
      tactic =>
      refine endA ?_
      sym =>
      simp [Zaa,Zab,Zac,Zad,Zae,Zaf,Zag,Zah,Zai,Zak,Zal,Zam,Zan,Zap,Zaq,Zav,Zaw,Zay,Zaz,Za0,Za1,Za2,Za3,Za4,Za5,Za9,Zba,Zbb,Zbc,Zbe,Zbf,Zbg,Zbu,Zb2,Zco,Zc7,Zc8,Zdo,Zdp,Zdq,Zdr,Zds,Zdt,Zdu,Zdv,Zdw,Zdx,Zdy,Zd0,Zd1,Zd2,Zeb,Zee,Zev,Zew,Zex,Zez,Ze0,Ze2,Ze5,Zfd,Zfe,Zfh,Zfi,Zfk,Zfl,Zfn,Zfq,Zfz,Zf1,Zgr,Zgu,Zg4,Zg6,Zho,Zh6,Zh7,Zmt,Zmv,Zmw,Zmx,Zmz,Zm2,Zm6,Zna,Znb,Zne,Zns,Znt,Znw,Zn5,Zos,Zot,Zo7,Zo8,Zo9,Zpc,Zpi,Zqf,Zqg,Zqh,Zqm,eq_self,true_and,and_true,Nat.mul_one,hai]
  · have hai : alk a b = i := by omega
    sym =>
    simp [Zaa,Zab,Zac,Zad,Zae,Zaf,Zag,Zah,Zai,Zak,Zal,Zam,Zan,Zap,Zaq,Zav,Zaw,Zay,Zaz,Za0,Za1,Za2,Za3,Za4,Za5,Za9,Zba,Zbb,Zbc,Zbe,Zbf,Zbg,Zbu,Zb2,Zco,Zc7,Zc8,Zdo,Zdp,Zdq,Zdr,Zds,Zdt,Zdu,Zdv,Zdw,Zdx,Zdy,Zd0,Zd1,Zd2,Zeb,Zee,Zev,Zew,Zex,Zez,Ze0,Ze2,Ze5,Zfd,Zfe,Zfh,Zfi,Zfk,Zfl,Zfn,Zfq,Zfz,Zf1,Zgr,Zgu,Zg4,Zg6,Zho,Zh6,Zh7,Zmt,Zmv,Zmw,Zmx,Zmz,Zm2,Zm6,Zna,Znb,Zne,Zns,Znt,Znw,Zn5,Zos,Zot,Zo7,Zo8,Zo9,Zpc,Zpi,Zqf,Zqg,Zqh,Zqm,eq_self,true_and,and_true,Nat.mul_one,h1]
    tactic =>
    refine endA ?_
    sym =>
    simp [Zaa,Zab,Zac,Zad,Zae,Zaf,Zag,Zah,Zai,Zak,Zal,Zam,Zan,Zap,Zaq,Zav,Zaw,Zay,Zaz,Za0,Za1,Za2,Za3,Za4,Za5,Za9,Zba,Zbb,Zbc,Zbe,Zbf,Zbg,Zbu,Zb2,Zco,Zc7,Zc8,Zdo,Zdp,Zdq,Zdr,Zds,Zdt,Zdu,Zdv,Zdw,Zdx,Zdy,Zd0,Zd1,Zd2,Zeb,Zee,Zev,Zew,Zex,Zez,Ze0,Ze2,Ze5,Zfd,Zfe,Zfh,Zfi,Zfk,Zfl,Zfn,Zfq,Zfz,Zf1,Zgr,Zgu,Zg4,Zg6,Zho,Zh6,Zh7,Zmt,Zmv,Zmw,Zmx,Zmz,Zm2,Zm6,Zna,Znb,Zne,Zns,Znt,Znw,Zn5,Zos,Zot,Zo7,Zo8,Zo9,Zpc,Zpi,Zqf,Zqg,Zqh,Zqm,eq_self,true_and,and_true,Nat.mul_one,hai]
/-- Of the first places the least from which on the most are the same. -/
def bst (old fresh : List Int) : Nat → Nat × Nat
  | 0 => (0, 0)
  | i + 1 => if (bst old fresh i).2 < alk (old.drop i) fresh then (i, alk (old.drop i) fresh) else bst old fresh i
theorem bst_le (old fresh : List Int) : ∀ i, (bst old fresh i).2 ≤ fresh.length ∧ (i ≤ old.length → (bst old fresh i).1 + (bst old fresh i).2 ≤ old.length)
  | 0 => ⟨Nat.zero_le _, fun _ => Nat.zero_le _⟩
  | i + 1 => by
    have h1 := bst_le old fresh i
    have h2 := alk_le (old.drop i) fresh
    rw [List.length_drop] at h2
    rw [bst]
    split
    · exact ⟨h2.2, fun h => by simp only; omega⟩
    · exact ⟨h1.1, fun h => h1.2 (by omega)⟩
theorem bst_stop (old fresh : List Int) (i : Nat) (h : (bst old fresh i).2 = fresh.length) : ∀ d, bst old fresh (i + d) = bst old fresh i
  | 0 => rfl
  | d + 1 => by
    have ih := bst_stop old fresh i h d
    have h2 := alk_le (old.drop (i + d)) fresh
    rw [← Nat.add_assoc, bst, ih, if_neg (by omega)]
def i55 (old fresh : List Int) (k : Nat) (s : St) : Prop := ∃ i : Nat, i + k = old.length ∧ s = ⟨[(0, fB old), (1, fB fresh), (4, .pt 0 0), (5, .pt 1 0), (9, I (IN old.length)), (10, I (IN i))], [(0, ⟨[I 0, I 0, .nl], 1, 0⟩), (1, ⟨[I (IN (bst old fresh i).1), I (IN (bst old fresh i).2), .nl], 1, 0⟩)], 2⟩
abbrev pL (q : Nat × Nat) : AV := .ag [I (IN q.1), I (IN q.2), .fz 0 []]
theorem longest_con (old fresh : List Int) (ho : old.length < 4611686018427387904) (hf : fresh.length < 4611686018427387904) : Con Try.prog 55 [] [fB old, fB fresh] [] (pL (bst old fresh old.length)) := by
  refine con_j b55 rfl ?_
  sym =>
  simp [Zaa,Zab,Zad,Zae,Zaf,Zag,Zah,Zai,Zaj,Zak,Zal,Zam,Zan,Zap,Zaq,Zau,Zav,Zaw,Zay,Zaz,Za0,Za1,Za2,Za3,Za4,Za5,Za9,Zba,Zbb,Zbf,Zbt,Zbv,Zb9,Zch,Zcn,Zcv,Zc3,Zdc,Zdd,Zde,Zdi,Zev,Zew,Zez,Ze0,Ze1,Ze2,Ze3,Ze5,Ze8,Zfc,Zfd,Zfe,Zfh,Zfn,Zfq,Zfz,Zf1,Zf3,Zgr,Zgs,Zgt,Zgv,Zgw,Zgx,Zhd,Zhe,Zhf,Zhg,Zhh,Zhm,Zhn,Zho,Zhs,Zht,Zhu,Zh6,Zh7,Zin,Ziu,Ziv,Ziw,Zi6,Zi7,Zjh,Zji,Zjn,Zjr,Zj2,Zla,Zlb,Zle,Zll,Zlz,Zmt,Zmv,Zmw,Zmy,Zm0,Zm1,Zm2,Zm5,Zm6,Zm7,Zm9,Zna,Znb,Zne,Znf,Zng,Znn,Zno,Znp,Znr,Zns,Znt,Znu,Znv,Znw,Zn5,Zof,Zog,Zos,Zot,Zo7,Zo8,Zo9,Zpa,Zpc,Zpd,Zpi,Zpu,Zpv,Zp8,Zqb,Zqc,Zqf,Zqg,Zqh,Zqi,Zqk,Zql,Zqm,Zqn,Zqr,List.length_drop,eq_self,true_and,and_true,Nat.mul_one]
  tactic =>
  refine lpA (i55 old fresh) old.length [(0, 0), (1, 1)] _ ⟨0, by omega, rfl⟩ (wkA ?_) ?_
  · sym =>
    simp [Zaa,Zab,Zad,Zae,Zaf,Zag,Zah,Zai,Zaj,Zak,Zal,Zam,Zan,Zap,Zaq,Zau,Zav,Zaw,Zay,Zaz,Za0,Za1,Za2,Za3,Za4,Za5,Za9,Zba,Zbb,Zbf,Zbt,Zbv,Zb9,Zch,Zcn,Zcv,Zc3,Zdc,Zdd,Zde,Zdi,Zev,Zew,Zez,Ze0,Ze1,Ze2,Ze3,Ze5,Ze8,Zfc,Zfd,Zfe,Zfh,Zfn,Zfq,Zfz,Zf1,Zf3,Zgr,Zgs,Zgt,Zgv,Zgw,Zgx,Zhd,Zhe,Zhf,Zhg,Zhh,Zhm,Zhn,Zho,Zhs,Zht,Zhu,Zh6,Zh7,Zin,Ziu,Ziv,Ziw,Zi6,Zi7,Zjh,Zji,Zjn,Zjr,Zj2,Zla,Zlb,Zle,Zll,Zlz,Zmt,Zmv,Zmw,Zmy,Zm0,Zm1,Zm2,Zm5,Zm6,Zm7,Zm9,Zna,Znb,Zne,Znf,Zng,Znn,Zno,Znp,Znr,Zns,Znt,Znu,Znv,Znw,Zn5,Zof,Zog,Zos,Zot,Zo7,Zo8,Zo9,Zpa,Zpc,Zpd,Zpi,Zpu,Zpv,Zp8,Zqb,Zqc,Zqf,Zqg,Zqh,Zqi,Zqk,Zql,Zqm,Zqn,Zqr,List.length_drop,eq_self,true_and,and_true,Nat.mul_one]
    tactic =>
    exact ⟨rfl, rfl⟩
  rintro k s ⟨i, hi, rfl⟩
  have hb := bst_le old fresh i
  have hstep : bst old fresh (i + 1) = if (bst old fresh i).2 < alk (old.drop i) fresh then (i, alk (old.drop i) fresh) else bst old fresh i := rfl
  have hstop := bst_stop old fresh (i + 1)
  obtain ⟨q, hq⟩ : ∃ q, q = bst old fresh i := ⟨_, rfl⟩
  rw [← hq] at hstep hb ⊢
  by_cases h : i < old.length
  · have hw := w64s i (by omega)
    obtain ⟨D, hD⟩ : ∃ D, D = old.drop i := ⟨_, rfl⟩
    have hDl : D.length = old.length - i := by rw [hD, List.length_drop]
    have hdt : List.take (old.length - i) (List.drop i (cB old)) = cB D := by
      rw [hD, cB_drop]; exact List.take_of_length_le (by rw [List.length_drop, cB_length]; exact Nat.le_refl _)
    have hc := alike_con D fresh (by omega)
    have hale := alk_le D fresh
    simp only [fB, hDl] at hc
    rw [← hD] at hstep
    obtain ⟨n, hn⟩ : ∃ n, n = alk D fresh := ⟨_, rfl⟩
    rw [← hn] at hc hstep hale
    sym =>
    simp [Zaa,Zab,Zad,Zae,Zaf,Zag,Zah,Zai,Zaj,Zak,Zal,Zam,Zan,Zap,Zaq,Zau,Zav,Zaw,Zay,Zaz,Za0,Za1,Za2,Za3,Za4,Za5,Za9,Zba,Zbb,Zbf,Zbt,Zbv,Zb9,Zch,Zcn,Zcv,Zc3,Zdc,Zdd,Zde,Zdi,Zev,Zew,Zez,Ze0,Ze1,Ze2,Ze3,Ze5,Ze8,Zfc,Zfd,Zfe,Zfh,Zfn,Zfq,Zfz,Zf1,Zf3,Zgr,Zgs,Zgt,Zgv,Zgw,Zgx,Zhd,Zhe,Zhf,Zhg,Zhh,Zhm,Zhn,Zho,Zhs,Zht,Zhu,Zh6,Zh7,Zin,Ziu,Ziv,Ziw,Zi6,Zi7,Zjh,Zji,Zjn,Zjr,Zj2,Zla,Zlb,Zle,Zll,Zlz,Zmt,Zmv,Zmw,Zmy,Zm0,Zm1,Zm2,Zm5,Zm6,Zm7,Zm9,Zna,Znb,Zne,Znf,Zng,Znn,Zno,Znp,Znr,Zns,Znt,Znu,Znv,Znw,Zn5,Zof,Zog,Zos,Zot,Zo7,Zo8,Zo9,Zpa,Zpc,Zpd,Zpi,Zpu,Zpv,Zp8,Zqb,Zqc,Zqf,Zqg,Zqh,Zqi,Zqk,Zql,Zqm,Zqn,Zqr,List.length_drop,eq_self,true_and,and_true,Nat.mul_one,h,hw,hdt,callable_75]
    tactic =>
    and_intros <;> try (first | omega | rfl | assumption | simp only [IN]; omega)
    refine cl none (hc) trivial ?_
    by_cases h2 : q.2 < n
    · rw [if_pos h2] at hstep
      rw [hstep] at hstop
      by_cases h3 : n = fresh.length
      · have := hstop h3 (old.length - (i + 1))
        rw [show i + 1 + (old.length - (i + 1)) = old.length from by omega] at this
        rw [this]
        have h2' : q.2 < fresh.length := by omega
        sym =>
        simp [Zaa,Zab,Zad,Zae,Zaf,Zag,Zah,Zai,Zaj,Zak,Zal,Zam,Zan,Zap,Zaq,Zau,Zav,Zaw,Zay,Zaz,Za0,Za1,Za2,Za3,Za4,Za5,Za9,Zba,Zbb,Zbf,Zbt,Zbv,Zb9,Zch,Zcn,Zcv,Zc3,Zdc,Zdd,Zde,Zdi,Zev,Zew,Zez,Ze0,Ze1,Ze2,Ze3,Ze5,Ze8,Zfc,Zfd,Zfe,Zfh,Zfn,Zfq,Zfz,Zf1,Zf3,Zgr,Zgs,Zgt,Zgv,Zgw,Zgx,Zhd,Zhe,Zhf,Zhg,Zhh,Zhm,Zhn,Zho,Zhs,Zht,Zhu,Zh6,Zh7,Zin,Ziu,Ziv,Ziw,Zi6,Zi7,Zjh,Zji,Zjn,Zjr,Zj2,Zla,Zlb,Zle,Zll,Zlz,Zmt,Zmv,Zmw,Zmy,Zm0,Zm1,Zm2,Zm5,Zm6,Zm7,Zm9,Zna,Znb,Zne,Znf,Zng,Znn,Zno,Znp,Znr,Zns,Znt,Znu,Znv,Znw,Zn5,Zof,Zog,Zos,Zot,Zo7,Zo8,Zo9,Zpa,Zpc,Zpd,Zpi,Zpu,Zpv,Zp8,Zqb,Zqc,Zqf,Zqg,Zqh,Zqi,Zqk,Zql,Zqm,Zqn,Zqr,List.length_drop,eq_self,true_and,and_true,Nat.mul_one,h2',h3]
        tactic =>
        refine endA ?_
        sym =>
        simp [Zaa,Zab,Zad,Zae,Zaf,Zag,Zah,Zai,Zaj,Zak,Zal,Zam,Zan,Zap,Zaq,Zau,Zav,Zaw,Zay,Zaz,Za0,Za1,Za2,Za3,Za4,Za5,Za9,Zba,Zbb,Zbf,Zbt,Zbv,Zb9,Zch,Zcn,Zcv,Zc3,Zdc,Zdd,Zde,Zdi,Zev,Zew,Zez,Ze0,Ze1,Ze2,Ze3,Ze5,Ze8,Zfc,Zfd,Zfe,Zfh,Zfn,Zfq,Zfz,Zf1,Zf3,Zgr,Zgs,Zgt,Zgv,Zgw,Zgx,Zhd,Zhe,Zhf,Zhg,Zhh,Zhm,Zhn,Zho,Zhs,Zht,Zhu,Zh6,Zh7,Zin,Ziu,Ziv,Ziw,Zi6,Zi7,Zjh,Zji,Zjn,Zjr,Zj2,Zla,Zlb,Zle,Zll,Zlz,Zmt,Zmv,Zmw,Zmy,Zm0,Zm1,Zm2,Zm5,Zm6,Zm7,Zm9,Zna,Znb,Zne,Znf,Zng,Znn,Zno,Znp,Znr,Zns,Znt,Znu,Znv,Znw,Zn5,Zof,Zog,Zos,Zot,Zo7,Zo8,Zo9,Zpa,Zpc,Zpd,Zpi,Zpu,Zpv,Zp8,Zqb,Zqc,Zqf,Zqg,Zqh,Zqi,Zqk,Zql,Zqm,Zqn,Zqr,List.length_drop,eq_self,true_and,and_true,Nat.mul_one]
      · sym =>
        simp [Zaa,Zab,Zad,Zae,Zaf,Zag,Zah,Zai,Zaj,Zak,Zal,Zam,Zan,Zap,Zaq,Zau,Zav,Zaw,Zay,Zaz,Za0,Za1,Za2,Za3,Za4,Za5,Za9,Zba,Zbb,Zbf,Zbt,Zbv,Zb9,Zch,Zcn,Zcv,Zc3,Zdc,Zdd,Zde,Zdi,Zev,Zew,Zez,Ze0,Ze1,Ze2,Ze3,Ze5,Ze8,Zfc,Zfd,Zfe,Zfh,Zfn,Zfq,Zfz,Zf1,Zf3,Zgr,Zgs,Zgt,Zgv,Zgw,Zgx,Zhd,Zhe,Zhf,Zhg,Zhh,Zhm,Zhn,Zho,Zhs,Zht,Zhu,Zh6,Zh7,Zin,Ziu,Ziv,Ziw,Zi6,Zi7,Zjh,Zji,Zjn,Zjr,Zj2,Zla,Zlb,Zle,Zll,Zlz,Zmt,Zmv,Zmw,Zmy,Zm0,Zm1,Zm2,Zm5,Zm6,Zm7,Zm9,Zna,Znb,Zne,Znf,Zng,Znn,Zno,Znp,Znr,Zns,Znt,Znu,Znv,Znw,Zn5,Zof,Zog,Zos,Zot,Zo7,Zo8,Zo9,Zpa,Zpc,Zpd,Zpi,Zpu,Zpv,Zp8,Zqb,Zqc,Zqf,Zqg,Zqh,Zqi,Zqk,Zql,Zqm,Zqn,Zqr,List.length_drop,eq_self,true_and,and_true,Nat.mul_one,h2,h3,hw]
        tactic =>
        unfold NextL; refine ⟨(k - 1), [(0, 0), (1, 1)], _, by omega, ⟨i + 1, by omega, rfl⟩, wkA ?_⟩
        rw [hstep]
        sym =>
        simp [Zaa,Zab,Zad,Zae,Zaf,Zag,Zah,Zai,Zaj,Zak,Zal,Zam,Zan,Zap,Zaq,Zau,Zav,Zaw,Zay,Zaz,Za0,Za1,Za2,Za3,Za4,Za5,Za9,Zba,Zbb,Zbf,Zbt,Zbv,Zb9,Zch,Zcn,Zcv,Zc3,Zdc,Zdd,Zde,Zdi,Zev,Zew,Zez,Ze0,Ze1,Ze2,Ze3,Ze5,Ze8,Zfc,Zfd,Zfe,Zfh,Zfn,Zfq,Zfz,Zf1,Zf3,Zgr,Zgs,Zgt,Zgv,Zgw,Zgx,Zhd,Zhe,Zhf,Zhg,Zhh,Zhm,Zhn,Zho,Zhs,Zht,Zhu,Zh6,Zh7,Zin,Ziu,Ziv,Ziw,Zi6,Zi7,Zjh,Zji,Zjn,Zjr,Zj2,Zla,Zlb,Zle,Zll,Zlz,Zmt,Zmv,Zmw,Zmy,Zm0,Zm1,Zm2,Zm5,Zm6,Zm7,Zm9,Zna,Znb,Zne,Znf,Zng,Znn,Zno,Znp,Znr,Zns,Znt,Znu,Znv,Znw,Zn5,Zof,Zog,Zos,Zot,Zo7,Zo8,Zo9,Zpa,Zpc,Zpd,Zpi,Zpu,Zpv,Zp8,Zqb,Zqc,Zqf,Zqg,Zqh,Zqi,Zqk,Zql,Zqm,Zqn,Zqr,List.length_drop,eq_self,true_and,and_true,Nat.mul_one]
    · rw [if_neg h2] at hstep
      rw [hstep] at hstop
      by_cases h3 : q.2 = fresh.length
      · have := hstop h3 (old.length - (i + 1))
        rw [show i + 1 + (old.length - (i + 1)) = old.length from by omega] at this
        rw [this]
        have h2' : ¬ fresh.length < n := by omega
        sym =>
        simp [Zaa,Zab,Zad,Zae,Zaf,Zag,Zah,Zai,Zaj,Zak,Zal,Zam,Zan,Zap,Zaq,Zau,Zav,Zaw,Zay,Zaz,Za0,Za1,Za2,Za3,Za4,Za5,Za9,Zba,Zbb,Zbf,Zbt,Zbv,Zb9,Zch,Zcn,Zcv,Zc3,Zdc,Zdd,Zde,Zdi,Zev,Zew,Zez,Ze0,Ze1,Ze2,Ze3,Ze5,Ze8,Zfc,Zfd,Zfe,Zfh,Zfn,Zfq,Zfz,Zf1,Zf3,Zgr,Zgs,Zgt,Zgv,Zgw,Zgx,Zhd,Zhe,Zhf,Zhg,Zhh,Zhm,Zhn,Zho,Zhs,Zht,Zhu,Zh6,Zh7,Zin,Ziu,Ziv,Ziw,Zi6,Zi7,Zjh,Zji,Zjn,Zjr,Zj2,Zla,Zlb,Zle,Zll,Zlz,Zmt,Zmv,Zmw,Zmy,Zm0,Zm1,Zm2,Zm5,Zm6,Zm7,Zm9,Zna,Znb,Zne,Znf,Zng,Znn,Zno,Znp,Znr,Zns,Znt,Znu,Znv,Znw,Zn5,Zof,Zog,Zos,Zot,Zo7,Zo8,Zo9,Zpa,Zpc,Zpd,Zpi,Zpu,Zpv,Zp8,Zqb,Zqc,Zqf,Zqg,Zqh,Zqi,Zqk,Zql,Zqm,Zqn,Zqr,List.length_drop,eq_self,true_and,and_true,Nat.mul_one,h2',h3]
        tactic =>
        refine endA ?_
        sym =>
        simp [Zaa,Zab,Zad,Zae,Zaf,Zag,Zah,Zai,Zaj,Zak,Zal,Zam,Zan,Zap,Zaq,Zau,Zav,Zaw,Zay,Zaz,Za0,Za1,Za2,Za3,Za4,Za5,Za9,Zba,Zbb,Zbf,Zbt,Zbv,Zb9,Zch,Zcn,Zcv,Zc3,Zdc,Zdd,Zde,Zdi,Zev,Zew,Zez,Ze0,Ze1,Ze2,Ze3,Ze5,Ze8,Zfc,Zfd,Zfe,Zfh,Zfn,Zfq,Zfz,Zf1,Zf3,Zgr,Zgs,Zgt,Zgv,Zgw,Zgx,Zhd,Zhe,Zhf,Zhg,Zhh,Zhm,Zhn,Zho,Zhs,Zht,Zhu,Zh6,Zh7,Zin,Ziu,Ziv,Ziw,Zi6,Zi7,Zjh,Zji,Zjn,Zjr,Zj2,Zla,Zlb,Zle,Zll,Zlz,Zmt,Zmv,Zmw,Zmy,Zm0,Zm1,Zm2,Zm5,Zm6,Zm7,Zm9,Zna,Znb,Zne,Znf,Zng,Znn,Zno,Znp,Znr,Zns,Znt,Znu,Znv,Znw,Zn5,Zof,Zog,Zos,Zot,Zo7,Zo8,Zo9,Zpa,Zpc,Zpd,Zpi,Zpu,Zpv,Zp8,Zqb,Zqc,Zqf,Zqg,Zqh,Zqi,Zqk,Zql,Zqm,Zqn,Zqr,List.length_drop,eq_self,true_and,and_true,Nat.mul_one]
      · sym =>
        simp [Zaa,Zab,Zad,Zae,Zaf,Zag,Zah,Zai,Zaj,Zak,Zal,Zam,Zan,Zap,Zaq,Zau,Zav,Zaw,Zay,Zaz,Za0,Za1,Za2,Za3,Za4,Za5,Za9,Zba,Zbb,Zbf,Zbt,Zbv,Zb9,Zch,Zcn,Zcv,Zc3,Zdc,Zdd,Zde,Zdi,Zev,Zew,Zez,Ze0,Ze1,Ze2,Ze3,Ze5,Ze8,Zfc,Zfd,Zfe,Zfh,Zfn,Zfq,Zfz,Zf1,Zf3,Zgr,Zgs,Zgt,Zgv,Zgw,Zgx,Zhd,Zhe,Zhf,Zhg,Zhh,Zhm,Zhn,Zho,Zhs,Zht,Zhu,Zh6,Zh7,Zin,Ziu,Ziv,Ziw,Zi6,Zi7,Zjh,Zji,Zjn,Zjr,Zj2,Zla,Zlb,Zle,Zll,Zlz,Zmt,Zmv,Zmw,Zmy,Zm0,Zm1,Zm2,Zm5,Zm6,Zm7,Zm9,Zna,Znb,Zne,Znf,Zng,Znn,Zno,Znp,Znr,Zns,Znt,Znu,Znv,Znw,Zn5,Zof,Zog,Zos,Zot,Zo7,Zo8,Zo9,Zpa,Zpc,Zpd,Zpi,Zpu,Zpv,Zp8,Zqb,Zqc,Zqf,Zqg,Zqh,Zqi,Zqk,Zql,Zqm,Zqn,Zqr,List.length_drop,eq_self,true_and,and_true,Nat.mul_one,h2,h3,hw]
        tactic =>
        unfold NextL; refine ⟨(k - 1), [(0, 0), (1, 1)], _, by omega, ⟨i + 1, by omega, rfl⟩, wkA ?_⟩
        rw [hstep]
        sym =>
        simp [Zaa,Zab,Zad,Zae,Zaf,Zag,Zah,Zai,Zaj,Zak,Zal,Zam,Zan,Zap,Zaq,Zau,Zav,Zaw,Zay,Zaz,Za0,Za1,Za2,Za3,Za4,Za5,Za9,Zba,Zbb,Zbf,Zbt,Zbv,Zb9,Zch,Zcn,Zcv,Zc3,Zdc,Zdd,Zde,Zdi,Zev,Zew,Zez,Ze0,Ze1,Ze2,Ze3,Ze5,Ze8,Zfc,Zfd,Zfe,Zfh,Zfn,Zfq,Zfz,Zf1,Zf3,Zgr,Zgs,Zgt,Zgv,Zgw,Zgx,Zhd,Zhe,Zhf,Zhg,Zhh,Zhm,Zhn,Zho,Zhs,Zht,Zhu,Zh6,Zh7,Zin,Ziu,Ziv,Ziw,Zi6,Zi7,Zjh,Zji,Zjn,Zjr,Zj2,Zla,Zlb,Zle,Zll,Zlz,Zmt,Zmv,Zmw,Zmy,Zm0,Zm1,Zm2,Zm5,Zm6,Zm7,Zm9,Zna,Znb,Zne,Znf,Zng,Znn,Zno,Znp,Znr,Zns,Znt,Znu,Znv,Znw,Zn5,Zof,Zog,Zos,Zot,Zo7,Zo8,Zo9,Zpa,Zpc,Zpd,Zpi,Zpu,Zpv,Zp8,Zqb,Zqc,Zqf,Zqg,Zqh,Zqi,Zqk,Zql,Zqm,Zqn,Zqr,List.length_drop,eq_self,true_and,and_true,Nat.mul_one]
  · have e : i = old.length := by omega
    rw [e] at hq
    rw [← hq]
    sym =>
    simp [Zaa,Zab,Zad,Zae,Zaf,Zag,Zah,Zai,Zaj,Zak,Zal,Zam,Zan,Zap,Zaq,Zau,Zav,Zaw,Zay,Zaz,Za0,Za1,Za2,Za3,Za4,Za5,Za9,Zba,Zbb,Zbf,Zbt,Zbv,Zb9,Zch,Zcn,Zcv,Zc3,Zdc,Zdd,Zde,Zdi,Zev,Zew,Zez,Ze0,Ze1,Ze2,Ze3,Ze5,Ze8,Zfc,Zfd,Zfe,Zfh,Zfn,Zfq,Zfz,Zf1,Zf3,Zgr,Zgs,Zgt,Zgv,Zgw,Zgx,Zhd,Zhe,Zhf,Zhg,Zhh,Zhm,Zhn,Zho,Zhs,Zht,Zhu,Zh6,Zh7,Zin,Ziu,Ziv,Ziw,Zi6,Zi7,Zjh,Zji,Zjn,Zjr,Zj2,Zla,Zlb,Zle,Zll,Zlz,Zmt,Zmv,Zmw,Zmy,Zm0,Zm1,Zm2,Zm5,Zm6,Zm7,Zm9,Zna,Znb,Zne,Znf,Zng,Znn,Zno,Znp,Znr,Zns,Znt,Znu,Znv,Znw,Zn5,Zof,Zog,Zos,Zot,Zo7,Zo8,Zo9,Zpa,Zpc,Zpd,Zpi,Zpu,Zpv,Zp8,Zqb,Zqc,Zqf,Zqg,Zqh,Zqi,Zqk,Zql,Zqm,Zqn,Zqr,List.length_drop,eq_self,true_and,and_true,Nat.mul_one,h]
    tactic =>
    refine endA ?_
    sym =>
    simp [Zaa,Zab,Zad,Zae,Zaf,Zag,Zah,Zai,Zaj,Zak,Zal,Zam,Zan,Zap,Zaq,Zau,Zav,Zaw,Zay,Zaz,Za0,Za1,Za2,Za3,Za4,Za5,Za9,Zba,Zbb,Zbf,Zbt,Zbv,Zb9,Zch,Zcn,Zcv,Zc3,Zdc,Zdd,Zde,Zdi,Zev,Zew,Zez,Ze0,Ze1,Ze2,Ze3,Ze5,Ze8,Zfc,Zfd,Zfe,Zfh,Zfn,Zfq,Zfz,Zf1,Zf3,Zgr,Zgs,Zgt,Zgv,Zgw,Zgx,Zhd,Zhe,Zhf,Zhg,Zhh,Zhm,Zhn,Zho,Zhs,Zht,Zhu,Zh6,Zh7,Zin,Ziu,Ziv,Ziw,Zi6,Zi7,Zjh,Zji,Zjn,Zjr,Zj2,Zla,Zlb,Zle,Zll,Zlz,Zmt,Zmv,Zmw,Zmy,Zm0,Zm1,Zm2,Zm5,Zm6,Zm7,Zm9,Zna,Znb,Zne,Znf,Zng,Znn,Zno,Znp,Znr,Zns,Znt,Znu,Znv,Znw,Zn5,Zof,Zog,Zos,Zot,Zo7,Zo8,Zo9,Zpa,Zpc,Zpd,Zpi,Zpu,Zpv,Zp8,Zqb,Zqc,Zqf,Zqg,Zqh,Zqi,Zqk,Zql,Zqm,Zqn,Zqr,List.length_drop,eq_self,true_and,and_true,Nat.mul_one]
theorem own_con (a b : Int) (q : List Int) : Con Try.prog 56 [] [.ag [I a, I b, fB q]] [] (Bo (decide (0 < q.length))) := by
  refine con_j b56 rfl ?_
  sym =>
  simp [Zab,Zad,Zak,Zam,Zaz,Za0,Za1,Za2,Za3,Za4,Za5,Za9,Zba,Zbb,Zbf,Zbt,Zbv,Zcn,Zcx,Zev,Zew,Zez,Ze0,Ze2,Ze3,Ze5,Ze8,Zfc,Zfd,Zfe,Zfh,Zfn,Zf3,Zgr,Zgs,Zgt,Zgv,Zgw,Zgx,Zh6,Zh7,Zio,Zip,Zi6,Zmt,Zmv,Zmw,Zmx,Zmz,Zm2,Zm6,Zm9,Zna,Znb,Znx,Zos,Zot,Zo7,Zpc,eq_self,true_and]
  tactic =>
  refine endA ?_
  sym =>
  simp [Zab,Zad,Zak,Zam,Zaz,Za0,Za1,Za2,Za3,Za4,Za5,Za9,Zba,Zbb,Zbf,Zbt,Zbv,Zcn,Zcx,Zev,Zew,Zez,Ze0,Ze2,Ze3,Ze5,Ze8,Zfc,Zfd,Zfe,Zfh,Zfn,Zf3,Zgr,Zgs,Zgt,Zgv,Zgw,Zgx,Zh6,Zh7,Zio,Zip,Zi6,Zmt,Zmv,Zmw,Zmx,Zmz,Zm2,Zm6,Zm9,Zna,Znb,Znx,Zos,Zot,Zo7,Zpc,eq_self,true_and]
def rightF (p : Pc) : Bool := if 0 < p.2.2.length then (if p.1 = 0 then decide (p.2.1 = 0) else false) else (if 0 < p.2.1 then decide (0 ≤ p.1) else false)
theorem right_con (a b : Int) (q : List Int) : Con Try.prog 57 [] [.ag [I a, I b, fB q]] [] (Bo (rightF (a, b, q))) := by
  refine con_j b57 rfl ?_
  have e : rightF (a, b, q) = if 0 < q.length then (if a = 0 then decide (b = 0) else false) else (if 0 < b then decide (0 ≤ a) else false) := rfl
  rw [e]
  sym =>
  simp [Zaa,Zab,Zad,Zae,Zaf,Zak,Zal,Zam,Zao,Zaz,Za0,Za1,Za2,Za3,Za4,Za5,Za6,Za7,Za8,Za9,Zba,Zbb,Zbd,Zbf,Zbt,Zbv,Zcx,Zdc,Zdd,Zde,Zdi,Zev,Zew,Zex,Zez,Ze0,Ze2,Ze3,Ze5,Ze8,Zfc,Zfd,Zfe,Zfh,Zfi,Zfk,Zfl,Zfn,Zfz,Zf3,Zf4,Zgr,Zgs,Zgt,Zgv,Zgw,Zgx,Zio,Zip,Zi6,Zjw,Zla,Zlb,Zlc,Zld,Zle,Zlf,Zlh,Zlk,Zlm,Zlz,Zmt,Zmv,Zmw,Zmx,Zmz,Zm2,Zm5,Zm6,Zm7,Zm9,Zna,Znb,Zne,Znf,Zng,Zos,Zot,Zo7,Zo8,Zo9,Zpc,eq_self,true_and,and_true,callable_56]
  tactic =>
  refine cl none (own_con a b q) trivial ?_
  by_cases h : 0 < q.length
  · by_cases h2 : a = 0
    · sym =>
      simp [Zaa,Zab,Zad,Zae,Zaf,Zak,Zal,Zam,Zao,Zaz,Za0,Za1,Za2,Za3,Za4,Za5,Za6,Za7,Za8,Za9,Zba,Zbb,Zbd,Zbf,Zbt,Zbv,Zcx,Zdc,Zdd,Zde,Zdi,Zev,Zew,Zex,Zez,Ze0,Ze2,Ze3,Ze5,Ze8,Zfc,Zfd,Zfe,Zfh,Zfi,Zfk,Zfl,Zfn,Zfz,Zf3,Zf4,Zgr,Zgs,Zgt,Zgv,Zgw,Zgx,Zio,Zip,Zi6,Zjw,Zla,Zlb,Zlc,Zld,Zle,Zlf,Zlh,Zlk,Zlm,Zlz,Zmt,Zmv,Zmw,Zmx,Zmz,Zm2,Zm5,Zm6,Zm7,Zm9,Zna,Znb,Zne,Znf,Zng,Zos,Zot,Zo7,Zo8,Zo9,Zpc,eq_self,true_and,and_true,h,h2]
      tactic =>
      refine endA ?_
      sym =>
      simp [Zaa,Zab,Zad,Zae,Zaf,Zak,Zal,Zam,Zao,Zaz,Za0,Za1,Za2,Za3,Za4,Za5,Za6,Za7,Za8,Za9,Zba,Zbb,Zbd,Zbf,Zbt,Zbv,Zcx,Zdc,Zdd,Zde,Zdi,Zev,Zew,Zex,Zez,Ze0,Ze2,Ze3,Ze5,Ze8,Zfc,Zfd,Zfe,Zfh,Zfi,Zfk,Zfl,Zfn,Zfz,Zf3,Zf4,Zgr,Zgs,Zgt,Zgv,Zgw,Zgx,Zio,Zip,Zi6,Zjw,Zla,Zlb,Zlc,Zld,Zle,Zlf,Zlh,Zlk,Zlm,Zlz,Zmt,Zmv,Zmw,Zmx,Zmz,Zm2,Zm5,Zm6,Zm7,Zm9,Zna,Znb,Zne,Znf,Zng,Zos,Zot,Zo7,Zo8,Zo9,Zpc,eq_self,true_and,and_true,h,h2]
    · sym =>
      simp [Zaa,Zab,Zad,Zae,Zaf,Zak,Zal,Zam,Zao,Zaz,Za0,Za1,Za2,Za3,Za4,Za5,Za6,Za7,Za8,Za9,Zba,Zbb,Zbd,Zbf,Zbt,Zbv,Zcx,Zdc,Zdd,Zde,Zdi,Zev,Zew,Zex,Zez,Ze0,Ze2,Ze3,Ze5,Ze8,Zfc,Zfd,Zfe,Zfh,Zfi,Zfk,Zfl,Zfn,Zfz,Zf3,Zf4,Zgr,Zgs,Zgt,Zgv,Zgw,Zgx,Zio,Zip,Zi6,Zjw,Zla,Zlb,Zlc,Zld,Zle,Zlf,Zlh,Zlk,Zlm,Zlz,Zmt,Zmv,Zmw,Zmx,Zmz,Zm2,Zm5,Zm6,Zm7,Zm9,Zna,Znb,Zne,Znf,Zng,Zos,Zot,Zo7,Zo8,Zo9,Zpc,eq_self,true_and,and_true,h,h2]
      tactic =>
      refine endA ?_
      sym =>
      simp [Zaa,Zab,Zad,Zae,Zaf,Zak,Zal,Zam,Zao,Zaz,Za0,Za1,Za2,Za3,Za4,Za5,Za6,Za7,Za8,Za9,Zba,Zbb,Zbd,Zbf,Zbt,Zbv,Zcx,Zdc,Zdd,Zde,Zdi,Zev,Zew,Zex,Zez,Ze0,Ze2,Ze3,Ze5,Ze8,Zfc,Zfd,Zfe,Zfh,Zfi,Zfk,Zfl,Zfn,Zfz,Zf3,Zf4,Zgr,Zgs,Zgt,Zgv,Zgw,Zgx,Zio,Zip,Zi6,Zjw,Zla,Zlb,Zlc,Zld,Zle,Zlf,Zlh,Zlk,Zlm,Zlz,Zmt,Zmv,Zmw,Zmx,Zmz,Zm2,Zm5,Zm6,Zm7,Zm9,Zna,Znb,Zne,Znf,Zng,Zos,Zot,Zo7,Zo8,Zo9,Zpc,eq_self,true_and,and_true,h,h2]
  · by_cases h2 : 0 < b
    · sym =>
      simp [Zaa,Zab,Zad,Zae,Zaf,Zak,Zal,Zam,Zao,Zaz,Za0,Za1,Za2,Za3,Za4,Za5,Za6,Za7,Za8,Za9,Zba,Zbb,Zbd,Zbf,Zbt,Zbv,Zcx,Zdc,Zdd,Zde,Zdi,Zev,Zew,Zex,Zez,Ze0,Ze2,Ze3,Ze5,Ze8,Zfc,Zfd,Zfe,Zfh,Zfi,Zfk,Zfl,Zfn,Zfz,Zf3,Zf4,Zgr,Zgs,Zgt,Zgv,Zgw,Zgx,Zio,Zip,Zi6,Zjw,Zla,Zlb,Zlc,Zld,Zle,Zlf,Zlh,Zlk,Zlm,Zlz,Zmt,Zmv,Zmw,Zmx,Zmz,Zm2,Zm5,Zm6,Zm7,Zm9,Zna,Znb,Zne,Znf,Zng,Zos,Zot,Zo7,Zo8,Zo9,Zpc,eq_self,true_and,and_true,h,h2]
      tactic =>
      refine endA ?_
      sym =>
      simp [Zaa,Zab,Zad,Zae,Zaf,Zak,Zal,Zam,Zao,Zaz,Za0,Za1,Za2,Za3,Za4,Za5,Za6,Za7,Za8,Za9,Zba,Zbb,Zbd,Zbf,Zbt,Zbv,Zcx,Zdc,Zdd,Zde,Zdi,Zev,Zew,Zex,Zez,Ze0,Ze2,Ze3,Ze5,Ze8,Zfc,Zfd,Zfe,Zfh,Zfi,Zfk,Zfl,Zfn,Zfz,Zf3,Zf4,Zgr,Zgs,Zgt,Zgv,Zgw,Zgx,Zio,Zip,Zi6,Zjw,Zla,Zlb,Zlc,Zld,Zle,Zlf,Zlh,Zlk,Zlm,Zlz,Zmt,Zmv,Zmw,Zmx,Zmz,Zm2,Zm5,Zm6,Zm7,Zm9,Zna,Znb,Zne,Znf,Zng,Zos,Zot,Zo7,Zo8,Zo9,Zpc,eq_self,true_and,and_true,h,h2]
    · sym =>
      simp [Zaa,Zab,Zad,Zae,Zaf,Zak,Zal,Zam,Zao,Zaz,Za0,Za1,Za2,Za3,Za4,Za5,Za6,Za7,Za8,Za9,Zba,Zbb,Zbd,Zbf,Zbt,Zbv,Zcx,Zdc,Zdd,Zde,Zdi,Zev,Zew,Zex,Zez,Ze0,Ze2,Ze3,Ze5,Ze8,Zfc,Zfd,Zfe,Zfh,Zfi,Zfk,Zfl,Zfn,Zfz,Zf3,Zf4,Zgr,Zgs,Zgt,Zgv,Zgw,Zgx,Zio,Zip,Zi6,Zjw,Zla,Zlb,Zlc,Zld,Zle,Zlf,Zlh,Zlk,Zlm,Zlz,Zmt,Zmv,Zmw,Zmx,Zmz,Zm2,Zm5,Zm6,Zm7,Zm9,Zna,Znb,Zne,Znf,Zng,Zos,Zot,Zo7,Zo8,Zo9,Zpc,eq_self,true_and,and_true,h,h2]
      tactic =>
      refine endA ?_
      sym =>
      simp [Zaa,Zab,Zad,Zae,Zaf,Zak,Zal,Zam,Zao,Zaz,Za0,Za1,Za2,Za3,Za4,Za5,Za6,Za7,Za8,Za9,Zba,Zbb,Zbd,Zbf,Zbt,Zbv,Zcx,Zdc,Zdd,Zde,Zdi,Zev,Zew,Zex,Zez,Ze0,Ze2,Ze3,Ze5,Ze8,Zfc,Zfd,Zfe,Zfh,Zfi,Zfk,Zfl,Zfn,Zfz,Zf3,Zf4,Zgr,Zgs,Zgt,Zgv,Zgw,Zgx,Zio,Zip,Zi6,Zjw,Zla,Zlb,Zlc,Zld,Zle,Zlf,Zlh,Zlk,Zlm,Zlz,Zmt,Zmv,Zmw,Zmx,Zmz,Zm2,Zm5,Zm6,Zm7,Zm9,Zna,Znb,Zne,Znf,Zng,Zos,Zot,Zo7,Zo8,Zo9,Zpc,eq_self,true_and,and_true,h,h2]
theorem rright_con (a b : Int) (q : List Int) : Con Try.prog 62 [] [.ag [I a, I b, fB q]] [] (Bo (rightF (a, b, q))) := by
  refine con_j b62 rfl ?_
  have e : rightF (a, b, q) = if 0 < q.length then (if a = 0 then decide (b = 0) else false) else (if 0 < b then decide (0 ≤ a) else false) := rfl
  rw [e]
  by_cases h : 0 < q.length
  · by_cases h2 : a = 0
    · sym =>
      simp [Zaa,Zab,Zad,Zae,Zaf,Zak,Zal,Zam,Zao,Zaz,Za0,Za1,Za2,Za3,Za4,Za5,Za6,Za7,Za8,Za9,Zba,Zbb,Zbd,Zbf,Zbt,Zbv,Zcn,Zcx,Zev,Zew,Zex,Zez,Ze0,Ze2,Ze3,Ze5,Ze8,Zfc,Zfd,Zfe,Zfh,Zfi,Zfk,Zfl,Zfn,Zfz,Zf3,Zf4,Zgr,Zgs,Zgt,Zgv,Zgw,Zgx,Zh6,Zh7,Zio,Zip,Zi6,Zmt,Zmv,Zmw,Zmx,Zmz,Zm2,Zm6,Zm9,Zna,Znb,Znx,Zos,Zot,Zo7,Zo8,Zo9,Zpc,eq_self,true_and,h,h2]
      tactic =>
      refine endA ?_
      sym =>
      simp [Zaa,Zab,Zad,Zae,Zaf,Zak,Zal,Zam,Zao,Zaz,Za0,Za1,Za2,Za3,Za4,Za5,Za6,Za7,Za8,Za9,Zba,Zbb,Zbd,Zbf,Zbt,Zbv,Zcn,Zcx,Zev,Zew,Zex,Zez,Ze0,Ze2,Ze3,Ze5,Ze8,Zfc,Zfd,Zfe,Zfh,Zfi,Zfk,Zfl,Zfn,Zfz,Zf3,Zf4,Zgr,Zgs,Zgt,Zgv,Zgw,Zgx,Zh6,Zh7,Zio,Zip,Zi6,Zmt,Zmv,Zmw,Zmx,Zmz,Zm2,Zm6,Zm9,Zna,Znb,Znx,Zos,Zot,Zo7,Zo8,Zo9,Zpc,eq_self,true_and,h,h2]
    · sym =>
      simp [Zaa,Zab,Zad,Zae,Zaf,Zak,Zal,Zam,Zao,Zaz,Za0,Za1,Za2,Za3,Za4,Za5,Za6,Za7,Za8,Za9,Zba,Zbb,Zbd,Zbf,Zbt,Zbv,Zcn,Zcx,Zev,Zew,Zex,Zez,Ze0,Ze2,Ze3,Ze5,Ze8,Zfc,Zfd,Zfe,Zfh,Zfi,Zfk,Zfl,Zfn,Zfz,Zf3,Zf4,Zgr,Zgs,Zgt,Zgv,Zgw,Zgx,Zh6,Zh7,Zio,Zip,Zi6,Zmt,Zmv,Zmw,Zmx,Zmz,Zm2,Zm6,Zm9,Zna,Znb,Znx,Zos,Zot,Zo7,Zo8,Zo9,Zpc,eq_self,true_and,h,h2]
      tactic =>
      refine endA ?_
      sym =>
      simp [Zaa,Zab,Zad,Zae,Zaf,Zak,Zal,Zam,Zao,Zaz,Za0,Za1,Za2,Za3,Za4,Za5,Za6,Za7,Za8,Za9,Zba,Zbb,Zbd,Zbf,Zbt,Zbv,Zcn,Zcx,Zev,Zew,Zex,Zez,Ze0,Ze2,Ze3,Ze5,Ze8,Zfc,Zfd,Zfe,Zfh,Zfi,Zfk,Zfl,Zfn,Zfz,Zf3,Zf4,Zgr,Zgs,Zgt,Zgv,Zgw,Zgx,Zh6,Zh7,Zio,Zip,Zi6,Zmt,Zmv,Zmw,Zmx,Zmz,Zm2,Zm6,Zm9,Zna,Znb,Znx,Zos,Zot,Zo7,Zo8,Zo9,Zpc,eq_self,true_and,h,h2]
  · by_cases h2 : 0 < b
    · have h3 : b ≥ 1 := by omega
      sym =>
      simp [Zaa,Zab,Zad,Zae,Zaf,Zak,Zal,Zam,Zao,Zaz,Za0,Za1,Za2,Za3,Za4,Za5,Za6,Za7,Za8,Za9,Zba,Zbb,Zbd,Zbf,Zbt,Zbv,Zcn,Zcx,Zev,Zew,Zex,Zez,Ze0,Ze2,Ze3,Ze5,Ze8,Zfc,Zfd,Zfe,Zfh,Zfi,Zfk,Zfl,Zfn,Zfz,Zf3,Zf4,Zgr,Zgs,Zgt,Zgv,Zgw,Zgx,Zh6,Zh7,Zio,Zip,Zi6,Zmt,Zmv,Zmw,Zmx,Zmz,Zm2,Zm6,Zm9,Zna,Znb,Znx,Zos,Zot,Zo7,Zo8,Zo9,Zpc,eq_self,true_and,h,h2,h3]
      tactic =>
      refine endA ?_
      sym =>
      simp [Zaa,Zab,Zad,Zae,Zaf,Zak,Zal,Zam,Zao,Zaz,Za0,Za1,Za2,Za3,Za4,Za5,Za6,Za7,Za8,Za9,Zba,Zbb,Zbd,Zbf,Zbt,Zbv,Zcn,Zcx,Zev,Zew,Zex,Zez,Ze0,Ze2,Ze3,Ze5,Ze8,Zfc,Zfd,Zfe,Zfh,Zfi,Zfk,Zfl,Zfn,Zfz,Zf3,Zf4,Zgr,Zgs,Zgt,Zgv,Zgw,Zgx,Zh6,Zh7,Zio,Zip,Zi6,Zmt,Zmv,Zmw,Zmx,Zmz,Zm2,Zm6,Zm9,Zna,Znb,Znx,Zos,Zot,Zo7,Zo8,Zo9,Zpc,eq_self,true_and,h,h2]
    · have h3 : ¬ b ≥ 1 := by omega
      sym =>
      simp [Zaa,Zab,Zad,Zae,Zaf,Zak,Zal,Zam,Zao,Zaz,Za0,Za1,Za2,Za3,Za4,Za5,Za6,Za7,Za8,Za9,Zba,Zbb,Zbd,Zbf,Zbt,Zbv,Zcn,Zcx,Zev,Zew,Zex,Zez,Ze0,Ze2,Ze3,Ze5,Ze8,Zfc,Zfd,Zfe,Zfh,Zfi,Zfk,Zfl,Zfn,Zfz,Zf3,Zf4,Zgr,Zgs,Zgt,Zgv,Zgw,Zgx,Zh6,Zh7,Zio,Zip,Zi6,Zmt,Zmv,Zmw,Zmx,Zmz,Zm2,Zm6,Zm9,Zna,Znb,Znx,Zos,Zot,Zo7,Zo8,Zo9,Zpc,eq_self,true_and,h,h2,h3]
      tactic =>
      refine endA ?_
      sym =>
      simp [Zaa,Zab,Zad,Zae,Zaf,Zak,Zal,Zam,Zao,Zaz,Za0,Za1,Za2,Za3,Za4,Za5,Za6,Za7,Za8,Za9,Zba,Zbb,Zbd,Zbf,Zbt,Zbv,Zcn,Zcx,Zev,Zew,Zex,Zez,Ze0,Ze2,Ze3,Ze5,Ze8,Zfc,Zfd,Zfe,Zfh,Zfi,Zfk,Zfl,Zfn,Zfz,Zf3,Zf4,Zgr,Zgs,Zgt,Zgv,Zgw,Zgx,Zh6,Zh7,Zio,Zip,Zi6,Zmt,Zmv,Zmw,Zmx,Zmz,Zm2,Zm6,Zm9,Zna,Znb,Znx,Zos,Zot,Zo7,Zo8,Zo9,Zpc,eq_self,true_and,h,h2]
def fin (P : List Pc) (q : List Int) : List Pc := if q = [] then P else P ++ [(0, 0, q)]
/-- The pieces, as they are made: those that are ended, the bytes of the last one of its own, what is still to be made. -/
def mkR (old : List Int) : Nat → List Pc → List Int → List Int → List Pc
  | 0, P, q, _ => fin P q
  | _ + 1, P, q, [] => fin P q
  | n + 1, P, q, x :: fr => if 8 ≤ (bst old (x :: fr) old.length).2 then mkR old n (fin P q ++ [(IN (bst old (x :: fr) old.length).1, IN (bst old (x :: fr) old.length).2, [])]) [] ((x :: fr).drop (bst old (x :: fr) old.length).2) else mkR old n P (q ++ [x]) fr
def mkF (old fresh : List Int) : List Pc := mkR old fresh.length [] [] fresh
def clo (P : List Pc) : Prop := P = [] ∨ ∃ P' a b, P = P' ++ [(a, b, [])]
theorem ap_len (P : List Pc) (X Y Z : AV) : (cP P ++ [X, Y, Z]).length = P.length * 3 + 3 := by simp [cP_length]
theorem ap_get (P : List Pc) (l : List AV) (j : Nat) : (cP P ++ l).getD (P.length * 3 + j) .un = l.getD j .un := by
  rw [List.getD_eq_getElem?_getD, List.getElem?_append_right (by rw [cP_length]; omega), cP_length, Nat.add_sub_cancel_left, List.getD_eq_getElem?_getD]
theorem ap_set (P : List Pc) (X Y Z W : AV) : (cP P ++ [X, Y, Z]).set (P.length * 3 + 2) W = cP P ++ [X, Y, W] := by
  rw [List.set_append_right _ _ (by rw [cP_length]; omega), cP_length, Nat.add_sub_cancel_left]
  rfl
theorem fin_length (P : List Pc) (q : List Int) : (fin P q).length ≤ P.length + q.length := by
  unfold fin
  split
  · omega
  · rename_i h
    have : 0 < q.length := by
      cases q with
      | nil => exact absurd rfl h
      | cons a q => simp
    simp; omega
abbrev sC (old rest : List Int) (P : List Pc) : St := ⟨[(0, fB old), (1, fB rest), (5, .lv 0 0 P.length)], [(0, ⟨cP P, 3, 0⟩)], 1⟩
abbrev sO (old rest : List Int) (P : List Pc) (q : List Int) : St := ⟨[(0, fB old), (1, fB rest), (5, .lv 0 0 (P.length + 1))], [(0, ⟨cP P ++ [I 0, I 0, .lv 1 0 q.length], 3, 0⟩), (1, ⟨cB q, 1, 0⟩)], 2⟩
theorem clo_last {P : List Pc} (h : clo P) (h0 : P.length ≠ 0) : ∃ a b, (cP P).getD ((P.length - 1) * 3) .un = I a ∧ (cP P).getD ((P.length - 1) * 3 + 1) .un = I b ∧ (cP P).getD ((P.length - 1) * 3 + 1 + 1) .un = .fz 0 [] := by
  rcases h with rfl | ⟨P', a, b, rfl⟩
  · exact absurd rfl h0
  · have e : (P' ++ [(a, b, [])]).length - 1 = P'.length := by simp
    rw [e, cP_snoc]
    exact ⟨a, b, ap_get P' _ 0, ap_get P' _ 1, ap_get P' _ 2⟩
def i27 (old : List Int) (R : List Pc) (N : Nat) (k : Nat) (s : St) : Prop := ∃ P q rest n, mkR old n P q rest = R ∧ rest.length ≤ n ∧ k = rest.length ∧ clo P ∧ P.length + q.length + rest.length ≤ N ∧ ((q = [] ∨ rest = []) ∧ s = sC old rest (fin P q) ∨ q ≠ [] ∧ rest ≠ [] ∧ s = sO old rest P q)
theorem make_con (old fresh : List Int) (ho : old.length ≤ 1000000) (hf : fresh.length ≤ 1000000) : Con Try.prog 27 [] [fB old, fB fresh] [] (fP (mkF old fresh)) := by
  refine con_j b27 rfl ?_
  sym =>
  simp [Zaa,Zab,Zac,Zad,Zae,Zaf,Zag,Zah,Zai,Zak,Zal,Zam,Zan,Zap,Zaq,Zav,Zaw,Zay,Zaz,Za0,Za1,Za2,Za3,Za4,Za5,Za6,Za7,Za8,Za9,Zba,Zbb,Zbc,Zbd,Zbf,Zbj,Zbt,Zbu,Zbv,Zbw,Zb1,Zb2,Zb9,Zch,Zcn,Zcv,Zcz,Zc0,Zc3,Zc4,Zc5,Zc6,Zc7,Zc8,Zc9,Zdc,Zdd,Zde,Zdi,Zdo,Zdp,Zdt,Zdu,Zdv,Zdw,Zdx,Zdy,Zdz,Zd0,Zd1,Zd2,Zd5,Zeb,Zee,Zeh,Zek,Zev,Zew,Zex,Zez,Ze0,Ze1,Ze2,Ze3,Ze4,Ze5,Ze8,Zfb,Zfc,Zfd,Zfe,Zff,Zfg,Zfh,Zfi,Zfj,Zfl,Zfn,Zfr,Zfz,Zf3,Zf4,Zgd,Zgg,Zgr,Zgs,Zgt,Zgu,Zgv,Zgw,Zgx,Zg4,Zg5,Zg6,Zhd,Zhe,Zhf,Zhg,Zhh,Zhm,Zhn,Zho,Zhs,Zht,Zhu,Zh6,Zh7,Zh9,Zin,Ziq,Zir,Ziu,Ziv,Ziw,Zix,Ziy,Ziz,Zi0,Zi2,Zi3,Zi6,Zi7,Zje,Zjg,Zjh,Zji,Zjj,Zjk,Zjl,Zjm,Zjn,Zjo,Zjp,Zjq,Zjw,Zj3,Zj7,Zj8,Zka,Zkl,Zkv,Zkx,Zla,Zlb,Zlc,Zld,Zle,Zlf,Zlh,Zlk,Zll,Zlm,Zlv,Zlx,Zlz,Zl2,Zmt,Zmv,Zmw,Zmx,Zmz,Zm2,Zm5,Zm6,Zm7,Zm9,Zna,Znb,Znc,Znd,Zne,Znf,Zng,Znh,Znl,Znm,Znn,Zno,Znp,Znr,Zns,Znt,Znu,Znw,Znx,Zny,Zn5,Zod,Zoi,Zrd,Zos,Zot,Zo3,Zo4,Zo6,Zo7,Zo8,Zo9,Zpa,Zpg,Zpi,Zpm,Zpo,Zpr,Zpy,Zp0,Zp1,Zp2,Zp3,Zqb,Zqc,Zqf,Zqg,Zqh,Zqi,Zqj,Zqk,Zql,Zqm,Zqn,Zqo,List.append_assoc,List.length_append,List.length_drop,eq_self,true_and,and_true,and_false,not_false_eq_true,Nat.zero_add,Nat.mul_one]
  tactic =>
  refine lpA (i27 old (mkF old fresh) fresh.length) fresh.length [] _ ⟨[], [], fresh, fresh.length, rfl, Nat.le_refl _, rfl, .inl rfl, by simp, .inl ⟨.inl rfl, rfl⟩⟩ (wkA ?_) ?_
  · sym =>
    simp [Zaa,Zab,Zac,Zad,Zae,Zaf,Zag,Zah,Zai,Zak,Zal,Zam,Zan,Zap,Zaq,Zav,Zaw,Zay,Zaz,Za0,Za1,Za2,Za3,Za4,Za5,Za6,Za7,Za8,Za9,Zba,Zbb,Zbc,Zbd,Zbf,Zbj,Zbt,Zbu,Zbv,Zbw,Zb1,Zb2,Zb9,Zch,Zcn,Zcv,Zcz,Zc0,Zc3,Zc4,Zc5,Zc6,Zc7,Zc8,Zc9,Zdc,Zdd,Zde,Zdi,Zdo,Zdp,Zdt,Zdu,Zdv,Zdw,Zdx,Zdy,Zdz,Zd0,Zd1,Zd2,Zd5,Zeb,Zee,Zeh,Zek,Zev,Zew,Zex,Zez,Ze0,Ze1,Ze2,Ze3,Ze4,Ze5,Ze8,Zfb,Zfc,Zfd,Zfe,Zff,Zfg,Zfh,Zfi,Zfj,Zfl,Zfn,Zfr,Zfz,Zf3,Zf4,Zgd,Zgg,Zgr,Zgs,Zgt,Zgu,Zgv,Zgw,Zgx,Zg4,Zg5,Zg6,Zhd,Zhe,Zhf,Zhg,Zhh,Zhm,Zhn,Zho,Zhs,Zht,Zhu,Zh6,Zh7,Zh9,Zin,Ziq,Zir,Ziu,Ziv,Ziw,Zix,Ziy,Ziz,Zi0,Zi2,Zi3,Zi6,Zi7,Zje,Zjg,Zjh,Zji,Zjj,Zjk,Zjl,Zjm,Zjn,Zjo,Zjp,Zjq,Zjw,Zj3,Zj7,Zj8,Zka,Zkl,Zkv,Zkx,Zla,Zlb,Zlc,Zld,Zle,Zlf,Zlh,Zlk,Zll,Zlm,Zlv,Zlx,Zlz,Zl2,Zmt,Zmv,Zmw,Zmx,Zmz,Zm2,Zm5,Zm6,Zm7,Zm9,Zna,Znb,Znc,Znd,Zne,Znf,Zng,Znh,Znl,Znm,Znn,Zno,Znp,Znr,Zns,Znt,Znu,Znw,Znx,Zny,Zn5,Zod,Zoi,Zrd,Zos,Zot,Zo3,Zo4,Zo6,Zo7,Zo8,Zo9,Zpa,Zpg,Zpi,Zpm,Zpo,Zpr,Zpy,Zp0,Zp1,Zp2,Zp3,Zqb,Zqc,Zqf,Zqg,Zqh,Zqi,Zqj,Zqk,Zql,Zqm,Zqn,Zqo,List.append_assoc,List.length_append,List.length_drop,eq_self,true_and,and_true,and_false,not_false_eq_true,Nat.zero_add,Nat.mul_one]
    tactic =>
    exact ⟨rfl, rfl⟩
  obtain ⟨R, hR⟩ : ∃ R, R = mkF old fresh := ⟨_, rfl⟩
  rw [← hR]
  rintro k s ⟨P, q, rest, n, hm, hn, hk, hc, hb, hs⟩
  rcases rest with _ | ⟨x, fr⟩
  · have hfin : fin P q = R := by
      rw [← hm]; cases n <;> rfl
    rcases hs with ⟨hq, rfl⟩ | ⟨_, hq, rfl⟩
    · rw [hfin]
      unfold sC
      sym =>
      simp [Zaa,Zab,Zac,Zad,Zae,Zaf,Zag,Zah,Zai,Zak,Zal,Zam,Zan,Zap,Zaq,Zav,Zaw,Zay,Zaz,Za0,Za1,Za2,Za3,Za4,Za5,Za6,Za7,Za8,Za9,Zba,Zbb,Zbc,Zbd,Zbf,Zbj,Zbt,Zbu,Zbv,Zbw,Zb1,Zb2,Zb9,Zch,Zcn,Zcv,Zcz,Zc0,Zc3,Zc4,Zc5,Zc6,Zc7,Zc8,Zc9,Zdc,Zdd,Zde,Zdi,Zdo,Zdp,Zdt,Zdu,Zdv,Zdw,Zdx,Zdy,Zdz,Zd0,Zd1,Zd2,Zd5,Zeb,Zee,Zeh,Zek,Zev,Zew,Zex,Zez,Ze0,Ze1,Ze2,Ze3,Ze4,Ze5,Ze8,Zfb,Zfc,Zfd,Zfe,Zff,Zfg,Zfh,Zfi,Zfj,Zfl,Zfn,Zfr,Zfz,Zf3,Zf4,Zgd,Zgg,Zgr,Zgs,Zgt,Zgu,Zgv,Zgw,Zgx,Zg4,Zg5,Zg6,Zhd,Zhe,Zhf,Zhg,Zhh,Zhm,Zhn,Zho,Zhs,Zht,Zhu,Zh6,Zh7,Zh9,Zin,Ziq,Zir,Ziu,Ziv,Ziw,Zix,Ziy,Ziz,Zi0,Zi2,Zi3,Zi6,Zi7,Zje,Zjg,Zjh,Zji,Zjj,Zjk,Zjl,Zjm,Zjn,Zjo,Zjp,Zjq,Zjw,Zj3,Zj7,Zj8,Zka,Zkl,Zkv,Zkx,Zla,Zlb,Zlc,Zld,Zle,Zlf,Zlh,Zlk,Zll,Zlm,Zlv,Zlx,Zlz,Zl2,Zmt,Zmv,Zmw,Zmx,Zmz,Zm2,Zm5,Zm6,Zm7,Zm9,Zna,Znb,Znc,Znd,Zne,Znf,Zng,Znh,Znl,Znm,Znn,Zno,Znp,Znr,Zns,Znt,Znu,Znw,Znx,Zny,Zn5,Zod,Zoi,Zrd,Zos,Zot,Zo3,Zo4,Zo6,Zo7,Zo8,Zo9,Zpa,Zpg,Zpi,Zpm,Zpo,Zpr,Zpy,Zp0,Zp1,Zp2,Zp3,Zqb,Zqc,Zqf,Zqg,Zqh,Zqi,Zqj,Zqk,Zql,Zqm,Zqn,Zqo,List.append_assoc,List.length_append,List.length_drop,eq_self,true_and,and_true,and_false,not_false_eq_true,Nat.zero_add,Nat.mul_one]
      tactic =>
      refine endA ?_
      sym =>
      simp [Zaa,Zab,Zac,Zad,Zae,Zaf,Zag,Zah,Zai,Zak,Zal,Zam,Zan,Zap,Zaq,Zav,Zaw,Zay,Zaz,Za0,Za1,Za2,Za3,Za4,Za5,Za6,Za7,Za8,Za9,Zba,Zbb,Zbc,Zbd,Zbf,Zbj,Zbt,Zbu,Zbv,Zbw,Zb1,Zb2,Zb9,Zch,Zcn,Zcv,Zcz,Zc0,Zc3,Zc4,Zc5,Zc6,Zc7,Zc8,Zc9,Zdc,Zdd,Zde,Zdi,Zdo,Zdp,Zdt,Zdu,Zdv,Zdw,Zdx,Zdy,Zdz,Zd0,Zd1,Zd2,Zd5,Zeb,Zee,Zeh,Zek,Zev,Zew,Zex,Zez,Ze0,Ze1,Ze2,Ze3,Ze4,Ze5,Ze8,Zfb,Zfc,Zfd,Zfe,Zff,Zfg,Zfh,Zfi,Zfj,Zfl,Zfn,Zfr,Zfz,Zf3,Zf4,Zgd,Zgg,Zgr,Zgs,Zgt,Zgu,Zgv,Zgw,Zgx,Zg4,Zg5,Zg6,Zhd,Zhe,Zhf,Zhg,Zhh,Zhm,Zhn,Zho,Zhs,Zht,Zhu,Zh6,Zh7,Zh9,Zin,Ziq,Zir,Ziu,Ziv,Ziw,Zix,Ziy,Ziz,Zi0,Zi2,Zi3,Zi6,Zi7,Zje,Zjg,Zjh,Zji,Zjj,Zjk,Zjl,Zjm,Zjn,Zjo,Zjp,Zjq,Zjw,Zj3,Zj7,Zj8,Zka,Zkl,Zkv,Zkx,Zla,Zlb,Zlc,Zld,Zle,Zlf,Zlh,Zlk,Zll,Zlm,Zlv,Zlx,Zlz,Zl2,Zmt,Zmv,Zmw,Zmx,Zmz,Zm2,Zm5,Zm6,Zm7,Zm9,Zna,Znb,Znc,Znd,Zne,Znf,Zng,Znh,Znl,Znm,Znn,Zno,Znp,Znr,Zns,Znt,Znu,Znw,Znx,Zny,Zn5,Zod,Zoi,Zrd,Zos,Zot,Zo3,Zo4,Zo6,Zo7,Zo8,Zo9,Zpa,Zpg,Zpi,Zpm,Zpo,Zpr,Zpy,Zp0,Zp1,Zp2,Zp3,Zqb,Zqc,Zqf,Zqg,Zqh,Zqi,Zqj,Zqk,Zql,Zqm,Zqn,Zqo,List.append_assoc,List.length_append,List.length_drop,eq_self,true_and,and_true,and_false,not_false_eq_true,Nat.zero_add,Nat.mul_one]
      tactic =>
      exact ⟨(cP_all R).symm, by rw [cP_length]; exact Nat.le_refl _, cP_okI R⟩
    · exact absurd rfl hq
  obtain ⟨m, rfl⟩ : ∃ m, n = m + 1 := by cases n with | zero => simp at hn | succ n => exact ⟨n, rfl⟩
  have hl := longest_con old (x :: fr) (by omega) (by simp at hb ⊢; omega)
  have hbl := bst_le old (x :: fr) old.length
  rw [mkR] at hm
  simp only [List.length_cons] at hb hn
  obtain ⟨rs, hrs⟩ : ∃ rs, rs = x :: fr := ⟨_, rfl⟩
  rw [← hrs] at hl hbl hm
  obtain ⟨b, hbb⟩ : ∃ b, b = bst old rs old.length := ⟨_, rfl⟩
  rw [← hbb] at hl hbl hm
  have hrl : 0 < rs.length := by rw [hrs]; simp
  have hrl2 : rs.length = fr.length + 1 := by rw [hrs]; simp
  have hd8 : List.take (rs.length - b.2) (List.drop b.2 (cB rs)) = cB (rs.drop b.2) := by
    rw [cB_drop]; exact List.take_of_length_le (by rw [List.length_drop, cB_length]; exact Nat.le_refl _)
  have hd1 : List.take (rs.length - 1) (List.drop 1 (cB rs)) = cB fr := by
    rw [hrs]; show List.take (fr.length + 1 - 1) (cB fr) = cB fr
    exact cB_all fr
  have hk2 : k = rs.length := by rw [hk, hrs]
  have hr1 : rs.length - 1 = fr.length := by omega
  have hI1 : (1 : Int) ≤ IN rs.length := by simp only [IN]; omega
  have hBr : (cB rs).length = rs.length := cB_length rs
  have hdl : (rs.drop b.2).length = rs.length - b.2 := List.length_drop
  have gx : (cB rs).getD 0 .un = Y x := by rw [hrs]; rfl
  have hwP : IntKind.i64.wrap (IN (P.length + 1) - (1 : Int)) = IN P.length := w64m _ _ 1 rfl (by omega)
  have hg0 : ∀ Z, (cP P ++ [I 0, I 0, Z]).getD (P.length * 3) .un = I 0 := fun Z => ap_get P _ 0
  have hg1 : ∀ Z, (cP P ++ [I 0, I 0, Z]).getD (P.length * 3 + 1) .un = I 0 := fun Z => ap_get P _ 1
  have hg2 : ∀ Z, (cP P ++ [I 0, I 0, Z]).getD (P.length * 3 + 2) .un = Z := fun Z => ap_get P _ 2
  have hg3 : ∀ Z, (cP P ++ [I 0, I 0, Z]).getD (P.length * 3 + 1 + 1) .un = Z := fun Z => ap_get P _ 2
  have hst : ∀ Z W, (cP P ++ [I 0, I 0, Z]).set (P.length * 3 + 2) W = cP P ++ [I 0, I 0, W] := fun Z W => ap_set P _ _ Z W
  have hPl := cP_length P
  rcases hs with ⟨hq, rfl⟩ | ⟨hq, _, rfl⟩
  · obtain rfl : q = [] := hq.resolve_right (by simp)
    have hfin : fin P [] = P := rfl
    rw [hfin] at hm ⊢
    simp only [List.length_nil] at hb
    rw [← hrs]
    sym =>
    simp [Zaa,Zab,Zac,Zad,Zae,Zaf,Zag,Zah,Zai,Zak,Zal,Zam,Zan,Zap,Zaq,Zav,Zaw,Zay,Zaz,Za0,Za1,Za2,Za3,Za4,Za5,Za6,Za7,Za8,Za9,Zba,Zbb,Zbc,Zbd,Zbf,Zbj,Zbt,Zbu,Zbv,Zbw,Zb1,Zb2,Zb9,Zch,Zcn,Zcv,Zcz,Zc0,Zc3,Zc4,Zc5,Zc6,Zc7,Zc8,Zc9,Zdc,Zdd,Zde,Zdi,Zdo,Zdp,Zdt,Zdu,Zdv,Zdw,Zdx,Zdy,Zdz,Zd0,Zd1,Zd2,Zd5,Zeb,Zee,Zeh,Zek,Zev,Zew,Zex,Zez,Ze0,Ze1,Ze2,Ze3,Ze4,Ze5,Ze8,Zfb,Zfc,Zfd,Zfe,Zff,Zfg,Zfh,Zfi,Zfj,Zfl,Zfn,Zfr,Zfz,Zf3,Zf4,Zgd,Zgg,Zgr,Zgs,Zgt,Zgu,Zgv,Zgw,Zgx,Zg4,Zg5,Zg6,Zhd,Zhe,Zhf,Zhg,Zhh,Zhm,Zhn,Zho,Zhs,Zht,Zhu,Zh6,Zh7,Zh9,Zin,Ziq,Zir,Ziu,Ziv,Ziw,Zix,Ziy,Ziz,Zi0,Zi2,Zi3,Zi6,Zi7,Zje,Zjg,Zjh,Zji,Zjj,Zjk,Zjl,Zjm,Zjn,Zjo,Zjp,Zjq,Zjw,Zj3,Zj7,Zj8,Zka,Zkl,Zkv,Zkx,Zla,Zlb,Zlc,Zld,Zle,Zlf,Zlh,Zlk,Zll,Zlm,Zlv,Zlx,Zlz,Zl2,Zmt,Zmv,Zmw,Zmx,Zmz,Zm2,Zm5,Zm6,Zm7,Zm9,Zna,Znb,Znc,Znd,Zne,Znf,Zng,Znh,Znl,Znm,Znn,Zno,Znp,Znr,Zns,Znt,Znu,Znw,Znx,Zny,Zn5,Zod,Zoi,Zrd,Zos,Zot,Zo3,Zo4,Zo6,Zo7,Zo8,Zo9,Zpa,Zpg,Zpi,Zpm,Zpo,Zpr,Zpy,Zp0,Zp1,Zp2,Zp3,Zqb,Zqc,Zqf,Zqg,Zqh,Zqi,Zqj,Zqk,Zql,Zqm,Zqn,Zqo,List.append_assoc,List.length_append,List.length_drop,eq_self,true_and,and_true,and_false,not_false_eq_true,Nat.zero_add,Nat.mul_one,hrl,callable_55]
    tactic =>
    refine cl none (hl) trivial ?_
    by_cases h8 : 8 ≤ b.2
    · rw [if_pos h8] at hm
      have h8' : IN b.2 ≥ (8 : Int) := by simp only [IN]; omega
      sym =>
      simp [Zaa,Zab,Zac,Zad,Zae,Zaf,Zag,Zah,Zai,Zak,Zal,Zam,Zan,Zap,Zaq,Zav,Zaw,Zay,Zaz,Za0,Za1,Za2,Za3,Za4,Za5,Za6,Za7,Za8,Za9,Zba,Zbb,Zbc,Zbd,Zbf,Zbj,Zbt,Zbu,Zbv,Zbw,Zb1,Zb2,Zb9,Zch,Zcn,Zcv,Zcz,Zc0,Zc3,Zc4,Zc5,Zc6,Zc7,Zc8,Zc9,Zdc,Zdd,Zde,Zdi,Zdo,Zdp,Zdt,Zdu,Zdv,Zdw,Zdx,Zdy,Zdz,Zd0,Zd1,Zd2,Zd5,Zeb,Zee,Zeh,Zek,Zev,Zew,Zex,Zez,Ze0,Ze1,Ze2,Ze3,Ze4,Ze5,Ze8,Zfb,Zfc,Zfd,Zfe,Zff,Zfg,Zfh,Zfi,Zfj,Zfl,Zfn,Zfr,Zfz,Zf3,Zf4,Zgd,Zgg,Zgr,Zgs,Zgt,Zgu,Zgv,Zgw,Zgx,Zg4,Zg5,Zg6,Zhd,Zhe,Zhf,Zhg,Zhh,Zhm,Zhn,Zho,Zhs,Zht,Zhu,Zh6,Zh7,Zh9,Zin,Ziq,Zir,Ziu,Ziv,Ziw,Zix,Ziy,Ziz,Zi0,Zi2,Zi3,Zi6,Zi7,Zje,Zjg,Zjh,Zji,Zjj,Zjk,Zjl,Zjm,Zjn,Zjo,Zjp,Zjq,Zjw,Zj3,Zj7,Zj8,Zka,Zkl,Zkv,Zkx,Zla,Zlb,Zlc,Zld,Zle,Zlf,Zlh,Zlk,Zll,Zlm,Zlv,Zlx,Zlz,Zl2,Zmt,Zmv,Zmw,Zmx,Zmz,Zm2,Zm5,Zm6,Zm7,Zm9,Zna,Znb,Znc,Znd,Zne,Znf,Zng,Znh,Znl,Znm,Znn,Zno,Znp,Znr,Zns,Znt,Znu,Znw,Znx,Zny,Zn5,Zod,Zoi,Zrd,Zos,Zot,Zo3,Zo4,Zo6,Zo7,Zo8,Zo9,Zpa,Zpg,Zpi,Zpm,Zpo,Zpr,Zpy,Zp0,Zp1,Zp2,Zp3,Zqb,Zqc,Zqf,Zqg,Zqh,Zqi,Zqj,Zqk,Zql,Zqm,Zqn,Zqo,List.append_assoc,List.length_append,List.length_drop,eq_self,true_and,and_true,and_false,not_false_eq_true,Nat.zero_add,Nat.mul_one,h8',hd8]
      tactic =>
      refine ⟨⟨by omega, by omega, cP_length P, Nat.zero_le _⟩, ⟨hbl.1, Nat.le_refl _⟩, ?_⟩
      unfold NextL; refine ⟨(rs.length - b.2), [(0, 15)], _, by omega, ⟨P ++ [(IN b.1, IN b.2, [])], [], rs.drop b.2, m, hm, by rw [hdl]; omega, by rw [hdl], .inr ⟨P, _, _, rfl⟩, by rw [hdl]; simp; omega, .inl ⟨.inl rfl, rfl⟩⟩, wkA ?_⟩
      have hfin2 : fin (P ++ [(IN b.1, IN b.2, [])]) [] = P ++ [(IN b.1, IN b.2, [])] := rfl
      rw [hfin2]
      sym =>
      simp [Zaa,Zab,Zac,Zad,Zae,Zaf,Zag,Zah,Zai,Zak,Zal,Zam,Zan,Zap,Zaq,Zav,Zaw,Zay,Zaz,Za0,Za1,Za2,Za3,Za4,Za5,Za6,Za7,Za8,Za9,Zba,Zbb,Zbc,Zbd,Zbf,Zbj,Zbt,Zbu,Zbv,Zbw,Zb1,Zb2,Zb9,Zch,Zcn,Zcv,Zcz,Zc0,Zc3,Zc4,Zc5,Zc6,Zc7,Zc8,Zc9,Zdc,Zdd,Zde,Zdi,Zdo,Zdp,Zdt,Zdu,Zdv,Zdw,Zdx,Zdy,Zdz,Zd0,Zd1,Zd2,Zd5,Zeb,Zee,Zeh,Zek,Zev,Zew,Zex,Zez,Ze0,Ze1,Ze2,Ze3,Ze4,Ze5,Ze8,Zfb,Zfc,Zfd,Zfe,Zff,Zfg,Zfh,Zfi,Zfj,Zfl,Zfn,Zfr,Zfz,Zf3,Zf4,Zgd,Zgg,Zgr,Zgs,Zgt,Zgu,Zgv,Zgw,Zgx,Zg4,Zg5,Zg6,Zhd,Zhe,Zhf,Zhg,Zhh,Zhm,Zhn,Zho,Zhs,Zht,Zhu,Zh6,Zh7,Zh9,Zin,Ziq,Zir,Ziu,Ziv,Ziw,Zix,Ziy,Ziz,Zi0,Zi2,Zi3,Zi6,Zi7,Zje,Zjg,Zjh,Zji,Zjj,Zjk,Zjl,Zjm,Zjn,Zjo,Zjp,Zjq,Zjw,Zj3,Zj7,Zj8,Zka,Zkl,Zkv,Zkx,Zla,Zlb,Zlc,Zld,Zle,Zlf,Zlh,Zlk,Zll,Zlm,Zlv,Zlx,Zlz,Zl2,Zmt,Zmv,Zmw,Zmx,Zmz,Zm2,Zm5,Zm6,Zm7,Zm9,Zna,Znb,Znc,Znd,Zne,Znf,Zng,Znh,Znl,Znm,Znn,Zno,Znp,Znr,Zns,Znt,Znu,Znw,Znx,Zny,Zn5,Zod,Zoi,Zrd,Zos,Zot,Zo3,Zo4,Zo6,Zo7,Zo8,Zo9,Zpa,Zpg,Zpi,Zpm,Zpo,Zpr,Zpy,Zp0,Zp1,Zp2,Zp3,Zqb,Zqc,Zqf,Zqg,Zqh,Zqi,Zqj,Zqk,Zql,Zqm,Zqn,Zqo,List.append_assoc,List.length_append,List.length_drop,eq_self,true_and,and_true,and_false,not_false_eq_true,Nat.zero_add,Nat.mul_one,hdl,List.length_append]
      tactic =>
      exact cP_rs _ _ _ _ _ (by rw [cP_snoc]; rfl)
    · rw [if_neg h8] at hm
      have h8' : ¬ IN b.2 ≥ (8 : Int) := by simp only [IN]; omega
      by_cases hz : P.length = 0
      · have hzt := eq_true hz
        sym =>
        simp [Zaa,Zab,Zac,Zad,Zae,Zaf,Zag,Zah,Zai,Zak,Zal,Zam,Zan,Zap,Zaq,Zav,Zaw,Zay,Zaz,Za0,Za1,Za2,Za3,Za4,Za5,Za6,Za7,Za8,Za9,Zba,Zbb,Zbc,Zbd,Zbf,Zbj,Zbt,Zbu,Zbv,Zbw,Zb1,Zb2,Zb9,Zch,Zcn,Zcv,Zcz,Zc0,Zc3,Zc4,Zc5,Zc6,Zc7,Zc8,Zc9,Zdc,Zdd,Zde,Zdi,Zdo,Zdp,Zdt,Zdu,Zdv,Zdw,Zdx,Zdy,Zdz,Zd0,Zd1,Zd2,Zd5,Zeb,Zee,Zeh,Zek,Zev,Zew,Zex,Zez,Ze0,Ze1,Ze2,Ze3,Ze4,Ze5,Ze8,Zfb,Zfc,Zfd,Zfe,Zff,Zfg,Zfh,Zfi,Zfj,Zfl,Zfn,Zfr,Zfz,Zf3,Zf4,Zgd,Zgg,Zgr,Zgs,Zgt,Zgu,Zgv,Zgw,Zgx,Zg4,Zg5,Zg6,Zhd,Zhe,Zhf,Zhg,Zhh,Zhm,Zhn,Zho,Zhs,Zht,Zhu,Zh6,Zh7,Zh9,Zin,Ziq,Zir,Ziu,Ziv,Ziw,Zix,Ziy,Ziz,Zi0,Zi2,Zi3,Zi6,Zi7,Zje,Zjg,Zjh,Zji,Zjj,Zjk,Zjl,Zjm,Zjn,Zjo,Zjp,Zjq,Zjw,Zj3,Zj7,Zj8,Zka,Zkl,Zkv,Zkx,Zla,Zlb,Zlc,Zld,Zle,Zlf,Zlh,Zlk,Zll,Zlm,Zlv,Zlx,Zlz,Zl2,Zmt,Zmv,Zmw,Zmx,Zmz,Zm2,Zm5,Zm6,Zm7,Zm9,Zna,Znb,Znc,Znd,Zne,Znf,Zng,Znh,Znl,Znm,Znn,Zno,Znp,Znr,Zns,Znt,Znu,Znw,Znx,Zny,Zn5,Zod,Zoi,Zrd,Zos,Zot,Zo3,Zo4,Zo6,Zo7,Zo8,Zo9,Zpa,Zpg,Zpi,Zpm,Zpo,Zpr,Zpy,Zp0,Zp1,Zp2,Zp3,Zqb,Zqc,Zqf,Zqg,Zqh,Zqi,Zqj,Zqk,Zql,Zqm,Zqn,Zqo,List.append_assoc,List.length_append,List.length_drop,eq_self,true_and,and_true,and_false,not_false_eq_true,Nat.zero_add,Nat.mul_one,h8',hd1,hzt,hwP,hg0,hg1,hg2,hst,gx]
        tactic =>
        and_intros <;> try (first | omega | rfl | assumption | simp only [IN]; omega)
        rcases fr with _ | ⟨y, fr'⟩
        · unfold NextL; refine ⟨0, [(0, 29)], _, by omega, ⟨P, [x], [], m, hm, Nat.zero_le _, rfl, hc, by simp only [List.length_append, List.length_cons, List.length_nil] at hb ⊢; omega, .inl ⟨.inr rfl, rfl⟩⟩, wkA ?_⟩
          have hfin2 : fin P ([x]) = P ++ [(0, 0, [x])] := by rw [fin, if_neg (by simp)]
          rw [hfin2]
          sym =>
          simp [Zaa,Zab,Zac,Zad,Zae,Zaf,Zag,Zah,Zai,Zak,Zal,Zam,Zan,Zap,Zaq,Zav,Zaw,Zay,Zaz,Za0,Za1,Za2,Za3,Za4,Za5,Za6,Za7,Za8,Za9,Zba,Zbb,Zbc,Zbd,Zbf,Zbj,Zbt,Zbu,Zbv,Zbw,Zb1,Zb2,Zb9,Zch,Zcn,Zcv,Zcz,Zc0,Zc3,Zc4,Zc5,Zc6,Zc7,Zc8,Zc9,Zdc,Zdd,Zde,Zdi,Zdo,Zdp,Zdt,Zdu,Zdv,Zdw,Zdx,Zdy,Zdz,Zd0,Zd1,Zd2,Zd5,Zeb,Zee,Zeh,Zek,Zev,Zew,Zex,Zez,Ze0,Ze1,Ze2,Ze3,Ze4,Ze5,Ze8,Zfb,Zfc,Zfd,Zfe,Zff,Zfg,Zfh,Zfi,Zfj,Zfl,Zfn,Zfr,Zfz,Zf3,Zf4,Zgd,Zgg,Zgr,Zgs,Zgt,Zgu,Zgv,Zgw,Zgx,Zg4,Zg5,Zg6,Zhd,Zhe,Zhf,Zhg,Zhh,Zhm,Zhn,Zho,Zhs,Zht,Zhu,Zh6,Zh7,Zh9,Zin,Ziq,Zir,Ziu,Ziv,Ziw,Zix,Ziy,Ziz,Zi0,Zi2,Zi3,Zi6,Zi7,Zje,Zjg,Zjh,Zji,Zjj,Zjk,Zjl,Zjm,Zjn,Zjo,Zjp,Zjq,Zjw,Zj3,Zj7,Zj8,Zka,Zkl,Zkv,Zkx,Zla,Zlb,Zlc,Zld,Zle,Zlf,Zlh,Zlk,Zll,Zlm,Zlv,Zlx,Zlz,Zl2,Zmt,Zmv,Zmw,Zmx,Zmz,Zm2,Zm5,Zm6,Zm7,Zm9,Zna,Znb,Znc,Znd,Zne,Znf,Zng,Znh,Znl,Znm,Znn,Zno,Znp,Znr,Zns,Znt,Znu,Znw,Znx,Zny,Zn5,Zod,Zoi,Zrd,Zos,Zot,Zo3,Zo4,Zo6,Zo7,Zo8,Zo9,Zpa,Zpg,Zpi,Zpm,Zpo,Zpr,Zpy,Zp0,Zp1,Zp2,Zp3,Zqb,Zqc,Zqf,Zqg,Zqh,Zqi,Zqj,Zqk,Zql,Zqm,Zqn,Zqo,List.append_assoc,List.length_append,List.length_drop,eq_self,true_and,and_true,and_false,not_false_eq_true,Nat.zero_add,Nat.mul_one,hr1,List.length_append]
          tactic =>
          rw [cP_append]
          refine rs_app (rs_self (cP_okI P)) ?_
          show rv1s _ _ _ _ [I 0, I 0, fB ([x])]
          sym =>
          simp [Zaa,Zab,Zac,Zad,Zae,Zaf,Zag,Zah,Zai,Zak,Zal,Zam,Zan,Zap,Zaq,Zav,Zaw,Zay,Zaz,Za0,Za1,Za2,Za3,Za4,Za5,Za6,Za7,Za8,Za9,Zba,Zbb,Zbc,Zbd,Zbf,Zbj,Zbt,Zbu,Zbv,Zbw,Zb1,Zb2,Zb9,Zch,Zcn,Zcv,Zcz,Zc0,Zc3,Zc4,Zc5,Zc6,Zc7,Zc8,Zc9,Zdc,Zdd,Zde,Zdi,Zdo,Zdp,Zdt,Zdu,Zdv,Zdw,Zdx,Zdy,Zdz,Zd0,Zd1,Zd2,Zd5,Zeb,Zee,Zeh,Zek,Zev,Zew,Zex,Zez,Ze0,Ze1,Ze2,Ze3,Ze4,Ze5,Ze8,Zfb,Zfc,Zfd,Zfe,Zff,Zfg,Zfh,Zfi,Zfj,Zfl,Zfn,Zfr,Zfz,Zf3,Zf4,Zgd,Zgg,Zgr,Zgs,Zgt,Zgu,Zgv,Zgw,Zgx,Zg4,Zg5,Zg6,Zhd,Zhe,Zhf,Zhg,Zhh,Zhm,Zhn,Zho,Zhs,Zht,Zhu,Zh6,Zh7,Zh9,Zin,Ziq,Zir,Ziu,Ziv,Ziw,Zix,Ziy,Ziz,Zi0,Zi2,Zi3,Zi6,Zi7,Zje,Zjg,Zjh,Zji,Zjj,Zjk,Zjl,Zjm,Zjn,Zjo,Zjp,Zjq,Zjw,Zj3,Zj7,Zj8,Zka,Zkl,Zkv,Zkx,Zla,Zlb,Zlc,Zld,Zle,Zlf,Zlh,Zlk,Zll,Zlm,Zlv,Zlx,Zlz,Zl2,Zmt,Zmv,Zmw,Zmx,Zmz,Zm2,Zm5,Zm6,Zm7,Zm9,Zna,Znb,Znc,Znd,Zne,Znf,Zng,Znh,Znl,Znm,Znn,Zno,Znp,Znr,Zns,Znt,Znu,Znw,Znx,Zny,Zn5,Zod,Zoi,Zrd,Zos,Zot,Zo3,Zo4,Zo6,Zo7,Zo8,Zo9,Zpa,Zpg,Zpi,Zpm,Zpo,Zpr,Zpy,Zp0,Zp1,Zp2,Zp3,Zqb,Zqc,Zqf,Zqg,Zqh,Zqi,Zqj,Zqk,Zql,Zqm,Zqn,Zqo,List.append_assoc,List.length_append,List.length_drop,eq_self,true_and,and_true,and_false,not_false_eq_true,Nat.zero_add,Nat.mul_one,List.length_append]
          tactic =>
          rfl
        · unfold NextL
          refine ⟨(y :: fr').length, [(0, 29), (1, 46)], _, by omega, ⟨P, [x], y :: fr', m, hm, by omega, rfl, hc, by simp only [List.length_append, List.length_cons, List.length_nil] at hb ⊢; omega, .inr ⟨by simp, by simp, rfl⟩⟩, wkA ?_⟩
          sym =>
          simp [Zaa,Zab,Zac,Zad,Zae,Zaf,Zag,Zah,Zai,Zak,Zal,Zam,Zan,Zap,Zaq,Zav,Zaw,Zay,Zaz,Za0,Za1,Za2,Za3,Za4,Za5,Za6,Za7,Za8,Za9,Zba,Zbb,Zbc,Zbd,Zbf,Zbj,Zbt,Zbu,Zbv,Zbw,Zb1,Zb2,Zb9,Zch,Zcn,Zcv,Zcz,Zc0,Zc3,Zc4,Zc5,Zc6,Zc7,Zc8,Zc9,Zdc,Zdd,Zde,Zdi,Zdo,Zdp,Zdt,Zdu,Zdv,Zdw,Zdx,Zdy,Zdz,Zd0,Zd1,Zd2,Zd5,Zeb,Zee,Zeh,Zek,Zev,Zew,Zex,Zez,Ze0,Ze1,Ze2,Ze3,Ze4,Ze5,Ze8,Zfb,Zfc,Zfd,Zfe,Zff,Zfg,Zfh,Zfi,Zfj,Zfl,Zfn,Zfr,Zfz,Zf3,Zf4,Zgd,Zgg,Zgr,Zgs,Zgt,Zgu,Zgv,Zgw,Zgx,Zg4,Zg5,Zg6,Zhd,Zhe,Zhf,Zhg,Zhh,Zhm,Zhn,Zho,Zhs,Zht,Zhu,Zh6,Zh7,Zh9,Zin,Ziq,Zir,Ziu,Ziv,Ziw,Zix,Ziy,Ziz,Zi0,Zi2,Zi3,Zi6,Zi7,Zje,Zjg,Zjh,Zji,Zjj,Zjk,Zjl,Zjm,Zjn,Zjo,Zjp,Zjq,Zjw,Zj3,Zj7,Zj8,Zka,Zkl,Zkv,Zkx,Zla,Zlb,Zlc,Zld,Zle,Zlf,Zlh,Zlk,Zll,Zlm,Zlv,Zlx,Zlz,Zl2,Zmt,Zmv,Zmw,Zmx,Zmz,Zm2,Zm5,Zm6,Zm7,Zm9,Zna,Znb,Znc,Znd,Zne,Znf,Zng,Znh,Znl,Znm,Znn,Zno,Znp,Znr,Zns,Znt,Znu,Znw,Znx,Zny,Zn5,Zod,Zoi,Zrd,Zos,Zot,Zo3,Zo4,Zo6,Zo7,Zo8,Zo9,Zpa,Zpg,Zpi,Zpm,Zpo,Zpr,Zpy,Zp0,Zp1,Zp2,Zp3,Zqb,Zqc,Zqf,Zqg,Zqh,Zqi,Zqj,Zqk,Zql,Zqm,Zqn,Zqo,List.append_assoc,List.length_append,List.length_drop,eq_self,true_and,and_true,and_false,not_false_eq_true,Nat.zero_add,Nat.mul_one,hr1,List.length_append]
          tactic =>
          refine ⟨rs_app (rs_self (cP_okI P)) ?_, ?_⟩
          · sym =>
            simp [Zaa,Zab,Zac,Zad,Zae,Zaf,Zag,Zah,Zai,Zak,Zal,Zam,Zan,Zap,Zaq,Zav,Zaw,Zay,Zaz,Za0,Za1,Za2,Za3,Za4,Za5,Za6,Za7,Za8,Za9,Zba,Zbb,Zbc,Zbd,Zbf,Zbj,Zbt,Zbu,Zbv,Zbw,Zb1,Zb2,Zb9,Zch,Zcn,Zcv,Zcz,Zc0,Zc3,Zc4,Zc5,Zc6,Zc7,Zc8,Zc9,Zdc,Zdd,Zde,Zdi,Zdo,Zdp,Zdt,Zdu,Zdv,Zdw,Zdx,Zdy,Zdz,Zd0,Zd1,Zd2,Zd5,Zeb,Zee,Zeh,Zek,Zev,Zew,Zex,Zez,Ze0,Ze1,Ze2,Ze3,Ze4,Ze5,Ze8,Zfb,Zfc,Zfd,Zfe,Zff,Zfg,Zfh,Zfi,Zfj,Zfl,Zfn,Zfr,Zfz,Zf3,Zf4,Zgd,Zgg,Zgr,Zgs,Zgt,Zgu,Zgv,Zgw,Zgx,Zg4,Zg5,Zg6,Zhd,Zhe,Zhf,Zhg,Zhh,Zhm,Zhn,Zho,Zhs,Zht,Zhu,Zh6,Zh7,Zh9,Zin,Ziq,Zir,Ziu,Ziv,Ziw,Zix,Ziy,Ziz,Zi0,Zi2,Zi3,Zi6,Zi7,Zje,Zjg,Zjh,Zji,Zjj,Zjk,Zjl,Zjm,Zjn,Zjo,Zjp,Zjq,Zjw,Zj3,Zj7,Zj8,Zka,Zkl,Zkv,Zkx,Zla,Zlb,Zlc,Zld,Zle,Zlf,Zlh,Zlk,Zll,Zlm,Zlv,Zlx,Zlz,Zl2,Zmt,Zmv,Zmw,Zmx,Zmz,Zm2,Zm5,Zm6,Zm7,Zm9,Zna,Znb,Znc,Znd,Zne,Znf,Zng,Znh,Znl,Znm,Znn,Zno,Znp,Znr,Zns,Znt,Znu,Znw,Znx,Zny,Zn5,Zod,Zoi,Zrd,Zos,Zot,Zo3,Zo4,Zo6,Zo7,Zo8,Zo9,Zpa,Zpg,Zpi,Zpm,Zpo,Zpr,Zpy,Zp0,Zp1,Zp2,Zp3,Zqb,Zqc,Zqf,Zqg,Zqh,Zqi,Zqj,Zqk,Zql,Zqm,Zqn,Zqo,List.append_assoc,List.length_append,List.length_drop,eq_self,true_and,and_true,and_false,not_false_eq_true,Nat.zero_add,Nat.mul_one,List.length_append]
          · exact cB_rs _ _ _ _ _ rfl
      · obtain ⟨a', b', ga, gb, gc⟩ := clo_last hc hz
        have hwP1 : IntKind.i64.wrap (IN P.length - (1 : Int)) = IN (P.length - 1) := w64m _ _ 1 (by omega) (by omega)
        have hzt := eq_false hz
        sym =>
        simp [Zaa,Zab,Zac,Zad,Zae,Zaf,Zag,Zah,Zai,Zak,Zal,Zam,Zan,Zap,Zaq,Zav,Zaw,Zay,Zaz,Za0,Za1,Za2,Za3,Za4,Za5,Za6,Za7,Za8,Za9,Zba,Zbb,Zbc,Zbd,Zbf,Zbj,Zbt,Zbu,Zbv,Zbw,Zb1,Zb2,Zb9,Zch,Zcn,Zcv,Zcz,Zc0,Zc3,Zc4,Zc5,Zc6,Zc7,Zc8,Zc9,Zdc,Zdd,Zde,Zdi,Zdo,Zdp,Zdt,Zdu,Zdv,Zdw,Zdx,Zdy,Zdz,Zd0,Zd1,Zd2,Zd5,Zeb,Zee,Zeh,Zek,Zev,Zew,Zex,Zez,Ze0,Ze1,Ze2,Ze3,Ze4,Ze5,Ze8,Zfb,Zfc,Zfd,Zfe,Zff,Zfg,Zfh,Zfi,Zfj,Zfl,Zfn,Zfr,Zfz,Zf3,Zf4,Zgd,Zgg,Zgr,Zgs,Zgt,Zgu,Zgv,Zgw,Zgx,Zg4,Zg5,Zg6,Zhd,Zhe,Zhf,Zhg,Zhh,Zhm,Zhn,Zho,Zhs,Zht,Zhu,Zh6,Zh7,Zh9,Zin,Ziq,Zir,Ziu,Ziv,Ziw,Zix,Ziy,Ziz,Zi0,Zi2,Zi3,Zi6,Zi7,Zje,Zjg,Zjh,Zji,Zjj,Zjk,Zjl,Zjm,Zjn,Zjo,Zjp,Zjq,Zjw,Zj3,Zj7,Zj8,Zka,Zkl,Zkv,Zkx,Zla,Zlb,Zlc,Zld,Zle,Zlf,Zlh,Zlk,Zll,Zlm,Zlv,Zlx,Zlz,Zl2,Zmt,Zmv,Zmw,Zmx,Zmz,Zm2,Zm5,Zm6,Zm7,Zm9,Zna,Znb,Znc,Znd,Zne,Znf,Zng,Znh,Znl,Znm,Znn,Zno,Znp,Znr,Zns,Znt,Znu,Znw,Znx,Zny,Zn5,Zod,Zoi,Zrd,Zos,Zot,Zo3,Zo4,Zo6,Zo7,Zo8,Zo9,Zpa,Zpg,Zpi,Zpm,Zpo,Zpr,Zpy,Zp0,Zp1,Zp2,Zp3,Zqb,Zqc,Zqf,Zqg,Zqh,Zqi,Zqj,Zqk,Zql,Zqm,Zqn,Zqo,List.append_assoc,List.length_append,List.length_drop,eq_self,true_and,and_true,and_false,not_false_eq_true,Nat.zero_add,Nat.mul_one,h8',hd1,hzt,hwP,hwP1,ga,gb,gc,callable_56]
        tactic =>
        and_intros <;> try (first | omega | rfl | assumption | simp only [IN]; omega)
        refine cl none (own_con a' b' []) trivial ?_
        sym =>
        simp [Zaa,Zab,Zac,Zad,Zae,Zaf,Zag,Zah,Zai,Zak,Zal,Zam,Zan,Zap,Zaq,Zav,Zaw,Zay,Zaz,Za0,Za1,Za2,Za3,Za4,Za5,Za6,Za7,Za8,Za9,Zba,Zbb,Zbc,Zbd,Zbf,Zbj,Zbt,Zbu,Zbv,Zbw,Zb1,Zb2,Zb9,Zch,Zcn,Zcv,Zcz,Zc0,Zc3,Zc4,Zc5,Zc6,Zc7,Zc8,Zc9,Zdc,Zdd,Zde,Zdi,Zdo,Zdp,Zdt,Zdu,Zdv,Zdw,Zdx,Zdy,Zdz,Zd0,Zd1,Zd2,Zd5,Zeb,Zee,Zeh,Zek,Zev,Zew,Zex,Zez,Ze0,Ze1,Ze2,Ze3,Ze4,Ze5,Ze8,Zfb,Zfc,Zfd,Zfe,Zff,Zfg,Zfh,Zfi,Zfj,Zfl,Zfn,Zfr,Zfz,Zf3,Zf4,Zgd,Zgg,Zgr,Zgs,Zgt,Zgu,Zgv,Zgw,Zgx,Zg4,Zg5,Zg6,Zhd,Zhe,Zhf,Zhg,Zhh,Zhm,Zhn,Zho,Zhs,Zht,Zhu,Zh6,Zh7,Zh9,Zin,Ziq,Zir,Ziu,Ziv,Ziw,Zix,Ziy,Ziz,Zi0,Zi2,Zi3,Zi6,Zi7,Zje,Zjg,Zjh,Zji,Zjj,Zjk,Zjl,Zjm,Zjn,Zjo,Zjp,Zjq,Zjw,Zj3,Zj7,Zj8,Zka,Zkl,Zkv,Zkx,Zla,Zlb,Zlc,Zld,Zle,Zlf,Zlh,Zlk,Zll,Zlm,Zlv,Zlx,Zlz,Zl2,Zmt,Zmv,Zmw,Zmx,Zmz,Zm2,Zm5,Zm6,Zm7,Zm9,Zna,Znb,Znc,Znd,Zne,Znf,Zng,Znh,Znl,Znm,Znn,Zno,Znp,Znr,Zns,Znt,Znu,Znw,Znx,Zny,Zn5,Zod,Zoi,Zrd,Zos,Zot,Zo3,Zo4,Zo6,Zo7,Zo8,Zo9,Zpa,Zpg,Zpi,Zpm,Zpo,Zpr,Zpy,Zp0,Zp1,Zp2,Zp3,Zqb,Zqc,Zqf,Zqg,Zqh,Zqi,Zqj,Zqk,Zql,Zqm,Zqn,Zqo,List.append_assoc,List.length_append,List.length_drop,eq_self,true_and,and_true,and_false,not_false_eq_true,Nat.zero_add,Nat.mul_one,hd1,hwP,hg0,hg1,hg2,hst,gx]
        tactic =>
        and_intros <;> try (first | omega | rfl | assumption | simp only [IN]; omega)
        rcases fr with _ | ⟨y, fr'⟩
        · unfold NextL; refine ⟨0, [(0, 29)], _, by omega, ⟨P, [x], [], m, hm, Nat.zero_le _, rfl, hc, by simp only [List.length_append, List.length_cons, List.length_nil] at hb ⊢; omega, .inl ⟨.inr rfl, rfl⟩⟩, wkA ?_⟩
          have hfin2 : fin P ([x]) = P ++ [(0, 0, [x])] := by rw [fin, if_neg (by simp)]
          rw [hfin2]
          sym =>
          simp [Zaa,Zab,Zac,Zad,Zae,Zaf,Zag,Zah,Zai,Zak,Zal,Zam,Zan,Zap,Zaq,Zav,Zaw,Zay,Zaz,Za0,Za1,Za2,Za3,Za4,Za5,Za6,Za7,Za8,Za9,Zba,Zbb,Zbc,Zbd,Zbf,Zbj,Zbt,Zbu,Zbv,Zbw,Zb1,Zb2,Zb9,Zch,Zcn,Zcv,Zcz,Zc0,Zc3,Zc4,Zc5,Zc6,Zc7,Zc8,Zc9,Zdc,Zdd,Zde,Zdi,Zdo,Zdp,Zdt,Zdu,Zdv,Zdw,Zdx,Zdy,Zdz,Zd0,Zd1,Zd2,Zd5,Zeb,Zee,Zeh,Zek,Zev,Zew,Zex,Zez,Ze0,Ze1,Ze2,Ze3,Ze4,Ze5,Ze8,Zfb,Zfc,Zfd,Zfe,Zff,Zfg,Zfh,Zfi,Zfj,Zfl,Zfn,Zfr,Zfz,Zf3,Zf4,Zgd,Zgg,Zgr,Zgs,Zgt,Zgu,Zgv,Zgw,Zgx,Zg4,Zg5,Zg6,Zhd,Zhe,Zhf,Zhg,Zhh,Zhm,Zhn,Zho,Zhs,Zht,Zhu,Zh6,Zh7,Zh9,Zin,Ziq,Zir,Ziu,Ziv,Ziw,Zix,Ziy,Ziz,Zi0,Zi2,Zi3,Zi6,Zi7,Zje,Zjg,Zjh,Zji,Zjj,Zjk,Zjl,Zjm,Zjn,Zjo,Zjp,Zjq,Zjw,Zj3,Zj7,Zj8,Zka,Zkl,Zkv,Zkx,Zla,Zlb,Zlc,Zld,Zle,Zlf,Zlh,Zlk,Zll,Zlm,Zlv,Zlx,Zlz,Zl2,Zmt,Zmv,Zmw,Zmx,Zmz,Zm2,Zm5,Zm6,Zm7,Zm9,Zna,Znb,Znc,Znd,Zne,Znf,Zng,Znh,Znl,Znm,Znn,Zno,Znp,Znr,Zns,Znt,Znu,Znw,Znx,Zny,Zn5,Zod,Zoi,Zrd,Zos,Zot,Zo3,Zo4,Zo6,Zo7,Zo8,Zo9,Zpa,Zpg,Zpi,Zpm,Zpo,Zpr,Zpy,Zp0,Zp1,Zp2,Zp3,Zqb,Zqc,Zqf,Zqg,Zqh,Zqi,Zqj,Zqk,Zql,Zqm,Zqn,Zqo,List.append_assoc,List.length_append,List.length_drop,eq_self,true_and,and_true,and_false,not_false_eq_true,Nat.zero_add,Nat.mul_one,hr1,List.length_append]
          tactic =>
          rw [cP_append]
          refine rs_app (rs_self (cP_okI P)) ?_
          show rv1s _ _ _ _ [I 0, I 0, fB ([x])]
          sym =>
          simp [Zaa,Zab,Zac,Zad,Zae,Zaf,Zag,Zah,Zai,Zak,Zal,Zam,Zan,Zap,Zaq,Zav,Zaw,Zay,Zaz,Za0,Za1,Za2,Za3,Za4,Za5,Za6,Za7,Za8,Za9,Zba,Zbb,Zbc,Zbd,Zbf,Zbj,Zbt,Zbu,Zbv,Zbw,Zb1,Zb2,Zb9,Zch,Zcn,Zcv,Zcz,Zc0,Zc3,Zc4,Zc5,Zc6,Zc7,Zc8,Zc9,Zdc,Zdd,Zde,Zdi,Zdo,Zdp,Zdt,Zdu,Zdv,Zdw,Zdx,Zdy,Zdz,Zd0,Zd1,Zd2,Zd5,Zeb,Zee,Zeh,Zek,Zev,Zew,Zex,Zez,Ze0,Ze1,Ze2,Ze3,Ze4,Ze5,Ze8,Zfb,Zfc,Zfd,Zfe,Zff,Zfg,Zfh,Zfi,Zfj,Zfl,Zfn,Zfr,Zfz,Zf3,Zf4,Zgd,Zgg,Zgr,Zgs,Zgt,Zgu,Zgv,Zgw,Zgx,Zg4,Zg5,Zg6,Zhd,Zhe,Zhf,Zhg,Zhh,Zhm,Zhn,Zho,Zhs,Zht,Zhu,Zh6,Zh7,Zh9,Zin,Ziq,Zir,Ziu,Ziv,Ziw,Zix,Ziy,Ziz,Zi0,Zi2,Zi3,Zi6,Zi7,Zje,Zjg,Zjh,Zji,Zjj,Zjk,Zjl,Zjm,Zjn,Zjo,Zjp,Zjq,Zjw,Zj3,Zj7,Zj8,Zka,Zkl,Zkv,Zkx,Zla,Zlb,Zlc,Zld,Zle,Zlf,Zlh,Zlk,Zll,Zlm,Zlv,Zlx,Zlz,Zl2,Zmt,Zmv,Zmw,Zmx,Zmz,Zm2,Zm5,Zm6,Zm7,Zm9,Zna,Znb,Znc,Znd,Zne,Znf,Zng,Znh,Znl,Znm,Znn,Zno,Znp,Znr,Zns,Znt,Znu,Znw,Znx,Zny,Zn5,Zod,Zoi,Zrd,Zos,Zot,Zo3,Zo4,Zo6,Zo7,Zo8,Zo9,Zpa,Zpg,Zpi,Zpm,Zpo,Zpr,Zpy,Zp0,Zp1,Zp2,Zp3,Zqb,Zqc,Zqf,Zqg,Zqh,Zqi,Zqj,Zqk,Zql,Zqm,Zqn,Zqo,List.append_assoc,List.length_append,List.length_drop,eq_self,true_and,and_true,and_false,not_false_eq_true,Nat.zero_add,Nat.mul_one,List.length_append]
          tactic =>
          rfl
        · unfold NextL
          refine ⟨(y :: fr').length, [(0, 29), (1, 46)], _, by omega, ⟨P, [x], y :: fr', m, hm, by omega, rfl, hc, by simp only [List.length_append, List.length_cons, List.length_nil] at hb ⊢; omega, .inr ⟨by simp, by simp, rfl⟩⟩, wkA ?_⟩
          sym =>
          simp [Zaa,Zab,Zac,Zad,Zae,Zaf,Zag,Zah,Zai,Zak,Zal,Zam,Zan,Zap,Zaq,Zav,Zaw,Zay,Zaz,Za0,Za1,Za2,Za3,Za4,Za5,Za6,Za7,Za8,Za9,Zba,Zbb,Zbc,Zbd,Zbf,Zbj,Zbt,Zbu,Zbv,Zbw,Zb1,Zb2,Zb9,Zch,Zcn,Zcv,Zcz,Zc0,Zc3,Zc4,Zc5,Zc6,Zc7,Zc8,Zc9,Zdc,Zdd,Zde,Zdi,Zdo,Zdp,Zdt,Zdu,Zdv,Zdw,Zdx,Zdy,Zdz,Zd0,Zd1,Zd2,Zd5,Zeb,Zee,Zeh,Zek,Zev,Zew,Zex,Zez,Ze0,Ze1,Ze2,Ze3,Ze4,Ze5,Ze8,Zfb,Zfc,Zfd,Zfe,Zff,Zfg,Zfh,Zfi,Zfj,Zfl,Zfn,Zfr,Zfz,Zf3,Zf4,Zgd,Zgg,Zgr,Zgs,Zgt,Zgu,Zgv,Zgw,Zgx,Zg4,Zg5,Zg6,Zhd,Zhe,Zhf,Zhg,Zhh,Zhm,Zhn,Zho,Zhs,Zht,Zhu,Zh6,Zh7,Zh9,Zin,Ziq,Zir,Ziu,Ziv,Ziw,Zix,Ziy,Ziz,Zi0,Zi2,Zi3,Zi6,Zi7,Zje,Zjg,Zjh,Zji,Zjj,Zjk,Zjl,Zjm,Zjn,Zjo,Zjp,Zjq,Zjw,Zj3,Zj7,Zj8,Zka,Zkl,Zkv,Zkx,Zla,Zlb,Zlc,Zld,Zle,Zlf,Zlh,Zlk,Zll,Zlm,Zlv,Zlx,Zlz,Zl2,Zmt,Zmv,Zmw,Zmx,Zmz,Zm2,Zm5,Zm6,Zm7,Zm9,Zna,Znb,Znc,Znd,Zne,Znf,Zng,Znh,Znl,Znm,Znn,Zno,Znp,Znr,Zns,Znt,Znu,Znw,Znx,Zny,Zn5,Zod,Zoi,Zrd,Zos,Zot,Zo3,Zo4,Zo6,Zo7,Zo8,Zo9,Zpa,Zpg,Zpi,Zpm,Zpo,Zpr,Zpy,Zp0,Zp1,Zp2,Zp3,Zqb,Zqc,Zqf,Zqg,Zqh,Zqi,Zqj,Zqk,Zql,Zqm,Zqn,Zqo,List.append_assoc,List.length_append,List.length_drop,eq_self,true_and,and_true,and_false,not_false_eq_true,Nat.zero_add,Nat.mul_one,hr1,List.length_append]
          tactic =>
          refine ⟨rs_app (rs_self (cP_okI P)) ?_, ?_⟩
          · sym =>
            simp [Zaa,Zab,Zac,Zad,Zae,Zaf,Zag,Zah,Zai,Zak,Zal,Zam,Zan,Zap,Zaq,Zav,Zaw,Zay,Zaz,Za0,Za1,Za2,Za3,Za4,Za5,Za6,Za7,Za8,Za9,Zba,Zbb,Zbc,Zbd,Zbf,Zbj,Zbt,Zbu,Zbv,Zbw,Zb1,Zb2,Zb9,Zch,Zcn,Zcv,Zcz,Zc0,Zc3,Zc4,Zc5,Zc6,Zc7,Zc8,Zc9,Zdc,Zdd,Zde,Zdi,Zdo,Zdp,Zdt,Zdu,Zdv,Zdw,Zdx,Zdy,Zdz,Zd0,Zd1,Zd2,Zd5,Zeb,Zee,Zeh,Zek,Zev,Zew,Zex,Zez,Ze0,Ze1,Ze2,Ze3,Ze4,Ze5,Ze8,Zfb,Zfc,Zfd,Zfe,Zff,Zfg,Zfh,Zfi,Zfj,Zfl,Zfn,Zfr,Zfz,Zf3,Zf4,Zgd,Zgg,Zgr,Zgs,Zgt,Zgu,Zgv,Zgw,Zgx,Zg4,Zg5,Zg6,Zhd,Zhe,Zhf,Zhg,Zhh,Zhm,Zhn,Zho,Zhs,Zht,Zhu,Zh6,Zh7,Zh9,Zin,Ziq,Zir,Ziu,Ziv,Ziw,Zix,Ziy,Ziz,Zi0,Zi2,Zi3,Zi6,Zi7,Zje,Zjg,Zjh,Zji,Zjj,Zjk,Zjl,Zjm,Zjn,Zjo,Zjp,Zjq,Zjw,Zj3,Zj7,Zj8,Zka,Zkl,Zkv,Zkx,Zla,Zlb,Zlc,Zld,Zle,Zlf,Zlh,Zlk,Zll,Zlm,Zlv,Zlx,Zlz,Zl2,Zmt,Zmv,Zmw,Zmx,Zmz,Zm2,Zm5,Zm6,Zm7,Zm9,Zna,Znb,Znc,Znd,Zne,Znf,Zng,Znh,Znl,Znm,Znn,Zno,Znp,Znr,Zns,Znt,Znu,Znw,Znx,Zny,Zn5,Zod,Zoi,Zrd,Zos,Zot,Zo3,Zo4,Zo6,Zo7,Zo8,Zo9,Zpa,Zpg,Zpi,Zpm,Zpo,Zpr,Zpy,Zp0,Zp1,Zp2,Zp3,Zqb,Zqc,Zqf,Zqg,Zqh,Zqi,Zqj,Zqk,Zql,Zqm,Zqn,Zqo,List.append_assoc,List.length_append,List.length_drop,eq_self,true_and,and_true,and_false,not_false_eq_true,Nat.zero_add,Nat.mul_one,List.length_append]
          · exact cB_rs _ _ _ _ _ rfl
  · rw [← hrs]
    sym =>
    simp [Zaa,Zab,Zac,Zad,Zae,Zaf,Zag,Zah,Zai,Zak,Zal,Zam,Zan,Zap,Zaq,Zav,Zaw,Zay,Zaz,Za0,Za1,Za2,Za3,Za4,Za5,Za6,Za7,Za8,Za9,Zba,Zbb,Zbc,Zbd,Zbf,Zbj,Zbt,Zbu,Zbv,Zbw,Zb1,Zb2,Zb9,Zch,Zcn,Zcv,Zcz,Zc0,Zc3,Zc4,Zc5,Zc6,Zc7,Zc8,Zc9,Zdc,Zdd,Zde,Zdi,Zdo,Zdp,Zdt,Zdu,Zdv,Zdw,Zdx,Zdy,Zdz,Zd0,Zd1,Zd2,Zd5,Zeb,Zee,Zeh,Zek,Zev,Zew,Zex,Zez,Ze0,Ze1,Ze2,Ze3,Ze4,Ze5,Ze8,Zfb,Zfc,Zfd,Zfe,Zff,Zfg,Zfh,Zfi,Zfj,Zfl,Zfn,Zfr,Zfz,Zf3,Zf4,Zgd,Zgg,Zgr,Zgs,Zgt,Zgu,Zgv,Zgw,Zgx,Zg4,Zg5,Zg6,Zhd,Zhe,Zhf,Zhg,Zhh,Zhm,Zhn,Zho,Zhs,Zht,Zhu,Zh6,Zh7,Zh9,Zin,Ziq,Zir,Ziu,Ziv,Ziw,Zix,Ziy,Ziz,Zi0,Zi2,Zi3,Zi6,Zi7,Zje,Zjg,Zjh,Zji,Zjj,Zjk,Zjl,Zjm,Zjn,Zjo,Zjp,Zjq,Zjw,Zj3,Zj7,Zj8,Zka,Zkl,Zkv,Zkx,Zla,Zlb,Zlc,Zld,Zle,Zlf,Zlh,Zlk,Zll,Zlm,Zlv,Zlx,Zlz,Zl2,Zmt,Zmv,Zmw,Zmx,Zmz,Zm2,Zm5,Zm6,Zm7,Zm9,Zna,Znb,Znc,Znd,Zne,Znf,Zng,Znh,Znl,Znm,Znn,Zno,Znp,Znr,Zns,Znt,Znu,Znw,Znx,Zny,Zn5,Zod,Zoi,Zrd,Zos,Zot,Zo3,Zo4,Zo6,Zo7,Zo8,Zo9,Zpa,Zpg,Zpi,Zpm,Zpo,Zpr,Zpy,Zp0,Zp1,Zp2,Zp3,Zqb,Zqc,Zqf,Zqg,Zqh,Zqi,Zqj,Zqk,Zql,Zqm,Zqn,Zqo,List.append_assoc,List.length_append,List.length_drop,eq_self,true_and,and_true,and_false,not_false_eq_true,Nat.zero_add,Nat.mul_one,hrl,callable_55]
    tactic =>
    refine cl none (hl) trivial ?_
    have hqa := cB_all q
    have hq0 : 0 < q.length := by
      cases q with
      | nil => exact absurd rfl hq
      | cons a q => simp
    have hqI := cB_okI q
    have hql := cB_length q
    by_cases h8 : 8 ≤ b.2
    · rw [if_pos h8] at hm
      have h8' : IN b.2 ≥ (8 : Int) := by simp only [IN]; omega
      sym =>
      simp [Zaa,Zab,Zac,Zad,Zae,Zaf,Zag,Zah,Zai,Zak,Zal,Zam,Zan,Zap,Zaq,Zav,Zaw,Zay,Zaz,Za0,Za1,Za2,Za3,Za4,Za5,Za6,Za7,Za8,Za9,Zba,Zbb,Zbc,Zbd,Zbf,Zbj,Zbt,Zbu,Zbv,Zbw,Zb1,Zb2,Zb9,Zch,Zcn,Zcv,Zcz,Zc0,Zc3,Zc4,Zc5,Zc6,Zc7,Zc8,Zc9,Zdc,Zdd,Zde,Zdi,Zdo,Zdp,Zdt,Zdu,Zdv,Zdw,Zdx,Zdy,Zdz,Zd0,Zd1,Zd2,Zd5,Zeb,Zee,Zeh,Zek,Zev,Zew,Zex,Zez,Ze0,Ze1,Ze2,Ze3,Ze4,Ze5,Ze8,Zfb,Zfc,Zfd,Zfe,Zff,Zfg,Zfh,Zfi,Zfj,Zfl,Zfn,Zfr,Zfz,Zf3,Zf4,Zgd,Zgg,Zgr,Zgs,Zgt,Zgu,Zgv,Zgw,Zgx,Zg4,Zg5,Zg6,Zhd,Zhe,Zhf,Zhg,Zhh,Zhm,Zhn,Zho,Zhs,Zht,Zhu,Zh6,Zh7,Zh9,Zin,Ziq,Zir,Ziu,Ziv,Ziw,Zix,Ziy,Ziz,Zi0,Zi2,Zi3,Zi6,Zi7,Zje,Zjg,Zjh,Zji,Zjj,Zjk,Zjl,Zjm,Zjn,Zjo,Zjp,Zjq,Zjw,Zj3,Zj7,Zj8,Zka,Zkl,Zkv,Zkx,Zla,Zlb,Zlc,Zld,Zle,Zlf,Zlh,Zlk,Zll,Zlm,Zlv,Zlx,Zlz,Zl2,Zmt,Zmv,Zmw,Zmx,Zmz,Zm2,Zm5,Zm6,Zm7,Zm9,Zna,Znb,Znc,Znd,Zne,Znf,Zng,Znh,Znl,Znm,Znn,Zno,Znp,Znr,Zns,Znt,Znu,Znw,Znx,Zny,Zn5,Zod,Zoi,Zrd,Zos,Zot,Zo3,Zo4,Zo6,Zo7,Zo8,Zo9,Zpa,Zpg,Zpi,Zpm,Zpo,Zpr,Zpy,Zp0,Zp1,Zp2,Zp3,Zqb,Zqc,Zqf,Zqg,Zqh,Zqi,Zqj,Zqk,Zql,Zqm,Zqn,Zqo,List.append_assoc,List.length_append,List.length_drop,eq_self,true_and,and_true,and_false,not_false_eq_true,Nat.zero_add,Nat.mul_one,h8',hd8]
      tactic =>
      and_intros <;> try (first | omega | rfl | assumption | simp only [IN]; omega)
      have hfq : fin P q = P ++ [(0, 0, q)] := by rw [fin, if_neg hq]
      unfold NextL; refine ⟨(rs.length - b.2), [(0, 16)], _, by omega, ⟨fin P q ++ [(IN b.1, IN b.2, [])], [], rs.drop b.2, m, hm, by rw [hdl]; omega, by rw [hdl], .inr ⟨fin P q, _, _, rfl⟩, by rw [hdl, hfq]; simp; omega, .inl ⟨.inl rfl, rfl⟩⟩, wkA ?_⟩
      have hfin2 : fin (fin P q ++ [(IN b.1, IN b.2, [])]) [] = fin P q ++ [(IN b.1, IN b.2, [])] := rfl
      rw [hfin2, hfq]
      sym =>
      simp [Zaa,Zab,Zac,Zad,Zae,Zaf,Zag,Zah,Zai,Zak,Zal,Zam,Zan,Zap,Zaq,Zav,Zaw,Zay,Zaz,Za0,Za1,Za2,Za3,Za4,Za5,Za6,Za7,Za8,Za9,Zba,Zbb,Zbc,Zbd,Zbf,Zbj,Zbt,Zbu,Zbv,Zbw,Zb1,Zb2,Zb9,Zch,Zcn,Zcv,Zcz,Zc0,Zc3,Zc4,Zc5,Zc6,Zc7,Zc8,Zc9,Zdc,Zdd,Zde,Zdi,Zdo,Zdp,Zdt,Zdu,Zdv,Zdw,Zdx,Zdy,Zdz,Zd0,Zd1,Zd2,Zd5,Zeb,Zee,Zeh,Zek,Zev,Zew,Zex,Zez,Ze0,Ze1,Ze2,Ze3,Ze4,Ze5,Ze8,Zfb,Zfc,Zfd,Zfe,Zff,Zfg,Zfh,Zfi,Zfj,Zfl,Zfn,Zfr,Zfz,Zf3,Zf4,Zgd,Zgg,Zgr,Zgs,Zgt,Zgu,Zgv,Zgw,Zgx,Zg4,Zg5,Zg6,Zhd,Zhe,Zhf,Zhg,Zhh,Zhm,Zhn,Zho,Zhs,Zht,Zhu,Zh6,Zh7,Zh9,Zin,Ziq,Zir,Ziu,Ziv,Ziw,Zix,Ziy,Ziz,Zi0,Zi2,Zi3,Zi6,Zi7,Zje,Zjg,Zjh,Zji,Zjj,Zjk,Zjl,Zjm,Zjn,Zjo,Zjp,Zjq,Zjw,Zj3,Zj7,Zj8,Zka,Zkl,Zkv,Zkx,Zla,Zlb,Zlc,Zld,Zle,Zlf,Zlh,Zlk,Zll,Zlm,Zlv,Zlx,Zlz,Zl2,Zmt,Zmv,Zmw,Zmx,Zmz,Zm2,Zm5,Zm6,Zm7,Zm9,Zna,Znb,Znc,Znd,Zne,Znf,Zng,Znh,Znl,Znm,Znn,Zno,Znp,Znr,Zns,Znt,Znu,Znw,Znx,Zny,Zn5,Zod,Zoi,Zrd,Zos,Zot,Zo3,Zo4,Zo6,Zo7,Zo8,Zo9,Zpa,Zpg,Zpi,Zpm,Zpo,Zpr,Zpy,Zp0,Zp1,Zp2,Zp3,Zqb,Zqc,Zqf,Zqg,Zqh,Zqi,Zqj,Zqk,Zql,Zqm,Zqn,Zqo,List.append_assoc,List.length_append,List.length_drop,eq_self,true_and,and_true,and_false,not_false_eq_true,Nat.zero_add,Nat.mul_one,hdl,List.length_append]
      tactic =>
      refine ⟨by omega, ?_⟩
      rw [cP_append]
      refine rs_app (rs_self (cP_okI P)) ?_
      show rv1s _ _ _ _ [I 0, I 0, fB q, I (IN b.1), I (IN b.2), .fz 0 []]
      sym =>
      simp [Zaa,Zab,Zac,Zad,Zae,Zaf,Zag,Zah,Zai,Zak,Zal,Zam,Zan,Zap,Zaq,Zav,Zaw,Zay,Zaz,Za0,Za1,Za2,Za3,Za4,Za5,Za6,Za7,Za8,Za9,Zba,Zbb,Zbc,Zbd,Zbf,Zbj,Zbt,Zbu,Zbv,Zbw,Zb1,Zb2,Zb9,Zch,Zcn,Zcv,Zcz,Zc0,Zc3,Zc4,Zc5,Zc6,Zc7,Zc8,Zc9,Zdc,Zdd,Zde,Zdi,Zdo,Zdp,Zdt,Zdu,Zdv,Zdw,Zdx,Zdy,Zdz,Zd0,Zd1,Zd2,Zd5,Zeb,Zee,Zeh,Zek,Zev,Zew,Zex,Zez,Ze0,Ze1,Ze2,Ze3,Ze4,Ze5,Ze8,Zfb,Zfc,Zfd,Zfe,Zff,Zfg,Zfh,Zfi,Zfj,Zfl,Zfn,Zfr,Zfz,Zf3,Zf4,Zgd,Zgg,Zgr,Zgs,Zgt,Zgu,Zgv,Zgw,Zgx,Zg4,Zg5,Zg6,Zhd,Zhe,Zhf,Zhg,Zhh,Zhm,Zhn,Zho,Zhs,Zht,Zhu,Zh6,Zh7,Zh9,Zin,Ziq,Zir,Ziu,Ziv,Ziw,Zix,Ziy,Ziz,Zi0,Zi2,Zi3,Zi6,Zi7,Zje,Zjg,Zjh,Zji,Zjj,Zjk,Zjl,Zjm,Zjn,Zjo,Zjp,Zjq,Zjw,Zj3,Zj7,Zj8,Zka,Zkl,Zkv,Zkx,Zla,Zlb,Zlc,Zld,Zle,Zlf,Zlh,Zlk,Zll,Zlm,Zlv,Zlx,Zlz,Zl2,Zmt,Zmv,Zmw,Zmx,Zmz,Zm2,Zm5,Zm6,Zm7,Zm9,Zna,Znb,Znc,Znd,Zne,Znf,Zng,Znh,Znl,Znm,Znn,Zno,Znp,Znr,Zns,Znt,Znu,Znw,Znx,Zny,Zn5,Zod,Zoi,Zrd,Zos,Zot,Zo3,Zo4,Zo6,Zo7,Zo8,Zo9,Zpa,Zpg,Zpi,Zpm,Zpo,Zpr,Zpy,Zp0,Zp1,Zp2,Zp3,Zqb,Zqc,Zqf,Zqg,Zqh,Zqi,Zqj,Zqk,Zql,Zqm,Zqn,Zqo,List.append_assoc,List.length_append,List.length_drop,eq_self,true_and,and_true,and_false,not_false_eq_true,Nat.zero_add,Nat.mul_one,hqa,hqI,hql]
      tactic =>
      exact Nat.le_refl _
    · rw [if_neg h8] at hm
      have h8' : ¬ IN b.2 ≥ (8 : Int) := by simp only [IN]; omega
      sym =>
      simp [Zaa,Zab,Zac,Zad,Zae,Zaf,Zag,Zah,Zai,Zak,Zal,Zam,Zan,Zap,Zaq,Zav,Zaw,Zay,Zaz,Za0,Za1,Za2,Za3,Za4,Za5,Za6,Za7,Za8,Za9,Zba,Zbb,Zbc,Zbd,Zbf,Zbj,Zbt,Zbu,Zbv,Zbw,Zb1,Zb2,Zb9,Zch,Zcn,Zcv,Zcz,Zc0,Zc3,Zc4,Zc5,Zc6,Zc7,Zc8,Zc9,Zdc,Zdd,Zde,Zdi,Zdo,Zdp,Zdt,Zdu,Zdv,Zdw,Zdx,Zdy,Zdz,Zd0,Zd1,Zd2,Zd5,Zeb,Zee,Zeh,Zek,Zev,Zew,Zex,Zez,Ze0,Ze1,Ze2,Ze3,Ze4,Ze5,Ze8,Zfb,Zfc,Zfd,Zfe,Zff,Zfg,Zfh,Zfi,Zfj,Zfl,Zfn,Zfr,Zfz,Zf3,Zf4,Zgd,Zgg,Zgr,Zgs,Zgt,Zgu,Zgv,Zgw,Zgx,Zg4,Zg5,Zg6,Zhd,Zhe,Zhf,Zhg,Zhh,Zhm,Zhn,Zho,Zhs,Zht,Zhu,Zh6,Zh7,Zh9,Zin,Ziq,Zir,Ziu,Ziv,Ziw,Zix,Ziy,Ziz,Zi0,Zi2,Zi3,Zi6,Zi7,Zje,Zjg,Zjh,Zji,Zjj,Zjk,Zjl,Zjm,Zjn,Zjo,Zjp,Zjq,Zjw,Zj3,Zj7,Zj8,Zka,Zkl,Zkv,Zkx,Zla,Zlb,Zlc,Zld,Zle,Zlf,Zlh,Zlk,Zll,Zlm,Zlv,Zlx,Zlz,Zl2,Zmt,Zmv,Zmw,Zmx,Zmz,Zm2,Zm5,Zm6,Zm7,Zm9,Zna,Znb,Znc,Znd,Zne,Znf,Zng,Znh,Znl,Znm,Znn,Zno,Znp,Znr,Zns,Znt,Znu,Znw,Znx,Zny,Zn5,Zod,Zoi,Zrd,Zos,Zot,Zo3,Zo4,Zo6,Zo7,Zo8,Zo9,Zpa,Zpg,Zpi,Zpm,Zpo,Zpr,Zpy,Zp0,Zp1,Zp2,Zp3,Zqb,Zqc,Zqf,Zqg,Zqh,Zqi,Zqj,Zqk,Zql,Zqm,Zqn,Zqo,List.append_assoc,List.length_append,List.length_drop,eq_self,true_and,and_true,and_false,not_false_eq_true,Nat.zero_add,Nat.mul_one,h8',hd1,hwP,hg0,hg1,hg3,hqa,callable_56]
      tactic =>
      and_intros <;> try (first | omega | rfl | assumption | simp only [IN]; omega)
      refine cl none (own_con 0 0 q) trivial ?_
      sym =>
      simp [Zaa,Zab,Zac,Zad,Zae,Zaf,Zag,Zah,Zai,Zak,Zal,Zam,Zan,Zap,Zaq,Zav,Zaw,Zay,Zaz,Za0,Za1,Za2,Za3,Za4,Za5,Za6,Za7,Za8,Za9,Zba,Zbb,Zbc,Zbd,Zbf,Zbj,Zbt,Zbu,Zbv,Zbw,Zb1,Zb2,Zb9,Zch,Zcn,Zcv,Zcz,Zc0,Zc3,Zc4,Zc5,Zc6,Zc7,Zc8,Zc9,Zdc,Zdd,Zde,Zdi,Zdo,Zdp,Zdt,Zdu,Zdv,Zdw,Zdx,Zdy,Zdz,Zd0,Zd1,Zd2,Zd5,Zeb,Zee,Zeh,Zek,Zev,Zew,Zex,Zez,Ze0,Ze1,Ze2,Ze3,Ze4,Ze5,Ze8,Zfb,Zfc,Zfd,Zfe,Zff,Zfg,Zfh,Zfi,Zfj,Zfl,Zfn,Zfr,Zfz,Zf3,Zf4,Zgd,Zgg,Zgr,Zgs,Zgt,Zgu,Zgv,Zgw,Zgx,Zg4,Zg5,Zg6,Zhd,Zhe,Zhf,Zhg,Zhh,Zhm,Zhn,Zho,Zhs,Zht,Zhu,Zh6,Zh7,Zh9,Zin,Ziq,Zir,Ziu,Ziv,Ziw,Zix,Ziy,Ziz,Zi0,Zi2,Zi3,Zi6,Zi7,Zje,Zjg,Zjh,Zji,Zjj,Zjk,Zjl,Zjm,Zjn,Zjo,Zjp,Zjq,Zjw,Zj3,Zj7,Zj8,Zka,Zkl,Zkv,Zkx,Zla,Zlb,Zlc,Zld,Zle,Zlf,Zlh,Zlk,Zll,Zlm,Zlv,Zlx,Zlz,Zl2,Zmt,Zmv,Zmw,Zmx,Zmz,Zm2,Zm5,Zm6,Zm7,Zm9,Zna,Znb,Znc,Znd,Zne,Znf,Zng,Znh,Znl,Znm,Znn,Zno,Znp,Znr,Zns,Znt,Znu,Znw,Znx,Zny,Zn5,Zod,Zoi,Zrd,Zos,Zot,Zo3,Zo4,Zo6,Zo7,Zo8,Zo9,Zpa,Zpg,Zpi,Zpm,Zpo,Zpr,Zpy,Zp0,Zp1,Zp2,Zp3,Zqb,Zqc,Zqf,Zqg,Zqh,Zqi,Zqj,Zqk,Zql,Zqm,Zqn,Zqo,List.append_assoc,List.length_append,List.length_drop,eq_self,true_and,and_true,and_false,not_false_eq_true,Nat.zero_add,Nat.mul_one,hq0,hd1,hwP,hg0,hg1,hg2,hst,gx]
      tactic =>
      and_intros <;> try (first | omega | rfl | assumption | simp only [IN]; omega)
      rcases fr with _ | ⟨y, fr'⟩
      · unfold NextL; refine ⟨0, [(0, 0)], _, by omega, ⟨P, q ++ [x], [], m, hm, Nat.zero_le _, rfl, hc, by simp only [List.length_append, List.length_cons, List.length_nil] at hb ⊢; omega, .inl ⟨.inr rfl, rfl⟩⟩, wkA ?_⟩
        have hfin2 : fin P (q ++ [x]) = P ++ [(0, 0, q ++ [x])] := by rw [fin, if_neg (by simp)]
        rw [hfin2]
        sym =>
        simp [Zaa,Zab,Zac,Zad,Zae,Zaf,Zag,Zah,Zai,Zak,Zal,Zam,Zan,Zap,Zaq,Zav,Zaw,Zay,Zaz,Za0,Za1,Za2,Za3,Za4,Za5,Za6,Za7,Za8,Za9,Zba,Zbb,Zbc,Zbd,Zbf,Zbj,Zbt,Zbu,Zbv,Zbw,Zb1,Zb2,Zb9,Zch,Zcn,Zcv,Zcz,Zc0,Zc3,Zc4,Zc5,Zc6,Zc7,Zc8,Zc9,Zdc,Zdd,Zde,Zdi,Zdo,Zdp,Zdt,Zdu,Zdv,Zdw,Zdx,Zdy,Zdz,Zd0,Zd1,Zd2,Zd5,Zeb,Zee,Zeh,Zek,Zev,Zew,Zex,Zez,Ze0,Ze1,Ze2,Ze3,Ze4,Ze5,Ze8,Zfb,Zfc,Zfd,Zfe,Zff,Zfg,Zfh,Zfi,Zfj,Zfl,Zfn,Zfr,Zfz,Zf3,Zf4,Zgd,Zgg,Zgr,Zgs,Zgt,Zgu,Zgv,Zgw,Zgx,Zg4,Zg5,Zg6,Zhd,Zhe,Zhf,Zhg,Zhh,Zhm,Zhn,Zho,Zhs,Zht,Zhu,Zh6,Zh7,Zh9,Zin,Ziq,Zir,Ziu,Ziv,Ziw,Zix,Ziy,Ziz,Zi0,Zi2,Zi3,Zi6,Zi7,Zje,Zjg,Zjh,Zji,Zjj,Zjk,Zjl,Zjm,Zjn,Zjo,Zjp,Zjq,Zjw,Zj3,Zj7,Zj8,Zka,Zkl,Zkv,Zkx,Zla,Zlb,Zlc,Zld,Zle,Zlf,Zlh,Zlk,Zll,Zlm,Zlv,Zlx,Zlz,Zl2,Zmt,Zmv,Zmw,Zmx,Zmz,Zm2,Zm5,Zm6,Zm7,Zm9,Zna,Znb,Znc,Znd,Zne,Znf,Zng,Znh,Znl,Znm,Znn,Zno,Znp,Znr,Zns,Znt,Znu,Znw,Znx,Zny,Zn5,Zod,Zoi,Zrd,Zos,Zot,Zo3,Zo4,Zo6,Zo7,Zo8,Zo9,Zpa,Zpg,Zpi,Zpm,Zpo,Zpr,Zpy,Zp0,Zp1,Zp2,Zp3,Zqb,Zqc,Zqf,Zqg,Zqh,Zqi,Zqj,Zqk,Zql,Zqm,Zqn,Zqo,List.append_assoc,List.length_append,List.length_drop,eq_self,true_and,and_true,and_false,not_false_eq_true,Nat.zero_add,Nat.mul_one,hr1,List.length_append]
        tactic =>
        rw [cP_append]
        refine rs_app (rs_self (cP_okI P)) ?_
        show rv1s _ _ _ _ [I 0, I 0, fB (q ++ [x])]
        sym =>
        simp [Zaa,Zab,Zac,Zad,Zae,Zaf,Zag,Zah,Zai,Zak,Zal,Zam,Zan,Zap,Zaq,Zav,Zaw,Zay,Zaz,Za0,Za1,Za2,Za3,Za4,Za5,Za6,Za7,Za8,Za9,Zba,Zbb,Zbc,Zbd,Zbf,Zbj,Zbt,Zbu,Zbv,Zbw,Zb1,Zb2,Zb9,Zch,Zcn,Zcv,Zcz,Zc0,Zc3,Zc4,Zc5,Zc6,Zc7,Zc8,Zc9,Zdc,Zdd,Zde,Zdi,Zdo,Zdp,Zdt,Zdu,Zdv,Zdw,Zdx,Zdy,Zdz,Zd0,Zd1,Zd2,Zd5,Zeb,Zee,Zeh,Zek,Zev,Zew,Zex,Zez,Ze0,Ze1,Ze2,Ze3,Ze4,Ze5,Ze8,Zfb,Zfc,Zfd,Zfe,Zff,Zfg,Zfh,Zfi,Zfj,Zfl,Zfn,Zfr,Zfz,Zf3,Zf4,Zgd,Zgg,Zgr,Zgs,Zgt,Zgu,Zgv,Zgw,Zgx,Zg4,Zg5,Zg6,Zhd,Zhe,Zhf,Zhg,Zhh,Zhm,Zhn,Zho,Zhs,Zht,Zhu,Zh6,Zh7,Zh9,Zin,Ziq,Zir,Ziu,Ziv,Ziw,Zix,Ziy,Ziz,Zi0,Zi2,Zi3,Zi6,Zi7,Zje,Zjg,Zjh,Zji,Zjj,Zjk,Zjl,Zjm,Zjn,Zjo,Zjp,Zjq,Zjw,Zj3,Zj7,Zj8,Zka,Zkl,Zkv,Zkx,Zla,Zlb,Zlc,Zld,Zle,Zlf,Zlh,Zlk,Zll,Zlm,Zlv,Zlx,Zlz,Zl2,Zmt,Zmv,Zmw,Zmx,Zmz,Zm2,Zm5,Zm6,Zm7,Zm9,Zna,Znb,Znc,Znd,Zne,Znf,Zng,Znh,Znl,Znm,Znn,Zno,Znp,Znr,Zns,Znt,Znu,Znw,Znx,Zny,Zn5,Zod,Zoi,Zrd,Zos,Zot,Zo3,Zo4,Zo6,Zo7,Zo8,Zo9,Zpa,Zpg,Zpi,Zpm,Zpo,Zpr,Zpy,Zp0,Zp1,Zp2,Zp3,Zqb,Zqc,Zqf,Zqg,Zqh,Zqi,Zqj,Zqk,Zql,Zqm,Zqn,Zqo,List.append_assoc,List.length_append,List.length_drop,eq_self,true_and,and_true,and_false,not_false_eq_true,Nat.zero_add,Nat.mul_one,List.length_append]
        tactic =>
        exact ⟨by rw [cB_append]; symm; exact List.take_of_length_le (by simp [cB_length]), by rw [cB_length]; exact Nat.le_refl _, hqI⟩
      · unfold NextL
        refine ⟨(y :: fr').length, [(0, 0), (1, 42)], _, by omega, ⟨P, q ++ [x], y :: fr', m, hm, by omega, rfl, hc, by simp only [List.length_append, List.length_cons, List.length_nil] at hb ⊢; omega, .inr ⟨by simp, by simp, rfl⟩⟩, wkA ?_⟩
        sym =>
        simp [Zaa,Zab,Zac,Zad,Zae,Zaf,Zag,Zah,Zai,Zak,Zal,Zam,Zan,Zap,Zaq,Zav,Zaw,Zay,Zaz,Za0,Za1,Za2,Za3,Za4,Za5,Za6,Za7,Za8,Za9,Zba,Zbb,Zbc,Zbd,Zbf,Zbj,Zbt,Zbu,Zbv,Zbw,Zb1,Zb2,Zb9,Zch,Zcn,Zcv,Zcz,Zc0,Zc3,Zc4,Zc5,Zc6,Zc7,Zc8,Zc9,Zdc,Zdd,Zde,Zdi,Zdo,Zdp,Zdt,Zdu,Zdv,Zdw,Zdx,Zdy,Zdz,Zd0,Zd1,Zd2,Zd5,Zeb,Zee,Zeh,Zek,Zev,Zew,Zex,Zez,Ze0,Ze1,Ze2,Ze3,Ze4,Ze5,Ze8,Zfb,Zfc,Zfd,Zfe,Zff,Zfg,Zfh,Zfi,Zfj,Zfl,Zfn,Zfr,Zfz,Zf3,Zf4,Zgd,Zgg,Zgr,Zgs,Zgt,Zgu,Zgv,Zgw,Zgx,Zg4,Zg5,Zg6,Zhd,Zhe,Zhf,Zhg,Zhh,Zhm,Zhn,Zho,Zhs,Zht,Zhu,Zh6,Zh7,Zh9,Zin,Ziq,Zir,Ziu,Ziv,Ziw,Zix,Ziy,Ziz,Zi0,Zi2,Zi3,Zi6,Zi7,Zje,Zjg,Zjh,Zji,Zjj,Zjk,Zjl,Zjm,Zjn,Zjo,Zjp,Zjq,Zjw,Zj3,Zj7,Zj8,Zka,Zkl,Zkv,Zkx,Zla,Zlb,Zlc,Zld,Zle,Zlf,Zlh,Zlk,Zll,Zlm,Zlv,Zlx,Zlz,Zl2,Zmt,Zmv,Zmw,Zmx,Zmz,Zm2,Zm5,Zm6,Zm7,Zm9,Zna,Znb,Znc,Znd,Zne,Znf,Zng,Znh,Znl,Znm,Znn,Zno,Znp,Znr,Zns,Znt,Znu,Znw,Znx,Zny,Zn5,Zod,Zoi,Zrd,Zos,Zot,Zo3,Zo4,Zo6,Zo7,Zo8,Zo9,Zpa,Zpg,Zpi,Zpm,Zpo,Zpr,Zpy,Zp0,Zp1,Zp2,Zp3,Zqb,Zqc,Zqf,Zqg,Zqh,Zqi,Zqj,Zqk,Zql,Zqm,Zqn,Zqo,List.append_assoc,List.length_append,List.length_drop,eq_self,true_and,and_true,and_false,not_false_eq_true,Nat.zero_add,Nat.mul_one,hr1,List.length_append]
        tactic =>
        refine ⟨rs_app (rs_self (cP_okI P)) ?_, ?_⟩
        · sym =>
          simp [Zaa,Zab,Zac,Zad,Zae,Zaf,Zag,Zah,Zai,Zak,Zal,Zam,Zan,Zap,Zaq,Zav,Zaw,Zay,Zaz,Za0,Za1,Za2,Za3,Za4,Za5,Za6,Za7,Za8,Za9,Zba,Zbb,Zbc,Zbd,Zbf,Zbj,Zbt,Zbu,Zbv,Zbw,Zb1,Zb2,Zb9,Zch,Zcn,Zcv,Zcz,Zc0,Zc3,Zc4,Zc5,Zc6,Zc7,Zc8,Zc9,Zdc,Zdd,Zde,Zdi,Zdo,Zdp,Zdt,Zdu,Zdv,Zdw,Zdx,Zdy,Zdz,Zd0,Zd1,Zd2,Zd5,Zeb,Zee,Zeh,Zek,Zev,Zew,Zex,Zez,Ze0,Ze1,Ze2,Ze3,Ze4,Ze5,Ze8,Zfb,Zfc,Zfd,Zfe,Zff,Zfg,Zfh,Zfi,Zfj,Zfl,Zfn,Zfr,Zfz,Zf3,Zf4,Zgd,Zgg,Zgr,Zgs,Zgt,Zgu,Zgv,Zgw,Zgx,Zg4,Zg5,Zg6,Zhd,Zhe,Zhf,Zhg,Zhh,Zhm,Zhn,Zho,Zhs,Zht,Zhu,Zh6,Zh7,Zh9,Zin,Ziq,Zir,Ziu,Ziv,Ziw,Zix,Ziy,Ziz,Zi0,Zi2,Zi3,Zi6,Zi7,Zje,Zjg,Zjh,Zji,Zjj,Zjk,Zjl,Zjm,Zjn,Zjo,Zjp,Zjq,Zjw,Zj3,Zj7,Zj8,Zka,Zkl,Zkv,Zkx,Zla,Zlb,Zlc,Zld,Zle,Zlf,Zlh,Zlk,Zll,Zlm,Zlv,Zlx,Zlz,Zl2,Zmt,Zmv,Zmw,Zmx,Zmz,Zm2,Zm5,Zm6,Zm7,Zm9,Zna,Znb,Znc,Znd,Zne,Znf,Zng,Znh,Znl,Znm,Znn,Zno,Znp,Znr,Zns,Znt,Znu,Znw,Znx,Zny,Zn5,Zod,Zoi,Zrd,Zos,Zot,Zo3,Zo4,Zo6,Zo7,Zo8,Zo9,Zpa,Zpg,Zpi,Zpm,Zpo,Zpr,Zpy,Zp0,Zp1,Zp2,Zp3,Zqb,Zqc,Zqf,Zqg,Zqh,Zqi,Zqj,Zqk,Zql,Zqm,Zqn,Zqo,List.append_assoc,List.length_append,List.length_drop,eq_self,true_and,and_true,and_false,not_false_eq_true,Nat.zero_add,Nat.mul_one,List.length_append]
        · exact cB_rs _ _ _ _ _ (by rw [cB_append]; rfl)
end Go.Proofs.Ytdjjibmjinllnaa.DelA
