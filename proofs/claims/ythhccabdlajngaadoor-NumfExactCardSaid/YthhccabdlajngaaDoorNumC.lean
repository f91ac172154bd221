import Derived.Test.YthhccabdlajngaaDoorNumB
namespace Go.Proofs.YthhccabdlajngaaDoor.NumC
open Go Go.Sim Go.Sim.E Go.RowKit Go.Proofs Go.Proofs.YthhccabdlajngaaDoor.Cod Go.Proofs.YthhccabdlajngaaDoor.Tab Go.Proofs.YthhccabdlajngaaDoor.Bse Go.Proofs.YthhccabdlajngaaDoor.NumA Go.Proofs.YthhccabdlajngaaDoor.NumB
set_option linter.unusedVariables false
set_option linter.unusedSimpArgs false
set_option maxRecDepth 100000
set_option maxHeartbeats 4000000
theorem take_eq_step {a b : List Int} {i : Nat} (h : a.take i = b.take i) (ha : i < a.length) (hb : i < b.length) (e : a.getD i 0 = b.getD i 0) : a.take (i + 1) = b.take (i + 1) := by
  rw [take_stepD a i ha, take_stepD b i hb, h, e]
def i11 (a b : List Int) (k : Nat) (s : St) : Prop := ∃ i : Nat, i + k = a.length ∧ a.take i = b.take i ∧ s = ⟨[(0, fB a), (1, fB b), (5, I (IN i))], [], 0⟩
theorem nsame_con (a b : List Int) (ha : a.length < 4611686018427387904) : Con Tryd.prog 11 [] [fB a, fB b] [] (Bo (decide (a = b))) := by
  refine con_j b11 rfl ?_
  by_cases hl : a.length = b.length
  · have hl1 : IN a.length = IN b.length := by rw [hl]
    sym =>
    simp [Zaa,Zab,Zac,Zad,Zae,Zaf,Zag,Zah,Zai,Zak,Zal,Zam,Zan,Zao,Zap,Zaq,Zar,Zav,Zaw,Zax,Zay,Zaz,Za0,Za1,Za2,Za3,Za4,Za5,Za9,Zba,Zbb,Zbc,Zbf,Zbg,Zbu,Zb2,Zcn,Zc7,Zc8,Zdo,Zdp,Zdt,Zdu,Zdv,Zdw,Zdx,Zdy,Zd0,Zd1,Zd2,Zeb,Zee,Zev,Zew,Zez,Ze0,Ze2,Ze5,Zfd,Zfe,Zfh,Zfn,Zfq,Zf0,Zf1,Zgr,Zgu,Zg4,Zg6,Zho,Zh6,Zh7,Zmt,Zmv,Zmw,Zmx,Zmz,Zm2,Zm6,Zna,Znb,Zne,Zns,Znt,Znv,Znw,Zn5,Zos,Zot,Zo3,Zo4,Zo7,Zo8,Zo9,Zpc,Zpi,Zqf,Zqg,Zqh,Zqm,eq_self,true_and,and_true,Nat.mul_one,hl1]
    tactic =>
    refine lpA (i11 a b) a.length [] _ ⟨0, by omega, rfl, rfl⟩ (wkA ?_) ?_
    · sym =>
      simp [Zaa,Zab,Zac,Zad,Zae,Zaf,Zag,Zah,Zai,Zak,Zal,Zam,Zan,Zao,Zap,Zaq,Zar,Zav,Zaw,Zax,Zay,Zaz,Za0,Za1,Za2,Za3,Za4,Za5,Za9,Zba,Zbb,Zbc,Zbf,Zbg,Zbu,Zb2,Zcn,Zc7,Zc8,Zdo,Zdp,Zdt,Zdu,Zdv,Zdw,Zdx,Zdy,Zd0,Zd1,Zd2,Zeb,Zee,Zev,Zew,Zez,Ze0,Ze2,Ze5,Zfd,Zfe,Zfh,Zfn,Zfq,Zf0,Zf1,Zgr,Zgu,Zg4,Zg6,Zho,Zh6,Zh7,Zmt,Zmv,Zmw,Zmx,Zmz,Zm2,Zm6,Zna,Znb,Zne,Zns,Znt,Znv,Znw,Zn5,Zos,Zot,Zo3,Zo4,Zo7,Zo8,Zo9,Zpc,Zpi,Zqf,Zqg,Zqh,Zqm,eq_self,true_and,and_true,Nat.mul_one]
    rintro k s ⟨i, hi, ht, rfl⟩
    by_cases h : i < a.length
    · have hI : IN i < IN a.length := by simp only [IN]; omega
      have hI2 : IN i < IN b.length := by simp only [IN]; omega
      have hw := w64s i (by omega)
      have ga := cB_get a i h
      have gb := cB_get b i (by omega)
      have hb : i < b.length := by omega
      by_cases he : a.getD i 0 = b.getD i 0
      · sym =>
        simp [Zaa,Zab,Zac,Zad,Zae,Zaf,Zag,Zah,Zai,Zak,Zal,Zam,Zan,Zao,Zap,Zaq,Zar,Zav,Zaw,Zax,Zay,Zaz,Za0,Za1,Za2,Za3,Za4,Za5,Za9,Zba,Zbb,Zbc,Zbf,Zbg,Zbu,Zb2,Zcn,Zc7,Zc8,Zdo,Zdp,Zdt,Zdu,Zdv,Zdw,Zdx,Zdy,Zd0,Zd1,Zd2,Zeb,Zee,Zev,Zew,Zez,Ze0,Ze2,Ze5,Zfd,Zfe,Zfh,Zfn,Zfq,Zf0,Zf1,Zgr,Zgu,Zg4,Zg6,Zho,Zh6,Zh7,Zmt,Zmv,Zmw,Zmx,Zmz,Zm2,Zm6,Zna,Znb,Zne,Zns,Znt,Znv,Znw,Zn5,Zos,Zot,Zo3,Zo4,Zo7,Zo8,Zo9,Zpc,Zpi,Zqf,Zqg,Zqh,Zqm,eq_self,true_and,and_true,Nat.mul_one,h,hb,hw,ga,gb,he,cB_length]
        tactic =>
        and_intros <;> try (first | omega | rfl | assumption | simp only [IN]; omega)
        unfold NextL; refine ⟨(k - 1), [], _, by omega, ⟨i + 1, by omega, take_eq_step ht h (by omega) he, rfl⟩, wkA ?_⟩
        sym =>
        simp [Zaa,Zab,Zac,Zad,Zae,Zaf,Zag,Zah,Zai,Zak,Zal,Zam,Zan,Zao,Zap,Zaq,Zar,Zav,Zaw,Zax,Zay,Zaz,Za0,Za1,Za2,Za3,Za4,Za5,Za9,Zba,Zbb,Zbc,Zbf,Zbg,Zbu,Zb2,Zcn,Zc7,Zc8,Zdo,Zdp,Zdt,Zdu,Zdv,Zdw,Zdx,Zdy,Zd0,Zd1,Zd2,Zeb,Zee,Zev,Zew,Zez,Ze0,Ze2,Ze5,Zfd,Zfe,Zfh,Zfn,Zfq,Zf0,Zf1,Zgr,Zgu,Zg4,Zg6,Zho,Zh6,Zh7,Zmt,Zmv,Zmw,Zmx,Zmz,Zm2,Zm6,Zna,Znb,Zne,Zns,Znt,Znv,Znw,Zn5,Zos,Zot,Zo3,Zo4,Zo7,Zo8,Zo9,Zpc,Zpi,Zqf,Zqg,Zqh,Zqm,eq_self,true_and,and_true,Nat.mul_one]
      · have hab : ¬ a = b := fun e => he (by rw [e])
        sym =>
        simp [Zaa,Zab,Zac,Zad,Zae,Zaf,Zag,Zah,Zai,Zak,Zal,Zam,Zan,Zao,Zap,Zaq,Zar,Zav,Zaw,Zax,Zay,Zaz,Za0,Za1,Za2,Za3,Za4,Za5,Za9,Zba,Zbb,Zbc,Zbf,Zbg,Zbu,Zb2,Zcn,Zc7,Zc8,Zdo,Zdp,Zdt,Zdu,Zdv,Zdw,Zdx,Zdy,Zd0,Zd1,Zd2,Zeb,Zee,Zev,Zew,Zez,Ze0,Ze2,Ze5,Zfd,Zfe,Zfh,Zfn,Zfq,Zf0,Zf1,Zgr,Zgu,Zg4,Zg6,Zho,Zh6,Zh7,Zmt,Zmv,Zmw,Zmx,Zmz,Zm2,Zm6,Zna,Znb,Zne,Zns,Znt,Znv,Znw,Zn5,Zos,Zot,Zo3,Zo4,Zo7,Zo8,Zo9,Zpc,Zpi,Zqf,Zqg,Zqh,Zqm,eq_self,true_and,and_true,Nat.mul_one,h,hb,hw,ga,gb,he,cB_length]
        tactic =>
        and_intros <;> try (first | omega | rfl | assumption | simp only [IN]; omega)
        refine endA ?_
        sym =>
        simp [Zaa,Zab,Zac,Zad,Zae,Zaf,Zag,Zah,Zai,Zak,Zal,Zam,Zan,Zao,Zap,Zaq,Zar,Zav,Zaw,Zax,Zay,Zaz,Za0,Za1,Za2,Za3,Za4,Za5,Za9,Zba,Zbb,Zbc,Zbf,Zbg,Zbu,Zb2,Zcn,Zc7,Zc8,Zdo,Zdp,Zdt,Zdu,Zdv,Zdw,Zdx,Zdy,Zd0,Zd1,Zd2,Zeb,Zee,Zev,Zew,Zez,Ze0,Ze2,Ze5,Zfd,Zfe,Zfh,Zfn,Zfq,Zf0,Zf1,Zgr,Zgu,Zg4,Zg6,Zho,Zh6,Zh7,Zmt,Zmv,Zmw,Zmx,Zmz,Zm2,Zm6,Zna,Znb,Zne,Zns,Znt,Znv,Znw,Zn5,Zos,Zot,Zo3,Zo4,Zo7,Zo8,Zo9,Zpc,Zpi,Zqf,Zqg,Zqh,Zqm,eq_self,true_and,and_true,Nat.mul_one,hab]
    · have hab : a = b := by
        rw [List.take_of_length_le (by omega), List.take_of_length_le (by omega)] at ht
        exact ht
      sym =>
      simp [Zaa,Zab,Zac,Zad,Zae,Zaf,Zag,Zah,Zai,Zak,Zal,Zam,Zan,Zao,Zap,Zaq,Zar,Zav,Zaw,Zax,Zay,Zaz,Za0,Za1,Za2,Za3,Za4,Za5,Za9,Zba,Zbb,Zbc,Zbf,Zbg,Zbu,Zb2,Zcn,Zc7,Zc8,Zdo,Zdp,Zdt,Zdu,Zdv,Zdw,Zdx,Zdy,Zd0,Zd1,Zd2,Zeb,Zee,Zev,Zew,Zez,Ze0,Ze2,Ze5,Zfd,Zfe,Zfh,Zfn,Zfq,Zf0,Zf1,Zgr,Zgu,Zg4,Zg6,Zho,Zh6,Zh7,Zmt,Zmv,Zmw,Zmx,Zmz,Zm2,Zm6,Zna,Znb,Zne,Zns,Znt,Znv,Znw,Zn5,Zos,Zot,Zo3,Zo4,Zo7,Zo8,Zo9,Zpc,Zpi,Zqf,Zqg,Zqh,Zqm,eq_self,true_and,and_true,Nat.mul_one,h]
      tactic =>
      refine endA ?_
      sym =>
      simp [Zaa,Zab,Zac,Zad,Zae,Zaf,Zag,Zah,Zai,Zak,Zal,Zam,Zan,Zao,Zap,Zaq,Zar,Zav,Zaw,Zax,Zay,Zaz,Za0,Za1,Za2,Za3,Za4,Za5,Za9,Zba,Zbb,Zbc,Zbf,Zbg,Zbu,Zb2,Zcn,Zc7,Zc8,Zdo,Zdp,Zdt,Zdu,Zdv,Zdw,Zdx,Zdy,Zd0,Zd1,Zd2,Zeb,Zee,Zev,Zew,Zez,Ze0,Ze2,Ze5,Zfd,Zfe,Zfh,Zfn,Zfq,Zf0,Zf1,Zgr,Zgu,Zg4,Zg6,Zho,Zh6,Zh7,Zmt,Zmv,Zmw,Zmx,Zmz,Zm2,Zm6,Zna,Znb,Zne,Zns,Znt,Znv,Znw,Zn5,Zos,Zot,Zo3,Zo4,Zo7,Zo8,Zo9,Zpc,Zpi,Zqf,Zqg,Zqh,Zqm,eq_self,true_and,and_true,Nat.mul_one,hab]
  · have hl1 : ¬ IN a.length = IN b.length := by simp only [IN]; omega
    have hab : ¬ a = b := fun e => hl (by rw [e])
    sym =>
    simp [Zaa,Zab,Zac,Zad,Zae,Zaf,Zag,Zah,Zai,Zak,Zal,Zam,Zan,Zao,Zap,Zaq,Zar,Zav,Zaw,Zax,Zay,Zaz,Za0,Za1,Za2,Za3,Za4,Za5,Za9,Zba,Zbb,Zbc,Zbf,Zbg,Zbu,Zb2,Zcn,Zc7,Zc8,Zdo,Zdp,Zdt,Zdu,Zdv,Zdw,Zdx,Zdy,Zd0,Zd1,Zd2,Zeb,Zee,Zev,Zew,Zez,Ze0,Ze2,Ze5,Zfd,Zfe,Zfh,Zfn,Zfq,Zf0,Zf1,Zgr,Zgu,Zg4,Zg6,Zho,Zh6,Zh7,Zmt,Zmv,Zmw,Zmx,Zmz,Zm2,Zm6,Zna,Znb,Zne,Zns,Znt,Znv,Znw,Zn5,Zos,Zot,Zo3,Zo4,Zo7,Zo8,Zo9,Zpc,Zpi,Zqf,Zqg,Zqh,Zqm,eq_self,true_and,and_true,Nat.mul_one,hl]
    tactic =>
    refine endA ?_
    sym =>
    simp [Zaa,Zab,Zac,Zad,Zae,Zaf,Zag,Zah,Zai,Zak,Zal,Zam,Zan,Zao,Zap,Zaq,Zar,Zav,Zaw,Zax,Zay,Zaz,Za0,Za1,Za2,Za3,Za4,Za5,Za9,Zba,Zbb,Zbc,Zbf,Zbg,Zbu,Zb2,Zcn,Zc7,Zc8,Zdo,Zdp,Zdt,Zdu,Zdv,Zdw,Zdx,Zdy,Zd0,Zd1,Zd2,Zeb,Zee,Zev,Zew,Zez,Ze0,Ze2,Ze5,Zfd,Zfe,Zfh,Zfn,Zfq,Zf0,Zf1,Zgr,Zgu,Zg4,Zg6,Zho,Zh6,Zh7,Zmt,Zmv,Zmw,Zmx,Zmz,Zm2,Zm6,Zna,Znb,Zne,Zns,Znt,Znv,Znw,Zn5,Zos,Zot,Zo3,Zo4,Zo7,Zo8,Zo9,Zpc,Zpi,Zqf,Zqg,Zqh,Zqm,eq_self,true_and,and_true,Nat.mul_one,hab]
theorem str_cB (l : List Int) : (bysS (cB l)).toList = l.map fun n => UInt8.ofNat n.toNat := by
  rw [ByteArray.toList_eq]
  show List.filterMap aby (cB l) = _
  induction l with
  | nil => rfl
  | cons a l ih =>
    show List.filterMap aby (Y a :: cB l) = _
    simp only [List.filterMap_cons, aby, List.map_cons]
    rw [ih]
theorem bys_ok (l : List Int) : bysOK (cB l) := by
  intro x hx
  obtain ⟨a, _, rfl⟩ := List.mem_map.1 hx
  rfl
theorem u8_inj {a b : Int} (ha : 0 ≤ a ∧ a < 256) (hb : 0 ≤ b ∧ b < 256) (h : UInt8.ofNat a.toNat = UInt8.ofNat b.toNat) : a = b := by
  have := congrArg UInt8.toNat h
  simp only [UInt8.toNat_ofNat'] at this
  omega
theorem str_eq {a b : List Int} (ha : byt8 a) (hb : byt8 b) : ((bysS (cB a)).toList == (bysS (cB b)).toList) = decide (a = b) := by
  rw [str_cB, str_cB]
  by_cases h : a = b
  · subst h; simp
  · have : ¬ (a.map fun n => UInt8.ofNat n.toNat) = b.map fun n => UInt8.ofNat n.toNat := by
      intro e
      apply h
      have key : ∀ {a b : List Int}, byt8 a → byt8 b → (a.map fun n => UInt8.ofNat n.toNat) = (b.map fun n => UInt8.ofNat n.toNat) → a = b := by
        intro a
        induction a with
        | nil => intro b _ _ h; cases b with | nil => rfl | cons y b => simp at h
        | cons x a ih =>
          intro b ha hb h
          cases b with
          | nil => simp at h
          | cons y b =>
            simp only [List.map_cons, List.cons.injEq] at h
            rw [u8_inj (ha x (List.mem_cons_self ..)) (hb y (List.mem_cons_self ..)) h.1, ih (fun z hz => ha z (List.mem_cons_of_mem _ hz)) (fun z hz => hb z (List.mem_cons_of_mem _ hz)) h.2]
      exact key ha hb e
    simp [h, this]
theorem equal_con (a b : List Int) (ha : byt8 a) (hb : byt8 b) : Con Tryd.prog 30 [] [fB a, fB b] [] (Bo (decide (a = b))) := by
  refine con_j b30 rfl ?_
  have h1 := cB_length a
  have h2 := cB_length b
  have h3 := bys_ok a
  have h4 := bys_ok b
  have h5 := str_eq ha hb
  sym =>
  simp [Zab,Zad,Zak,Zam,Zaz,Za0,Za1,Za2,Za3,Za4,Za5,Za9,Zba,Zbb,Zbf,Zbp,Zev,Zew,Zez,Ze0,Ze2,Zfd,Zfe,Zfh,Zfn,Zf8,Zgl,Zgm,Zmt,Zmv,Zmw,Zmx,Zmz,Zm2,Zna,Znb,Zos,Zot,Zo7,Zpc,eq_self,true_and,and_true,h1,h2,h3,h4,h5]
  tactic =>
  refine endA ?_
  sym =>
  simp [Zab,Zad,Zak,Zam,Zaz,Za0,Za1,Za2,Za3,Za4,Za5,Za9,Zba,Zbb,Zbf,Zbp,Zev,Zew,Zez,Ze0,Ze2,Zfd,Zfe,Zfh,Zfn,Zf8,Zgl,Zgm,Zmt,Zmv,Zmw,Zmx,Zmz,Zm2,Zna,Znb,Zos,Zot,Zo7,Zpc,eq_self,true_and,and_true]
theorem or_nat (m x i : Nat) (hx : x < 2 ^ i) (hm : m % 2 ^ i = 0) : m ||| x = m + x := by
  obtain ⟨q, rfl⟩ : ∃ q, m = 2 ^ i * q := ⟨m / 2 ^ i, by have := Nat.div_add_mod m (2 ^ i); omega⟩
  rw [← Nat.two_pow_add_eq_or_of_lt hx]
theorem orI8 (a x : Int) (hx : 0 ≤ x ∧ x < 256) (h : -9223372036854775808 ≤ 256 * a + x ∧ 256 * a + x ≤ 9223372036854775807) : bits .or .i64 (IntKind.i64.wrap (a * 256)) x = 256 * a + x := by
  have e1 : IntKind.i64.wrap (a * 256) = a * 256 := w64 _ (by omega)
  rw [e1]
  simp only [bits, BitVec.toNat_or, BitVec.toNat_ofInt]
  have e2 : ((2 ^ IntKind.i64.bits : Nat) : Int) = 18446744073709551616 := by decide
  rw [e2, or_nat _ _ 8 (by omega) (by omega), IntKind.wrap_i64]
  omega
theorem orI3 (a x : Int) (hx : 0 ≤ x ∧ x < 8) (h : -9223372036854775808 ≤ 8 * a + x ∧ 8 * a + x ≤ 9223372036854775807) : bits .or .i64 (IntKind.i64.wrap (a * 8)) x = 8 * a + x := by
  have e1 : IntKind.i64.wrap (a * 8) = a * 8 := w64 _ (by omega)
  rw [e1]
  simp only [bits, BitVec.toNat_or, BitVec.toNat_ofInt]
  have e2 : ((2 ^ IntKind.i64.bits : Nat) : Int) = 18446744073709551616 := by decide
  rw [e2, or_nat _ _ 3 (by omega) (by omega), IntKind.wrap_i64]
  omega
theorem xor128 (x f : Int) (hx : 0 ≤ x ∧ x < 256) (hf : f = 0 ∨ f = 255) : (bits .and .u8 (bits .xor .u8 x f) 128 = 0) = (x < 128 ↔ f < 128) := by
  obtain ⟨n, rfl⟩ := Int.eq_ofNat_of_zero_le hx.1
  have key : ∀ n : Fin 256, (bits .and .u8 (bits .xor .u8 (n.val : Int) 0) 128 = 0) ↔ n.val < 128 := by decide
  have key2 : ∀ n : Fin 256, (bits .and .u8 (bits .xor .u8 (n.val : Int) 255) 128 = 0) ↔ ¬ n.val < 128 := by decide
  rcases hf with rfl | rfl
  · have := key ⟨n, by omega⟩
    refine propext (this.trans ?_)
    simp
    omega
  · have := key2 ⟨n, by omega⟩
    refine propext (this.trans ?_)
    simp
    omega
/-- How great a number may be ahead of so many bytes. -/
def nb (v n : Int) (r : Nat) : Prop := if 8 ≤ r then n = v else -(256 ^ (8 - r)) ≤ 2 * n ∧ 2 * n < 256 ^ (8 - r)
theorem nb_fit {v n : Int} {r : Nat} (hv : v = 0 ∨ v = -1) (h : nb v n (r + 1)) (hr : r + 1 ≠ 8) {x : Int} (hx : 0 ≤ x ∧ x < 256) (h8 : 8 ≤ r → 256 * n + x = v) (h9 : 8 < r + 1 → 256 * n + x = v) : nb v (256 * n + x) r ∧ -9223372036854775808 ≤ 256 * n + x ∧ 256 * n + x ≤ 9223372036854775807 := by
  unfold nb at *
  by_cases h1 : 8 ≤ r
  · rw [if_pos h1]
    have := h8 h1
    omega
  · rw [if_neg h1]
    have h2 : ¬ 8 ≤ r + 1 := by omega
    rw [if_neg h2] at h
    have : r = 0 ∨ r = 1 ∨ r = 2 ∨ r = 3 ∨ r = 4 ∨ r = 5 ∨ r = 6 := by omega
    rcases this with rfl | rfl | rfl | rfl | rfl | rfl | rfl <;> simp at h ⊢ <;> omega
theorem nb_top {v n : Int} (hv : v = 0 ∨ v = -1) (h : nb v n 8) {x : Int} (hx : 0 ≤ x ∧ x < 256) (hs : x < 128 ↔ v = 0) : nb v (256 * n + x) 7 ∧ -9223372036854775808 ≤ 256 * n + x ∧ 256 * n + x ≤ 9223372036854775807 := by
  unfold nb at *
  rw [if_pos (by decide)] at h
  rw [if_neg (by decide)]
  subst h
  have : (256 : Int) ^ (8 - 7) = 256 := by decide
  rw [this]
  rcases hv with rfl | rfl
  · have := hs.2 rfl; omega
  · have : ¬ x < 128 := fun e => by have := hs.1 e; omega
    omega
def i28 (b : List Int) (f v : Int) (R : Int × Int) (k : Nat) (s : St) : Prop := ∃ (i : Nat) (n : Int), i + k = b.length ∧ ubG f n (b.drop i) = R ∧ nb v n (b.length - i) ∧ s = ⟨[(1, fB b), (6, Y f), (7, I n), (16, fB b), (17, I (IN b.length)), (18, I (IN i))], [], 0⟩
theorem unbase_con (f0 : Int) (b : List Int) (hb : byt8 b) (hl : b.length = 7 ∨ b.length = 11) (hf0 : f0 = 128 ∨ f0 = 255) : Con Tryd.prog 28 [] [Y f0, fB b] [] (.tu [I (ubF f0 b).1, I (ubF f0 b).2]) := by
  obtain ⟨R, hR⟩ : ∃ R, R = ubF f0 b := ⟨_, rfl⟩
  rw [← hR]
  unfold ubF at hR
  have t0 : b.drop 0 = b := rfl
  rcases hf0 with rfl | rfl
  · rw [if_neg (by decide)] at hR
    obtain ⟨f, hf⟩ : ∃ f : Int, f = 0 := ⟨_, rfl⟩
    obtain ⟨v, hv⟩ : ∃ v : Int, v = 0 := ⟨_, rfl⟩
    have hfv : (f = 0 ∧ v = 0) ∨ (f = 255 ∧ v = -1) := .inl ⟨hf, hv⟩
    have w1 : IntKind.i64.wrap (IntKind.i8.wrap (0 : Int)) = 0 := by decide
    refine con_j b28 rfl ?_
    sym =>
    simp [Zaa,Zab,Zad,Zae,Zaf,Zag,Zah,Zai,Zak,Zal,Zam,Zan,Zao,Zap,Zaq,Zar,Zav,Zaw,Zax,Zay,Zaz,Za0,Za1,Za2,Za3,Za4,Za5,Za6,Za7,Zrh,Za8,Za9,Zba,Zbb,Zbd,Zbf,Zbl,Zbt,Zb1,Zcn,Zev,Zew,Zex,Zez,Ze0,Ze2,Ze5,Zfd,Zfe,Zfh,Zfi,Zfj,Zfk,Zfl,Zfn,Zfo,Zfq,Zfr,Zfv,Zfw,Zfx,Zfz,Zf0,Zf1,Zf3,Zgh,Zgi,Zgr,Zgu,Zg4,Zg6,Zho,Zh6,Zh7,Zmt,Zmv,Zmw,Zmx,Zmz,Zm3,Zm6,Zna,Znb,Zns,Znt,Znw,Zn5,Zoa,Zof,Zog,Zrd,Zos,Zot,Zo3,Zo4,Zo6,Zo7,Zo8,Zo9,Zpb,Zpc,Zpi,Zp9,Zqd,Zqe,Zqf,Zqg,Zqh,Zqm,Zqr,List.length_drop,eq_self,true_and,and_true,Nat.mul_one]
    tactic =>
    rw [w1]
    refine lpA (i28 b f v R) b.length [] _ ⟨0, v, by omega, by rw [hf, hv]; exact hR.symm, by rw [hv]; unfold nb; rcases hl with e | e <;> rw [e] <;> decide, rfl⟩ (wkA ?_) ?_
    · sym =>
      simp [Zaa,Zab,Zad,Zae,Zaf,Zag,Zah,Zai,Zak,Zal,Zam,Zan,Zao,Zap,Zaq,Zar,Zav,Zaw,Zax,Zay,Zaz,Za0,Za1,Za2,Za3,Za4,Za5,Za6,Za7,Zrh,Za8,Za9,Zba,Zbb,Zbd,Zbf,Zbl,Zbt,Zb1,Zcn,Zev,Zew,Zex,Zez,Ze0,Ze2,Ze5,Zfd,Zfe,Zfh,Zfi,Zfj,Zfk,Zfl,Zfn,Zfo,Zfq,Zfr,Zfv,Zfw,Zfx,Zfz,Zf0,Zf1,Zf3,Zgh,Zgi,Zgr,Zgu,Zg4,Zg6,Zho,Zh6,Zh7,Zmt,Zmv,Zmw,Zmx,Zmz,Zm3,Zm6,Zna,Znb,Zns,Znt,Znw,Zn5,Zoa,Zof,Zog,Zrd,Zos,Zot,Zo3,Zo4,Zo6,Zo7,Zo8,Zo9,Zpb,Zpc,Zpi,Zp9,Zqd,Zqe,Zqf,Zqg,Zqh,Zqm,Zqr,List.length_drop,eq_self,true_and,and_true,Nat.mul_one]
      tactic =>
      exact ⟨hf.symm, hv.symm⟩
    rintro k s ⟨i, n, hi, hu, hn, rfl⟩
    by_cases h : i < b.length
    · have hw := w64s i (by omega)
      have hle : IntKind.i64.wrap (IN b.length - IN i) = IN (b.length - i) := w64d _ _ (by omega) (by omega)
      have hg := cB_get b i h
      have hx := byt8_get hb i
      rw [drop_stepD b i h] at hu
      have hdl : (b.drop (i + 1)).length + 1 = b.length - i := by rw [List.length_drop]; omega
      obtain ⟨x, hx0⟩ : ∃ x, x = b.getD i 0 := ⟨_, rfl⟩
      rw [← hx0] at hg hx hu
      rw [ubG, hdl] at hu
      obtain ⟨l, hl⟩ : ∃ l, l = b.length - i := ⟨_, rfl⟩
      obtain ⟨r, hr⟩ : ∃ r, r = b.length - (i + 1) := ⟨_, rfl⟩
      have hlr : l = r + 1 := by omega
      rw [← hl] at hn hu hle
      rw [hlr] at hn
      have hwx : IntKind.i64.wrap x = x := w64 _ (by omega)
      have hcl := cB_length b
      by_cases h8 : 8 < l
      · rw [if_pos h8] at hu
        have he' : ¬ IN l = (8 : Int) := by simp only [IN]; omega
        have h8' : IN l > (8 : Int) := by simp only [IN]; omega
        by_cases hxf : x = f
        · rw [if_pos hxf] at hu
          have hnv : n = v := by unfold nb at hn; rw [if_pos (by omega)] at hn; exact hn
          have hv2 : 256 * n + x = v := by rcases hfv with ⟨g1, g2⟩ | ⟨g1, g2⟩ <;> omega
          obtain ⟨b1, b2, b3⟩ := nb_fit (by rcases hfv with ⟨g1, g2⟩ | ⟨g1, g2⟩ <;> omega) hn (by omega) hx (fun _ => hv2) (fun _ => hv2)
          have ho : bits .or .i64 (IntKind.i64.wrap (n * 2 ^ min 8 IntKind.i64.bits)) x = 256 * n + x := orI8 n x hx ⟨b2, b3⟩
          rw [hr] at b1
          rw [hxf] at hwx ho
          sym =>
          simp [Zaa,Zab,Zad,Zae,Zaf,Zag,Zah,Zai,Zak,Zal,Zam,Zan,Zao,Zap,Zaq,Zar,Zav,Zaw,Zax,Zay,Zaz,Za0,Za1,Za2,Za3,Za4,Za5,Za6,Za7,Zrh,Za8,Za9,Zba,Zbb,Zbd,Zbf,Zbl,Zbt,Zb1,Zcn,Zev,Zew,Zex,Zez,Ze0,Ze2,Ze5,Zfd,Zfe,Zfh,Zfi,Zfj,Zfk,Zfl,Zfn,Zfo,Zfq,Zfr,Zfv,Zfw,Zfx,Zfz,Zf0,Zf1,Zf3,Zgh,Zgi,Zgr,Zgu,Zg4,Zg6,Zho,Zh6,Zh7,Zmt,Zmv,Zmw,Zmx,Zmz,Zm3,Zm6,Zna,Znb,Zns,Znt,Znw,Zn5,Zoa,Zof,Zog,Zrd,Zos,Zot,Zo3,Zo4,Zo6,Zo7,Zo8,Zo9,Zpb,Zpc,Zpi,Zp9,Zqd,Zqe,Zqf,Zqg,Zqh,Zqm,Zqr,List.length_drop,eq_self,true_and,and_true,Nat.mul_one,h,hw,hle,hg,h8',he',hwx,ho,hxf]
          tactic =>
          refine ⟨by omega, by omega, ?_⟩
          unfold NextL; refine ⟨(k - 1), [], _, by omega, ⟨i + 1, 256 * n + x, by omega, hu, b1, rfl⟩, wkA ?_⟩
          sym =>
          simp [Zaa,Zab,Zad,Zae,Zaf,Zag,Zah,Zai,Zak,Zal,Zam,Zan,Zao,Zap,Zaq,Zar,Zav,Zaw,Zax,Zay,Zaz,Za0,Za1,Za2,Za3,Za4,Za5,Za6,Za7,Zrh,Za8,Za9,Zba,Zbb,Zbd,Zbf,Zbl,Zbt,Zb1,Zcn,Zev,Zew,Zex,Zez,Ze0,Ze2,Ze5,Zfd,Zfe,Zfh,Zfi,Zfj,Zfk,Zfl,Zfn,Zfo,Zfq,Zfr,Zfv,Zfw,Zfx,Zfz,Zf0,Zf1,Zf3,Zgh,Zgi,Zgr,Zgu,Zg4,Zg6,Zho,Zh6,Zh7,Zmt,Zmv,Zmw,Zmx,Zmz,Zm3,Zm6,Zna,Znb,Zns,Znt,Znw,Zn5,Zoa,Zof,Zog,Zrd,Zos,Zot,Zo3,Zo4,Zo6,Zo7,Zo8,Zo9,Zpb,Zpc,Zpi,Zp9,Zqd,Zqe,Zqf,Zqg,Zqh,Zqm,Zqr,List.length_drop,eq_self,true_and,and_true,Nat.mul_one,hxf]
        · rw [if_neg hxf] at hu
          subst hu
          sym =>
          simp [Zaa,Zab,Zad,Zae,Zaf,Zag,Zah,Zai,Zak,Zal,Zam,Zan,Zao,Zap,Zaq,Zar,Zav,Zaw,Zax,Zay,Zaz,Za0,Za1,Za2,Za3,Za4,Za5,Za6,Za7,Zrh,Za8,Za9,Zba,Zbb,Zbd,Zbf,Zbl,Zbt,Zb1,Zcn,Zev,Zew,Zex,Zez,Ze0,Ze2,Ze5,Zfd,Zfe,Zfh,Zfi,Zfj,Zfk,Zfl,Zfn,Zfo,Zfq,Zfr,Zfv,Zfw,Zfx,Zfz,Zf0,Zf1,Zf3,Zgh,Zgi,Zgr,Zgu,Zg4,Zg6,Zho,Zh6,Zh7,Zmt,Zmv,Zmw,Zmx,Zmz,Zm3,Zm6,Zna,Znb,Zns,Znt,Znw,Zn5,Zoa,Zof,Zog,Zrd,Zos,Zot,Zo3,Zo4,Zo6,Zo7,Zo8,Zo9,Zpb,Zpc,Zpi,Zp9,Zqd,Zqe,Zqf,Zqg,Zqh,Zqm,Zqr,List.length_drop,eq_self,true_and,and_true,Nat.mul_one,h,hw,hle,hg,h8',hxf]
          tactic =>
          refine ⟨by omega, by omega, endA ?_⟩
          sym =>
          simp [Zaa,Zab,Zad,Zae,Zaf,Zag,Zah,Zai,Zak,Zal,Zam,Zan,Zao,Zap,Zaq,Zar,Zav,Zaw,Zax,Zay,Zaz,Za0,Za1,Za2,Za3,Za4,Za5,Za6,Za7,Zrh,Za8,Za9,Zba,Zbb,Zbd,Zbf,Zbl,Zbt,Zb1,Zcn,Zev,Zew,Zex,Zez,Ze0,Ze2,Ze5,Zfd,Zfe,Zfh,Zfi,Zfj,Zfk,Zfl,Zfn,Zfo,Zfq,Zfr,Zfv,Zfw,Zfx,Zfz,Zf0,Zf1,Zf3,Zgh,Zgi,Zgr,Zgu,Zg4,Zg6,Zho,Zh6,Zh7,Zmt,Zmv,Zmw,Zmx,Zmz,Zm3,Zm6,Zna,Znb,Zns,Znt,Znw,Zn5,Zoa,Zof,Zog,Zrd,Zos,Zot,Zo3,Zo4,Zo6,Zo7,Zo8,Zo9,Zpb,Zpc,Zpi,Zp9,Zqd,Zqe,Zqf,Zqg,Zqh,Zqm,Zqr,List.length_drop,eq_self,true_and,and_true,Nat.mul_one]
      · rw [if_neg h8] at hu
        have h8' : ¬ IN l > (8 : Int) := by simp only [IN]; omega
        by_cases he : l = 8
        · rw [if_pos he] at hu
          have hx8 := xor128 x f hx (by rcases hfv with ⟨g1, g2⟩ | ⟨g1, g2⟩ <;> omega)
          by_cases hs : (x < 128 ↔ f < 128)
          · rw [if_pos hs] at hu
            have hz : bits .and .u8 (bits .xor .u8 x f) 128 = 0 := cast hx8.symm hs
            have hr7 : r = 7 := by omega
            rw [hr7] at hn
            obtain ⟨b1, b2, b3⟩ := nb_top (by rcases hfv with ⟨g1, g2⟩ | ⟨g1, g2⟩ <;> omega) hn hx (by rcases hfv with ⟨g1, g2⟩ | ⟨g1, g2⟩ <;> omega)
            have ho : bits .or .i64 (IntKind.i64.wrap (n * 2 ^ min 8 IntKind.i64.bits)) x = 256 * n + x := orI8 n x hx ⟨b2, b3⟩
            rw [← hr7, hr] at b1
            sym =>
            simp [Zaa,Zab,Zad,Zae,Zaf,Zag,Zah,Zai,Zak,Zal,Zam,Zan,Zao,Zap,Zaq,Zar,Zav,Zaw,Zax,Zay,Zaz,Za0,Za1,Za2,Za3,Za4,Za5,Za6,Za7,Zrh,Za8,Za9,Zba,Zbb,Zbd,Zbf,Zbl,Zbt,Zb1,Zcn,Zev,Zew,Zex,Zez,Ze0,Ze2,Ze5,Zfd,Zfe,Zfh,Zfi,Zfj,Zfk,Zfl,Zfn,Zfo,Zfq,Zfr,Zfv,Zfw,Zfx,Zfz,Zf0,Zf1,Zf3,Zgh,Zgi,Zgr,Zgu,Zg4,Zg6,Zho,Zh6,Zh7,Zmt,Zmv,Zmw,Zmx,Zmz,Zm3,Zm6,Zna,Znb,Zns,Znt,Znw,Zn5,Zoa,Zof,Zog,Zrd,Zos,Zot,Zo3,Zo4,Zo6,Zo7,Zo8,Zo9,Zpb,Zpc,Zpi,Zp9,Zqd,Zqe,Zqf,Zqg,Zqh,Zqm,Zqr,List.length_drop,eq_self,true_and,and_true,Nat.mul_one,h,hw,hle,hg,h8',he,hwx,ho,hz]
            tactic =>
            refine ⟨by omega, by omega, ?_⟩
            unfold NextL; refine ⟨(k - 1), [], _, by omega, ⟨i + 1, 256 * n + x, by omega, hu, b1, rfl⟩, wkA ?_⟩
            sym =>
            simp [Zaa,Zab,Zad,Zae,Zaf,Zag,Zah,Zai,Zak,Zal,Zam,Zan,Zao,Zap,Zaq,Zar,Zav,Zaw,Zax,Zay,Zaz,Za0,Za1,Za2,Za3,Za4,Za5,Za6,Za7,Zrh,Za8,Za9,Zba,Zbb,Zbd,Zbf,Zbl,Zbt,Zb1,Zcn,Zev,Zew,Zex,Zez,Ze0,Ze2,Ze5,Zfd,Zfe,Zfh,Zfi,Zfj,Zfk,Zfl,Zfn,Zfo,Zfq,Zfr,Zfv,Zfw,Zfx,Zfz,Zf0,Zf1,Zf3,Zgh,Zgi,Zgr,Zgu,Zg4,Zg6,Zho,Zh6,Zh7,Zmt,Zmv,Zmw,Zmx,Zmz,Zm3,Zm6,Zna,Znb,Zns,Znt,Znw,Zn5,Zoa,Zof,Zog,Zrd,Zos,Zot,Zo3,Zo4,Zo6,Zo7,Zo8,Zo9,Zpb,Zpc,Zpi,Zp9,Zqd,Zqe,Zqf,Zqg,Zqh,Zqm,Zqr,List.length_drop,eq_self,true_and,and_true,Nat.mul_one]
          · rw [if_neg hs] at hu
            have hz : ¬ bits .and .u8 (bits .xor .u8 x f) 128 = 0 := fun e => hs (cast hx8 e)
            subst hu
            sym =>
            simp [Zaa,Zab,Zad,Zae,Zaf,Zag,Zah,Zai,Zak,Zal,Zam,Zan,Zao,Zap,Zaq,Zar,Zav,Zaw,Zax,Zay,Zaz,Za0,Za1,Za2,Za3,Za4,Za5,Za6,Za7,Zrh,Za8,Za9,Zba,Zbb,Zbd,Zbf,Zbl,Zbt,Zb1,Zcn,Zev,Zew,Zex,Zez,Ze0,Ze2,Ze5,Zfd,Zfe,Zfh,Zfi,Zfj,Zfk,Zfl,Zfn,Zfo,Zfq,Zfr,Zfv,Zfw,Zfx,Zfz,Zf0,Zf1,Zf3,Zgh,Zgi,Zgr,Zgu,Zg4,Zg6,Zho,Zh6,Zh7,Zmt,Zmv,Zmw,Zmx,Zmz,Zm3,Zm6,Zna,Znb,Zns,Znt,Znw,Zn5,Zoa,Zof,Zog,Zrd,Zos,Zot,Zo3,Zo4,Zo6,Zo7,Zo8,Zo9,Zpb,Zpc,Zpi,Zp9,Zqd,Zqe,Zqf,Zqg,Zqh,Zqm,Zqr,List.length_drop,eq_self,true_and,and_true,Nat.mul_one,h,hw,hle,hg,h8',he,hz]
            tactic =>
            refine ⟨by omega, by omega, endA ?_⟩
            sym =>
            simp [Zaa,Zab,Zad,Zae,Zaf,Zag,Zah,Zai,Zak,Zal,Zam,Zan,Zao,Zap,Zaq,Zar,Zav,Zaw,Zax,Zay,Zaz,Za0,Za1,Za2,Za3,Za4,Za5,Za6,Za7,Zrh,Za8,Za9,Zba,Zbb,Zbd,Zbf,Zbl,Zbt,Zb1,Zcn,Zev,Zew,Zex,Zez,Ze0,Ze2,Ze5,Zfd,Zfe,Zfh,Zfi,Zfj,Zfk,Zfl,Zfn,Zfo,Zfq,Zfr,Zfv,Zfw,Zfx,Zfz,Zf0,Zf1,Zf3,Zgh,Zgi,Zgr,Zgu,Zg4,Zg6,Zho,Zh6,Zh7,Zmt,Zmv,Zmw,Zmx,Zmz,Zm3,Zm6,Zna,Znb,Zns,Znt,Znw,Zn5,Zoa,Zof,Zog,Zrd,Zos,Zot,Zo3,Zo4,Zo6,Zo7,Zo8,Zo9,Zpb,Zpc,Zpi,Zp9,Zqd,Zqe,Zqf,Zqg,Zqh,Zqm,Zqr,List.length_drop,eq_self,true_and,and_true,Nat.mul_one]
        · rw [if_neg he] at hu
          have he' : ¬ IN l = (8 : Int) := by simp only [IN]; omega
          obtain ⟨b1, b2, b3⟩ := nb_fit (x := x) (by rcases hfv with ⟨g1, g2⟩ | ⟨g1, g2⟩ <;> omega) hn (by omega) hx (fun _ => by omega) (fun _ => by omega)
          have ho : bits .or .i64 (IntKind.i64.wrap (n * 2 ^ min 8 IntKind.i64.bits)) x = 256 * n + x := orI8 n x hx ⟨b2, b3⟩
          rw [hr] at b1
          sym =>
          simp [Zaa,Zab,Zad,Zae,Zaf,Zag,Zah,Zai,Zak,Zal,Zam,Zan,Zao,Zap,Zaq,Zar,Zav,Zaw,Zax,Zay,Zaz,Za0,Za1,Za2,Za3,Za4,Za5,Za6,Za7,Zrh,Za8,Za9,Zba,Zbb,Zbd,Zbf,Zbl,Zbt,Zb1,Zcn,Zev,Zew,Zex,Zez,Ze0,Ze2,Ze5,Zfd,Zfe,Zfh,Zfi,Zfj,Zfk,Zfl,Zfn,Zfo,Zfq,Zfr,Zfv,Zfw,Zfx,Zfz,Zf0,Zf1,Zf3,Zgh,Zgi,Zgr,Zgu,Zg4,Zg6,Zho,Zh6,Zh7,Zmt,Zmv,Zmw,Zmx,Zmz,Zm3,Zm6,Zna,Znb,Zns,Znt,Znw,Zn5,Zoa,Zof,Zog,Zrd,Zos,Zot,Zo3,Zo4,Zo6,Zo7,Zo8,Zo9,Zpb,Zpc,Zpi,Zp9,Zqd,Zqe,Zqf,Zqg,Zqh,Zqm,Zqr,List.length_drop,eq_self,true_and,and_true,Nat.mul_one,h,hw,hle,hg,h8',he',hwx,ho]
          tactic =>
          refine ⟨by omega, by omega, ?_⟩
          unfold NextL; refine ⟨(k - 1), [], _, by omega, ⟨i + 1, 256 * n + x, by omega, hu, b1, rfl⟩, wkA ?_⟩
          sym =>
          simp [Zaa,Zab,Zad,Zae,Zaf,Zag,Zah,Zai,Zak,Zal,Zam,Zan,Zao,Zap,Zaq,Zar,Zav,Zaw,Zax,Zay,Zaz,Za0,Za1,Za2,Za3,Za4,Za5,Za6,Za7,Zrh,Za8,Za9,Zba,Zbb,Zbd,Zbf,Zbl,Zbt,Zb1,Zcn,Zev,Zew,Zex,Zez,Ze0,Ze2,Ze5,Zfd,Zfe,Zfh,Zfi,Zfj,Zfk,Zfl,Zfn,Zfo,Zfq,Zfr,Zfv,Zfw,Zfx,Zfz,Zf0,Zf1,Zf3,Zgh,Zgi,Zgr,Zgu,Zg4,Zg6,Zho,Zh6,Zh7,Zmt,Zmv,Zmw,Zmx,Zmz,Zm3,Zm6,Zna,Znb,Zns,Znt,Znw,Zn5,Zoa,Zof,Zog,Zrd,Zos,Zot,Zo3,Zo4,Zo6,Zo7,Zo8,Zo9,Zpb,Zpc,Zpi,Zp9,Zqd,Zqe,Zqf,Zqg,Zqh,Zqm,Zqr,List.length_drop,eq_self,true_and,and_true,Nat.mul_one]
    · obtain rfl : i = b.length := by omega
      rw [List.drop_of_length_le (Nat.le_refl _), ubG] at hu
      subst hu
      sym =>
      simp [Zaa,Zab,Zad,Zae,Zaf,Zag,Zah,Zai,Zak,Zal,Zam,Zan,Zao,Zap,Zaq,Zar,Zav,Zaw,Zax,Zay,Zaz,Za0,Za1,Za2,Za3,Za4,Za5,Za6,Za7,Zrh,Za8,Za9,Zba,Zbb,Zbd,Zbf,Zbl,Zbt,Zb1,Zcn,Zev,Zew,Zex,Zez,Ze0,Ze2,Ze5,Zfd,Zfe,Zfh,Zfi,Zfj,Zfk,Zfl,Zfn,Zfo,Zfq,Zfr,Zfv,Zfw,Zfx,Zfz,Zf0,Zf1,Zf3,Zgh,Zgi,Zgr,Zgu,Zg4,Zg6,Zho,Zh6,Zh7,Zmt,Zmv,Zmw,Zmx,Zmz,Zm3,Zm6,Zna,Znb,Zns,Znt,Znw,Zn5,Zoa,Zof,Zog,Zrd,Zos,Zot,Zo3,Zo4,Zo6,Zo7,Zo8,Zo9,Zpb,Zpc,Zpi,Zp9,Zqd,Zqe,Zqf,Zqg,Zqh,Zqm,Zqr,List.length_drop,eq_self,true_and,and_true,Nat.mul_one,h]
      tactic =>
      refine endA ?_
      sym =>
      simp [Zaa,Zab,Zad,Zae,Zaf,Zag,Zah,Zai,Zak,Zal,Zam,Zan,Zao,Zap,Zaq,Zar,Zav,Zaw,Zax,Zay,Zaz,Za0,Za1,Za2,Za3,Za4,Za5,Za6,Za7,Zrh,Za8,Za9,Zba,Zbb,Zbd,Zbf,Zbl,Zbt,Zb1,Zcn,Zev,Zew,Zex,Zez,Ze0,Ze2,Ze5,Zfd,Zfe,Zfh,Zfi,Zfj,Zfk,Zfl,Zfn,Zfo,Zfq,Zfr,Zfv,Zfw,Zfx,Zfz,Zf0,Zf1,Zf3,Zgh,Zgi,Zgr,Zgu,Zg4,Zg6,Zho,Zh6,Zh7,Zmt,Zmv,Zmw,Zmx,Zmz,Zm3,Zm6,Zna,Znb,Zns,Znt,Znw,Zn5,Zoa,Zof,Zog,Zrd,Zos,Zot,Zo3,Zo4,Zo6,Zo7,Zo8,Zo9,Zpb,Zpc,Zpi,Zp9,Zqd,Zqe,Zqf,Zqg,Zqh,Zqm,Zqr,List.length_drop,eq_self,true_and,and_true,Nat.mul_one]
  · rw [if_pos rfl] at hR
    obtain ⟨f, hf⟩ : ∃ f : Int, f = 255 := ⟨_, rfl⟩
    obtain ⟨v, hv⟩ : ∃ v : Int, v = -1 := ⟨_, rfl⟩
    have hfv : (f = 0 ∧ v = 0) ∨ (f = 255 ∧ v = -1) := .inr ⟨hf, hv⟩
    have w1 : IntKind.i64.wrap (IntKind.i8.wrap (255 : Int)) = -1 := by decide
    refine con_j b28 rfl ?_
    sym =>
    simp [Zaa,Zab,Zad,Zae,Zaf,Zag,Zah,Zai,Zak,Zal,Zam,Zan,Zao,Zap,Zaq,Zar,Zav,Zaw,Zax,Zay,Zaz,Za0,Za1,Za2,Za3,Za4,Za5,Za6,Za7,Zrh,Za8,Za9,Zba,Zbb,Zbd,Zbf,Zbl,Zbt,Zb1,Zcn,Zev,Zew,Zex,Zez,Ze0,Ze2,Ze5,Zfd,Zfe,Zfh,Zfi,Zfj,Zfk,Zfl,Zfn,Zfo,Zfq,Zfr,Zfv,Zfw,Zfx,Zfz,Zf0,Zf1,Zf3,Zgh,Zgi,Zgr,Zgu,Zg4,Zg6,Zho,Zh6,Zh7,Zmt,Zmv,Zmw,Zmx,Zmz,Zm3,Zm6,Zna,Znb,Zns,Znt,Znw,Zn5,Zoa,Zof,Zog,Zrd,Zos,Zot,Zo3,Zo4,Zo6,Zo7,Zo8,Zo9,Zpb,Zpc,Zpi,Zp9,Zqd,Zqe,Zqf,Zqg,Zqh,Zqm,Zqr,List.length_drop,eq_self,true_and,and_true,Nat.mul_one]
    tactic =>
    rw [w1]
    refine lpA (i28 b f v R) b.length [] _ ⟨0, v, by omega, by rw [hf, hv]; exact hR.symm, by rw [hv]; unfold nb; rcases hl with e | e <;> rw [e] <;> decide, rfl⟩ (wkA ?_) ?_
    · sym =>
      simp [Zaa,Zab,Zad,Zae,Zaf,Zag,Zah,Zai,Zak,Zal,Zam,Zan,Zao,Zap,Zaq,Zar,Zav,Zaw,Zax,Zay,Zaz,Za0,Za1,Za2,Za3,Za4,Za5,Za6,Za7,Zrh,Za8,Za9,Zba,Zbb,Zbd,Zbf,Zbl,Zbt,Zb1,Zcn,Zev,Zew,Zex,Zez,Ze0,Ze2,Ze5,Zfd,Zfe,Zfh,Zfi,Zfj,Zfk,Zfl,Zfn,Zfo,Zfq,Zfr,Zfv,Zfw,Zfx,Zfz,Zf0,Zf1,Zf3,Zgh,Zgi,Zgr,Zgu,Zg4,Zg6,Zho,Zh6,Zh7,Zmt,Zmv,Zmw,Zmx,Zmz,Zm3,Zm6,Zna,Znb,Zns,Znt,Znw,Zn5,Zoa,Zof,Zog,Zrd,Zos,Zot,Zo3,Zo4,Zo6,Zo7,Zo8,Zo9,Zpb,Zpc,Zpi,Zp9,Zqd,Zqe,Zqf,Zqg,Zqh,Zqm,Zqr,List.length_drop,eq_self,true_and,and_true,Nat.mul_one]
      tactic =>
      exact ⟨hf.symm, hv.symm⟩
    rintro k s ⟨i, n, hi, hu, hn, rfl⟩
    by_cases h : i < b.length
    · have hw := w64s i (by omega)
      have hle : IntKind.i64.wrap (IN b.length - IN i) = IN (b.length - i) := w64d _ _ (by omega) (by omega)
      have hg := cB_get b i h
      have hx := byt8_get hb i
      rw [drop_stepD b i h] at hu
      have hdl : (b.drop (i + 1)).length + 1 = b.length - i := by rw [List.length_drop]; omega
      obtain ⟨x, hx0⟩ : ∃ x, x = b.getD i 0 := ⟨_, rfl⟩
      rw [← hx0] at hg hx hu
      rw [ubG, hdl] at hu
      obtain ⟨l, hl⟩ : ∃ l, l = b.length - i := ⟨_, rfl⟩
      obtain ⟨r, hr⟩ : ∃ r, r = b.length - (i + 1) := ⟨_, rfl⟩
      have hlr : l = r + 1 := by omega
      rw [← hl] at hn hu hle
      rw [hlr] at hn
      have hwx : IntKind.i64.wrap x = x := w64 _ (by omega)
      have hcl := cB_length b
      by_cases h8 : 8 < l
      · rw [if_pos h8] at hu
        have he' : ¬ IN l = (8 : Int) := by simp only [IN]; omega
        have h8' : IN l > (8 : Int) := by simp only [IN]; omega
        by_cases hxf : x = f
        · rw [if_pos hxf] at hu
          have hnv : n = v := by unfold nb at hn; rw [if_pos (by omega)] at hn; exact hn
          have hv2 : 256 * n + x = v := by rcases hfv with ⟨g1, g2⟩ | ⟨g1, g2⟩ <;> omega
          obtain ⟨b1, b2, b3⟩ := nb_fit (by rcases hfv with ⟨g1, g2⟩ | ⟨g1, g2⟩ <;> omega) hn (by omega) hx (fun _ => hv2) (fun _ => hv2)
          have ho : bits .or .i64 (IntKind.i64.wrap (n * 2 ^ min 8 IntKind.i64.bits)) x = 256 * n + x := orI8 n x hx ⟨b2, b3⟩
          rw [hr] at b1
          rw [hxf] at hwx ho
          sym =>
          simp [Zaa,Zab,Zad,Zae,Zaf,Zag,Zah,Zai,Zak,Zal,Zam,Zan,Zao,Zap,Zaq,Zar,Zav,Zaw,Zax,Zay,Zaz,Za0,Za1,Za2,Za3,Za4,Za5,Za6,Za7,Zrh,Za8,Za9,Zba,Zbb,Zbd,Zbf,Zbl,Zbt,Zb1,Zcn,Zev,Zew,Zex,Zez,Ze0,Ze2,Ze5,Zfd,Zfe,Zfh,Zfi,Zfj,Zfk,Zfl,Zfn,Zfo,Zfq,Zfr,Zfv,Zfw,Zfx,Zfz,Zf0,Zf1,Zf3,Zgh,Zgi,Zgr,Zgu,Zg4,Zg6,Zho,Zh6,Zh7,Zmt,Zmv,Zmw,Zmx,Zmz,Zm3,Zm6,Zna,Znb,Zns,Znt,Znw,Zn5,Zoa,Zof,Zog,Zrd,Zos,Zot,Zo3,Zo4,Zo6,Zo7,Zo8,Zo9,Zpb,Zpc,Zpi,Zp9,Zqd,Zqe,Zqf,Zqg,Zqh,Zqm,Zqr,List.length_drop,eq_self,true_and,and_true,Nat.mul_one,h,hw,hle,hg,h8',he',hwx,ho,hxf]
          tactic =>
          refine ⟨by omega, by omega, ?_⟩
          unfold NextL; refine ⟨(k - 1), [], _, by omega, ⟨i + 1, 256 * n + x, by omega, hu, b1, rfl⟩, wkA ?_⟩
          sym =>
          simp [Zaa,Zab,Zad,Zae,Zaf,Zag,Zah,Zai,Zak,Zal,Zam,Zan,Zao,Zap,Zaq,Zar,Zav,Zaw,Zax,Zay,Zaz,Za0,Za1,Za2,Za3,Za4,Za5,Za6,Za7,Zrh,Za8,Za9,Zba,Zbb,Zbd,Zbf,Zbl,Zbt,Zb1,Zcn,Zev,Zew,Zex,Zez,Ze0,Ze2,Ze5,Zfd,Zfe,Zfh,Zfi,Zfj,Zfk,Zfl,Zfn,Zfo,Zfq,Zfr,Zfv,Zfw,Zfx,Zfz,Zf0,Zf1,Zf3,Zgh,Zgi,Zgr,Zgu,Zg4,Zg6,Zho,Zh6,Zh7,Zmt,Zmv,Zmw,Zmx,Zmz,Zm3,Zm6,Zna,Znb,Zns,Znt,Znw,Zn5,Zoa,Zof,Zog,Zrd,Zos,Zot,Zo3,Zo4,Zo6,Zo7,Zo8,Zo9,Zpb,Zpc,Zpi,Zp9,Zqd,Zqe,Zqf,Zqg,Zqh,Zqm,Zqr,List.length_drop,eq_self,true_and,and_true,Nat.mul_one,hxf]
        · rw [if_neg hxf] at hu
          subst hu
          sym =>
          simp [Zaa,Zab,Zad,Zae,Zaf,Zag,Zah,Zai,Zak,Zal,Zam,Zan,Zao,Zap,Zaq,Zar,Zav,Zaw,Zax,Zay,Zaz,Za0,Za1,Za2,Za3,Za4,Za5,Za6,Za7,Zrh,Za8,Za9,Zba,Zbb,Zbd,Zbf,Zbl,Zbt,Zb1,Zcn,Zev,Zew,Zex,Zez,Ze0,Ze2,Ze5,Zfd,Zfe,Zfh,Zfi,Zfj,Zfk,Zfl,Zfn,Zfo,Zfq,Zfr,Zfv,Zfw,Zfx,Zfz,Zf0,Zf1,Zf3,Zgh,Zgi,Zgr,Zgu,Zg4,Zg6,Zho,Zh6,Zh7,Zmt,Zmv,Zmw,Zmx,Zmz,Zm3,Zm6,Zna,Znb,Zns,Znt,Znw,Zn5,Zoa,Zof,Zog,Zrd,Zos,Zot,Zo3,Zo4,Zo6,Zo7,Zo8,Zo9,Zpb,Zpc,Zpi,Zp9,Zqd,Zqe,Zqf,Zqg,Zqh,Zqm,Zqr,List.length_drop,eq_self,true_and,and_true,Nat.mul_one,h,hw,hle,hg,h8',hxf]
          tactic =>
          refine ⟨by omega, by omega, endA ?_⟩
          sym =>
          simp [Zaa,Zab,Zad,Zae,Zaf,Zag,Zah,Zai,Zak,Zal,Zam,Zan,Zao,Zap,Zaq,Zar,Zav,Zaw,Zax,Zay,Zaz,Za0,Za1,Za2,Za3,Za4,Za5,Za6,Za7,Zrh,Za8,Za9,Zba,Zbb,Zbd,Zbf,Zbl,Zbt,Zb1,Zcn,Zev,Zew,Zex,Zez,Ze0,Ze2,Ze5,Zfd,Zfe,Zfh,Zfi,Zfj,Zfk,Zfl,Zfn,Zfo,Zfq,Zfr,Zfv,Zfw,Zfx,Zfz,Zf0,Zf1,Zf3,Zgh,Zgi,Zgr,Zgu,Zg4,Zg6,Zho,Zh6,Zh7,Zmt,Zmv,Zmw,Zmx,Zmz,Zm3,Zm6,Zna,Znb,Zns,Znt,Znw,Zn5,Zoa,Zof,Zog,Zrd,Zos,Zot,Zo3,Zo4,Zo6,Zo7,Zo8,Zo9,Zpb,Zpc,Zpi,Zp9,Zqd,Zqe,Zqf,Zqg,Zqh,Zqm,Zqr,List.length_drop,eq_self,true_and,and_true,Nat.mul_one]
      · rw [if_neg h8] at hu
        have h8' : ¬ IN l > (8 : Int) := by simp only [IN]; omega
        by_cases he : l = 8
        · rw [if_pos he] at hu
          have hx8 := xor128 x f hx (by rcases hfv with ⟨g1, g2⟩ | ⟨g1, g2⟩ <;> omega)
          by_cases hs : (x < 128 ↔ f < 128)
          · rw [if_pos hs] at hu
            have hz : bits .and .u8 (bits .xor .u8 x f) 128 = 0 := cast hx8.symm hs
            have hr7 : r = 7 := by omega
            rw [hr7] at hn
            obtain ⟨b1, b2, b3⟩ := nb_top (by rcases hfv with ⟨g1, g2⟩ | ⟨g1, g2⟩ <;> omega) hn hx (by rcases hfv with ⟨g1, g2⟩ | ⟨g1, g2⟩ <;> omega)
            have ho : bits .or .i64 (IntKind.i64.wrap (n * 2 ^ min 8 IntKind.i64.bits)) x = 256 * n + x := orI8 n x hx ⟨b2, b3⟩
            rw [← hr7, hr] at b1
            sym =>
            simp [Zaa,Zab,Zad,Zae,Zaf,Zag,Zah,Zai,Zak,Zal,Zam,Zan,Zao,Zap,Zaq,Zar,Zav,Zaw,Zax,Zay,Zaz,Za0,Za1,Za2,Za3,Za4,Za5,Za6,Za7,Zrh,Za8,Za9,Zba,Zbb,Zbd,Zbf,Zbl,Zbt,Zb1,Zcn,Zev,Zew,Zex,Zez,Ze0,Ze2,Ze5,Zfd,Zfe,Zfh,Zfi,Zfj,Zfk,Zfl,Zfn,Zfo,Zfq,Zfr,Zfv,Zfw,Zfx,Zfz,Zf0,Zf1,Zf3,Zgh,Zgi,Zgr,Zgu,Zg4,Zg6,Zho,Zh6,Zh7,Zmt,Zmv,Zmw,Zmx,Zmz,Zm3,Zm6,Zna,Znb,Zns,Znt,Znw,Zn5,Zoa,Zof,Zog,Zrd,Zos,Zot,Zo3,Zo4,Zo6,Zo7,Zo8,Zo9,Zpb,Zpc,Zpi,Zp9,Zqd,Zqe,Zqf,Zqg,Zqh,Zqm,Zqr,List.length_drop,eq_self,true_and,and_true,Nat.mul_one,h,hw,hle,hg,h8',he,hwx,ho,hz]
            tactic =>
            refine ⟨by omega, by omega, ?_⟩
            unfold NextL; refine ⟨(k - 1), [], _, by omega, ⟨i + 1, 256 * n + x, by omega, hu, b1, rfl⟩, wkA ?_⟩
            sym =>
            simp [Zaa,Zab,Zad,Zae,Zaf,Zag,Zah,Zai,Zak,Zal,Zam,Zan,Zao,Zap,Zaq,Zar,Zav,Zaw,Zax,Zay,Zaz,Za0,Za1,Za2,Za3,Za4,Za5,Za6,Za7,Zrh,Za8,Za9,Zba,Zbb,Zbd,Zbf,Zbl,Zbt,Zb1,Zcn,Zev,Zew,Zex,Zez,Ze0,Ze2,Ze5,Zfd,Zfe,Zfh,Zfi,Zfj,Zfk,Zfl,Zfn,Zfo,Zfq,Zfr,Zfv,Zfw,Zfx,Zfz,Zf0,Zf1,Zf3,Zgh,Zgi,Zgr,Zgu,Zg4,Zg6,Zho,Zh6,Zh7,Zmt,Zmv,Zmw,Zmx,Zmz,Zm3,Zm6,Zna,Znb,Zns,Znt,Znw,Zn5,Zoa,Zof,Zog,Zrd,Zos,Zot,Zo3,Zo4,Zo6,Zo7,Zo8,Zo9,Zpb,Zpc,Zpi,Zp9,Zqd,Zqe,Zqf,Zqg,Zqh,Zqm,Zqr,List.length_drop,eq_self,true_and,and_true,Nat.mul_one]
          · rw [if_neg hs] at hu
            have hz : ¬ bits .and .u8 (bits .xor .u8 x f) 128 = 0 := fun e => hs (cast hx8 e)
            subst hu
            sym =>
            simp [Zaa,Zab,Zad,Zae,Zaf,Zag,Zah,Zai,Zak,Zal,Zam,Zan,Zao,Zap,Zaq,Zar,Zav,Zaw,Zax,Zay,Zaz,Za0,Za1,Za2,Za3,Za4,Za5,Za6,Za7,Zrh,Za8,Za9,Zba,Zbb,Zbd,Zbf,Zbl,Zbt,Zb1,Zcn,Zev,Zew,Zex,Zez,Ze0,Ze2,Ze5,Zfd,Zfe,Zfh,Zfi,Zfj,Zfk,Zfl,Zfn,Zfo,Zfq,Zfr,Zfv,Zfw,Zfx,Zfz,Zf0,Zf1,Zf3,Zgh,Zgi,Zgr,Zgu,Zg4,Zg6,Zho,Zh6,Zh7,Zmt,Zmv,Zmw,Zmx,Zmz,Zm3,Zm6,Zna,Znb,Zns,Znt,Znw,Zn5,Zoa,Zof,Zog,Zrd,Zos,Zot,Zo3,Zo4,Zo6,Zo7,Zo8,Zo9,Zpb,Zpc,Zpi,Zp9,Zqd,Zqe,Zqf,Zqg,Zqh,Zqm,Zqr,List.length_drop,eq_self,true_and,and_true,Nat.mul_one,h,hw,hle,hg,h8',he,hz]
            tactic =>
            refine ⟨by omega, by omega, endA ?_⟩
            sym =>
            simp [Zaa,Zab,Zad,Zae,Zaf,Zag,Zah,Zai,Zak,Zal,Zam,Zan,Zao,Zap,Zaq,Zar,Zav,Zaw,Zax,Zay,Zaz,Za0,Za1,Za2,Za3,Za4,Za5,Za6,Za7,Zrh,Za8,Za9,Zba,Zbb,Zbd,Zbf,Zbl,Zbt,Zb1,Zcn,Zev,Zew,Zex,Zez,Ze0,Ze2,Ze5,Zfd,Zfe,Zfh,Zfi,Zfj,Zfk,Zfl,Zfn,Zfo,Zfq,Zfr,Zfv,Zfw,Zfx,Zfz,Zf0,Zf1,Zf3,Zgh,Zgi,Zgr,Zgu,Zg4,Zg6,Zho,Zh6,Zh7,Zmt,Zmv,Zmw,Zmx,Zmz,Zm3,Zm6,Zna,Znb,Zns,Znt,Znw,Zn5,Zoa,Zof,Zog,Zrd,Zos,Zot,Zo3,Zo4,Zo6,Zo7,Zo8,Zo9,Zpb,Zpc,Zpi,Zp9,Zqd,Zqe,Zqf,Zqg,Zqh,Zqm,Zqr,List.length_drop,eq_self,true_and,and_true,Nat.mul_one]
        · rw [if_neg he] at hu
          have he' : ¬ IN l = (8 : Int) := by simp only [IN]; omega
          obtain ⟨b1, b2, b3⟩ := nb_fit (x := x) (by rcases hfv with ⟨g1, g2⟩ | ⟨g1, g2⟩ <;> omega) hn (by omega) hx (fun _ => by omega) (fun _ => by omega)
          have ho : bits .or .i64 (IntKind.i64.wrap (n * 2 ^ min 8 IntKind.i64.bits)) x = 256 * n + x := orI8 n x hx ⟨b2, b3⟩
          rw [hr] at b1
          sym =>
          simp [Zaa,Zab,Zad,Zae,Zaf,Zag,Zah,Zai,Zak,Zal,Zam,Zan,Zao,Zap,Zaq,Zar,Zav,Zaw,Zax,Zay,Zaz,Za0,Za1,Za2,Za3,Za4,Za5,Za6,Za7,Zrh,Za8,Za9,Zba,Zbb,Zbd,Zbf,Zbl,Zbt,Zb1,Zcn,Zev,Zew,Zex,Zez,Ze0,Ze2,Ze5,Zfd,Zfe,Zfh,Zfi,Zfj,Zfk,Zfl,Zfn,Zfo,Zfq,Zfr,Zfv,Zfw,Zfx,Zfz,Zf0,Zf1,Zf3,Zgh,Zgi,Zgr,Zgu,Zg4,Zg6,Zho,Zh6,Zh7,Zmt,Zmv,Zmw,Zmx,Zmz,Zm3,Zm6,Zna,Znb,Zns,Znt,Znw,Zn5,Zoa,Zof,Zog,Zrd,Zos,Zot,Zo3,Zo4,Zo6,Zo7,Zo8,Zo9,Zpb,Zpc,Zpi,Zp9,Zqd,Zqe,Zqf,Zqg,Zqh,Zqm,Zqr,List.length_drop,eq_self,true_and,and_true,Nat.mul_one,h,hw,hle,hg,h8',he',hwx,ho]
          tactic =>
          refine ⟨by omega, by omega, ?_⟩
          unfold NextL; refine ⟨(k - 1), [], _, by omega, ⟨i + 1, 256 * n + x, by omega, hu, b1, rfl⟩, wkA ?_⟩
          sym =>
          simp [Zaa,Zab,Zad,Zae,Zaf,Zag,Zah,Zai,Zak,Zal,Zam,Zan,Zao,Zap,Zaq,Zar,Zav,Zaw,Zax,Zay,Zaz,Za0,Za1,Za2,Za3,Za4,Za5,Za6,Za7,Zrh,Za8,Za9,Zba,Zbb,Zbd,Zbf,Zbl,Zbt,Zb1,Zcn,Zev,Zew,Zex,Zez,Ze0,Ze2,Ze5,Zfd,Zfe,Zfh,Zfi,Zfj,Zfk,Zfl,Zfn,Zfo,Zfq,Zfr,Zfv,Zfw,Zfx,Zfz,Zf0,Zf1,Zf3,Zgh,Zgi,Zgr,Zgu,Zg4,Zg6,Zho,Zh6,Zh7,Zmt,Zmv,Zmw,Zmx,Zmz,Zm3,Zm6,Zna,Znb,Zns,Znt,Znw,Zn5,Zoa,Zof,Zog,Zrd,Zos,Zot,Zo3,Zo4,Zo6,Zo7,Zo8,Zo9,Zpb,Zpc,Zpi,Zp9,Zqd,Zqe,Zqf,Zqg,Zqh,Zqm,Zqr,List.length_drop,eq_self,true_and,and_true,Nat.mul_one]
    · obtain rfl : i = b.length := by omega
      rw [List.drop_of_length_le (Nat.le_refl _), ubG] at hu
      subst hu
      sym =>
      simp [Zaa,Zab,Zad,Zae,Zaf,Zag,Zah,Zai,Zak,Zal,Zam,Zan,Zao,Zap,Zaq,Zar,Zav,Zaw,Zax,Zay,Zaz,Za0,Za1,Za2,Za3,Za4,Za5,Za6,Za7,Zrh,Za8,Za9,Zba,Zbb,Zbd,Zbf,Zbl,Zbt,Zb1,Zcn,Zev,Zew,Zex,Zez,Ze0,Ze2,Ze5,Zfd,Zfe,Zfh,Zfi,Zfj,Zfk,Zfl,Zfn,Zfo,Zfq,Zfr,Zfv,Zfw,Zfx,Zfz,Zf0,Zf1,Zf3,Zgh,Zgi,Zgr,Zgu,Zg4,Zg6,Zho,Zh6,Zh7,Zmt,Zmv,Zmw,Zmx,Zmz,Zm3,Zm6,Zna,Znb,Zns,Znt,Znw,Zn5,Zoa,Zof,Zog,Zrd,Zos,Zot,Zo3,Zo4,Zo6,Zo7,Zo8,Zo9,Zpb,Zpc,Zpi,Zp9,Zqd,Zqe,Zqf,Zqg,Zqh,Zqm,Zqr,List.length_drop,eq_self,true_and,and_true,Nat.mul_one,h]
      tactic =>
      refine endA ?_
      sym =>
      simp [Zaa,Zab,Zad,Zae,Zaf,Zag,Zah,Zai,Zak,Zal,Zam,Zan,Zao,Zap,Zaq,Zar,Zav,Zaw,Zax,Zay,Zaz,Za0,Za1,Za2,Za3,Za4,Za5,Za6,Za7,Zrh,Za8,Za9,Zba,Zbb,Zbd,Zbf,Zbl,Zbt,Zb1,Zcn,Zev,Zew,Zex,Zez,Ze0,Ze2,Ze5,Zfd,Zfe,Zfh,Zfi,Zfj,Zfk,Zfl,Zfn,Zfo,Zfq,Zfr,Zfv,Zfw,Zfx,Zfz,Zf0,Zf1,Zf3,Zgh,Zgi,Zgr,Zgu,Zg4,Zg6,Zho,Zh6,Zh7,Zmt,Zmv,Zmw,Zmx,Zmz,Zm3,Zm6,Zna,Znb,Zns,Znt,Znw,Zn5,Zoa,Zof,Zog,Zrd,Zos,Zot,Zo3,Zo4,Zo6,Zo7,Zo8,Zo9,Zpb,Zpc,Zpi,Zp9,Zqd,Zqe,Zqf,Zqg,Zqh,Zqm,Zqr,List.length_drop,eq_self,true_and,and_true,Nat.mul_one]
end Go.Proofs.YthhccabdlajngaaDoor.NumC
