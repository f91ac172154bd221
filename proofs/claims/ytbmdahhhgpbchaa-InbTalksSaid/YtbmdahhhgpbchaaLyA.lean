import Derived.Test.YtbmdahhhgpbchaaSnB
import Derived.Test.YtbmdahhhgpbchaaCodL
namespace Go.Proofs.Ytbmdahhhgpbchaa.LyA
open Go Go.Sim Go.Sim.E Go.RowKit Go.Proofs Go.Proofs.Ytbmdahhhgpbchaa.Cod Go.Proofs.Ytbmdahhhgpbchaa.Tab Go.Proofs.Ytbmdahhhgpbchaa.Bse Go.Proofs.Ytbmdahhhgpbchaa.SpnP Go.Proofs.Ytbmdahhhgpbchaa.SwA Go.Proofs.Ytbmdahhhgpbchaa.SwB Go.Proofs.Ytbmdahhhgpbchaa.SwC Go.Proofs.Ytbmdahhhgpbchaa.SwS Go.Proofs.Ytbmdahhhgpbchaa.SwD Go.Proofs.Ytbmdahhhgpbchaa.SwF Go.Proofs.Ytbmdahhhgpbchaa.SwG Go.Proofs.Ytbmdahhhgpbchaa.SwL Go.Proofs.Ytbmdahhhgpbchaa.ObA Go.Proofs.Ytbmdahhhgpbchaa.ObB Go.Proofs.Ytbmdahhhgpbchaa.ObC Go.Proofs.Ytbmdahhhgpbchaa.SnA Go.Proofs.Ytbmdahhhgpbchaa.SnB
set_option linter.unusedVariables false
set_option linter.unusedSimpArgs false
set_option maxRecDepth 100000
set_option maxHeartbeats 4000000
theorem zL_fc : zL2 = fc 0 z16 0 0 0 0 z32 .nl .nl 0 := rfl
/-! ### the sum of bytes, plainly -/
theorem xor_u32 (a b : Nat) (ha : a < 4294967296) (hb : b < 4294967296) : bits .xor .u32 (a : Int) (b : Int) = ((a ^^^ b : Nat) : Int) := by
  have h : a ^^^ b < 4294967296 := Nat.xor_lt_two_pow (n := 32) ha hb
  have ha' : a % 2 ^ IntKind.u32.bits = a := Nat.mod_eq_of_lt ha
  have hb' : b % 2 ^ IntKind.u32.bits = b := Nat.mod_eq_of_lt hb
  simp only [bits, BitVec.ofInt_natCast, BitVec.toNat_xor, BitVec.toNat_ofNat, ha', hb']
  rw [IntKind.wrap_u32]
  omega
theorem and_one (x : Nat) (hx : x < 4294967296) : bits .and .u32 (x : Int) 1 = ((x % 2 : Nat) : Int) := by
  have h := (bits_nat .u32 32 (by decide) (fun n h0 h1 => by rw [IntKind.wrap_u32]; omega) x 1 (by omega) (by omega)).1
  rw [Nat.and_one_is_mod] at h
  exact h
def stp (x : Nat) : Nat := if x % 2 = 1 then (x / 2) ^^^ 3988292384 else x / 2
theorem stp_lt {x : Nat} (h : x < 4294967296) : stp x < 4294967296 := by
  unfold stp
  split
  · exact Nat.xor_lt_two_pow (n := 32) (by omega) (by omega)
  · omega
def stpN : Nat → Nat → Nat
  | 0, x => x
  | k + 1, x => stp (stpN k x)
theorem stpN_lt {x : Nat} (h : x < 4294967296) : ∀ k, stpN k x < 4294967296
  | 0 => h
  | k + 1 => stp_lt (stpN_lt h k)
def crc (r c : Nat) : Nat := stpN 8 (r ^^^ c)
theorem crc_lt {r c : Nat} (hr : r < 4294967296) (hc : c < 4294967296) : crc r c < 4294967296 := stpN_lt (Nat.xor_lt_two_pow (n := 32) hr hc) 8
def crcs (r : Nat) (l : List Int) : Nat := l.foldl (fun r c => crc r (c.toNat % 256)) r
theorem crcs_lt : ∀ (l : List Int) {r : Nat}, r < 4294967296 → crcs r l < 4294967296
  | [], r, h => h
  | c :: l, r, h => crcs_lt l (crc_lt h (by omega))
theorem crcs_snoc (r : Nat) (l : List Int) (c : Int) : crcs r (l ++ [c]) = crc (crcs r l) (c.toNat % 256) := by simp [crcs]
theorem crcs_take (r : Nat) (l : List Int) (i : Nat) (h : i < l.length) : crcs r (l.take (i + 1)) = crc (crcs r (l.take i)) ((l.getD i 0).toNat % 256) := by
  rw [take_stepD l i h, crcs_snoc]
def sumN (l : List Int) : Nat := 4294967295 - crcs 4294967295 l
theorem xor_ones (x : Nat) (h : x < 4294967296) : bits .xor .u32 4294967295 (x : Int) = ((4294967295 - x : Nat) : Int) := by
  have e := xor_u32 4294967295 x (by decide) h
  rw [show ((4294967295 : Nat) : Int) = 4294967295 from rfl] at e
  rw [e]
  congr 1
  have h2 : (BitVec.allOnes 32 ^^^ BitVec.ofNat 32 x).toNat = 4294967295 ^^^ x := by
    rw [BitVec.toNat_xor, BitVec.toNat_allOnes, BitVec.toNat_ofNat, Nat.mod_eq_of_lt h]
  rw [← h2, BitVec.allOnes_xor, BitVec.toNat_not, BitVec.toNat_ofNat, Nat.mod_eq_of_lt h]
theorem mask0 : bits .and .u32 3988292384 0 = 0 := by decide
theorem mask1 : bits .and .u32 3988292384 4294967295 = 3988292384 := by decide
def i50 (y : Nat) (k : Nat) (s : St) : Prop := ∃ j : Nat, j + k = 8 ∧ s = ⟨[(0, U ((stpN j y : Nat) : Int)), (9, I (IN j))], [], 0⟩
theorem step_con (r c : Nat) (hr : r < 4294967296) (hc : c < 256) : Con Try.prog 147 [] [U (r : Int), Y (c : Int)] [] (U ((crc r c : Nat) : Int)) := by
  refine con_j b147 rfl ?_
  have hx := xor_u32 r c hr (by omega)
  have hwc : IntKind.u32.wrap (c : Int) = (c : Int) := by rw [w32u]; omega
  sym =>
  simp [Zab,Zad,Zag,Zah,Zam,Zay,Zaz,Za0,Za1,Za2,Za3,Za4,Za5,Za9,Zba,Zbb,Zbf,Zbl,Zev,Zew,Zez,Ze0,Ze2,Zfd,Zfe,Zfh,Zfn,Zfx,Zgh,Zgi,Zna,Znb,Zos,Zot,Zo7,eq_self,true_and,hwc,hx]
  tactic =>
  have hy : r ^^^ c < 4294967296 := Nat.xor_lt_two_pow (n := 32) hr (by omega)
  unfold crc
  obtain ⟨y, hyy⟩ : ∃ y, y = r ^^^ c := ⟨_, rfl⟩
  rw [← hyy] at hy ⊢
  refine lpA (i50 y) 8 [] _ ⟨0, by omega, rfl⟩ (wkA ?_) ?_
  · sym =>
    simp [Zez,Zn5,Zpc,Zqf,Zqg,Zqh,Zqm,Zqr,eq_self,and_true]
    tactic =>
    rfl
  rintro k s ⟨j, hj, rfl⟩
  have hlt := stpN_lt hy j
  have hs : stpN (j + 1) y = if stpN j y % 2 = 1 then (stpN j y / 2) ^^^ 3988292384 else stpN j y / 2 := rfl
  obtain ⟨X, hX⟩ : ∃ X, X = stpN j y := ⟨_, rfl⟩
  rw [← hX] at hlt hs ⊢
  by_cases h : j < 8
  · have hI : IN j < (8 : Int) := by simp only [IN]; omega
    have hw := w64s j (by omega)
    have e1 : min 1 IntKind.u32.bits = 1 := by decide
    have hf : (X : Int).fdiv (2 : Int) = ((X / 2 : Nat) : Int) := by rw [Int.fdiv_eq_ediv_of_nonneg _ (by decide)]; omega
    have ha := and_one X hlt
    rcases (show X % 2 = 0 ∨ X % 2 = 1 by omega) with h2 | h2
    · rw [h2] at ha
      rw [if_neg (by omega)] at hs
      have hx2 := xor_u32 (X / 2) 0 (by omega) (by decide)
      rw [Nat.xor_zero] at hx2
      have hm := mask0
      have hn : IntKind.u32.wrap 0 = 0 := by decide
      change bits .and .u32 (X : Int) 1 = 0 at ha
      change bits .xor .u32 ((X / 2 : Nat) : Int) 0 = ((X / 2 : Nat) : Int) at hx2
      sym =>
      simp [Zaa,Zab,Zad,Zae,Zaf,Zag,Zal,Zam,Zap,Zav,Zay,Zaz,Za0,Za1,Za2,Za3,Za4,Za5,Za9,Zba,Zbb,Zbf,Zbj,Zev,Zew,Zez,Ze0,Ze2,Zfd,Zfe,Zfh,Zfn,Zfp,Zfq,Zfv,Zfx,Zf1,Zgd,Zge,Zna,Znb,Zrd,Zo7,Zo8,eq_self,true_and,hI,hw,e1,hf,ha,hn,hm,hx2]
      tactic =>
      unfold NextL; refine ⟨(k - 1), [], _, by omega, ⟨j + 1, by omega, rfl⟩, wkA ?_⟩
      rw [hs]
      sym =>
      simp [Zez,Zpc,Zqf,Zqg,Zqh,Zqm,eq_self,and_true]
    · rw [h2] at ha
      rw [if_pos h2] at hs
      have hx2 := xor_u32 (X / 2) 3988292384 (by omega) (by decide)
      have hm := mask1
      have hn : IntKind.u32.wrap (-1) = 4294967295 := by decide
      change bits .and .u32 (X : Int) 1 = 1 at ha
      change bits .xor .u32 ((X / 2 : Nat) : Int) 3988292384 = _ at hx2
      sym =>
      simp [Zaa,Zab,Zad,Zae,Zaf,Zag,Zal,Zam,Zap,Zav,Zay,Zaz,Za0,Za1,Za2,Za3,Za4,Za5,Za9,Zba,Zbb,Zbf,Zbj,Zev,Zew,Zez,Ze0,Ze2,Zfd,Zfe,Zfh,Zfn,Zfp,Zfq,Zfv,Zfx,Zf1,Zgd,Zge,Zna,Znb,Zrd,Zo7,Zo8,eq_self,true_and,hI,hw,e1,hf,ha,hn,hm,hx2]
      tactic =>
      unfold NextL; refine ⟨(k - 1), [], _, by omega, ⟨j + 1, by omega, rfl⟩, wkA ?_⟩
      rw [hs]
      sym =>
      simp [Zez,Zpc,Zqf,Zqg,Zqh,Zqm,eq_self,and_true]
  · have hI : ¬ IN j < (8 : Int) := by simp only [IN]; omega
    obtain rfl : j = 8 := by omega
    rw [← hX]
    sym =>
    simp [Zab,Zad,Zae,Zaf,Zai,Zak,Zam,Zan,Zaq,Zaw,Zay,Zaz,Za0,Za1,Za2,Za3,Za4,Za5,Za9,Zba,Zbb,Zbf,Zev,Zew,Zez,Ze0,Ze2,Zfd,Zfe,Zfh,Zfn,Zf1,Zmt,Zmv,Zmw,Zmx,Zmz,Zm2,Zna,Znb,Zoa,Zo7,Zo9,eq_self,true_and,hI]
    tactic =>
    refine endA ?_
    sym =>
    simp [Zpc,eq_self]
theorem byt_nat {b : List Int} (hb : byt8 b) (i : Nat) : ∃ c : Nat, b.getD i 0 = (c : Int) ∧ c < 256 ∧ (b.getD i 0).toNat % 256 = c := by
  have h := byt8_get hb i
  exact ⟨(b.getD i 0).toNat, by omega, by omega, by omega⟩
def j49 (b : List Int) (k : Nat) (s : St) : Prop := ∃ i : Nat, i + k = b.length ∧ s = ⟨[(3, U ((crcs 4294967295 (b.take i) : Nat) : Int)), (8, .fz 1 [fB b]), (9, I (IN 1)), (10, I (IN 0)), (14, fB b), (15, I (IN b.length)), (16, I (IN i))], [], 0⟩
def i49 (b : List Int) (k : Nat) (s : St) : Prop := (k = 1 ∧ s = ⟨[(3, U 4294967295), (8, .fz 1 [fB b]), (9, I (IN 1)), (10, I (IN 0))], [], 0⟩) ∨ (k = 0 ∧ s = ⟨[(3, U ((crcs 4294967295 b : Nat) : Int)), (8, .fz 1 [fB b]), (9, I (IN 1)), (10, I (IN 1))], [], 0⟩)
theorem of_con (b : List Int) (hb : byt8 b) (hl : b.length < 4611686018427387904) : Con Try.prog 141 [] [.fz 1 [fB b]] [] (U ((sumN b : Nat) : Int)) := by
  refine con_j b141 rfl ?_
  sym =>
  simp [Zab,Zad,Zag,Zah,Zam,Zay,Zaz,Za0,Za1,Za2,Za3,Za4,Za5,Za9,Zba,Zbb,Zcn,Zev,Zew,Zez,Ze0,Ze2,Ze5,Zfd,Zfe,Zfh,Zh6,Zh7,Zna,Znb,Zn6,Zos,Zot,Zo7,eq_self,true_and]
  tactic =>
  refine lpA (i49 b) 1 [] _ (.inl ⟨rfl, rfl⟩) (wkA ?_) ?_
  · sym =>
    simp [Zez,Zn5,Zn6,Zpc,Zpi,Zqf,Zqg,Zqh,Zqm,eq_self,and_true]
  rintro k s (⟨rfl, rfl⟩ | ⟨rfl, rfl⟩)
  · sym =>
    simp [Zaa,Zab,Zad,Zae,Zaf,Zag,Zah,Zal,Zam,Zay,Zaz,Za0,Za1,Za2,Za3,Za4,Za5,Za9,Zba,Zbb,Zbf,Zbt,Zb1,Zcn,Zev,Zew,Zez,Ze0,Ze2,Ze5,Zfd,Zfe,Zfh,Zfn,Zf1,Zgr,Zgu,Zg4,Zg6,Zho,Zh6,Zh7,Zm6,Zm9,Zna,Znb,Zn5,Zn6,Zrd,Zo7,Zo8,eq_self,true_and,and_true]
    tactic =>
    refine lpA (j49 b) b.length [] _ ⟨0, by omega, rfl⟩ (wkA ?_) ?_
    · sym =>
      simp [Zez,Zn5,Zn6,Zpc,Zpi,Zqf,Zqg,Zqh,Zqm,Zqr,eq_self,and_true]
      tactic =>
      rfl
    rintro k s ⟨i, hi, rfl⟩
    by_cases h : i < b.length
    · have hw := w64s i (by omega)
      have hg := cB_get b i h
      obtain ⟨c, hc1, hc2, hc3⟩ := byt_nat hb i
      have hct := crcs_take 4294967295 b i h
      rw [hc3] at hct
      rw [hc1] at hg
      have hlt := crcs_lt (b.take i) (r := 4294967295) (by decide)
      obtain ⟨X, hX⟩ : ∃ X, X = crcs 4294967295 (b.take i) := ⟨_, rfl⟩
      rw [← hX] at hct hlt ⊢
      sym =>
      simp [Zaa,Zab,Zad,Zae,Zaf,Zag,Zal,Zam,Zay,Zaz,Za0,Za1,Za2,Za3,Za4,Za5,Za9,Zba,Zbb,Zbf,Zbt,Zb1,Zdc,Zdd,Zde,Zev,Zew,Zez,Ze0,Ze2,Ze5,Zfd,Zfe,Zfh,Zfn,Zf1,Zgr,Zgu,Zg4,Zg6,Zho,Zla,Zlb,Zle,Zlj,Zm6,Zna,Znb,Zne,Znf,Zng,Zns,Znt,Znw,Zn5,Zn6,Zo7,Zo8,eq_self,true_and,and_true,Nat.mul_one,h,hw,hg,cB_length,callable_147]
      tactic =>
      and_intros <;> try (first | omega | rfl | assumption | simp only [IN]; omega)
      refine cl none (step_con X c hlt hc2) trivial ?_
      sym =>
      simp [Zab,Zam,Zap,Zav,Zaz,Za0,Za1,Za2,Za3,Za4,Za5,Za9,Zba,Zbb,Zbf,Zdi,Zev,Zew,Zez,Ze0,Ze2,Zfd,Zfe,Zfh,Zfn,Zfq,Zjr,Zlz,Zna,Znb,Zo7,eq_self,true_and,hw]
      tactic =>
      unfold NextL; refine ⟨(k - 1), [], _, by omega, ⟨i + 1, by omega, rfl⟩, wkA ?_⟩
      rw [hct]
      sym =>
      simp [Zez,Zn5,Zn6,Zpc,Zpi,Zqf,Zqg,Zqh,Zqm,eq_self,and_true]
    · have e : b.take i = b := List.take_of_length_le (by omega)
      have hw1 : IntKind.i64.wrap 1 = 1 := by decide
      rw [e]
      sym =>
      simp [Zab,Zad,Zae,Zaf,Zai,Zam,Zan,Zap,Zaq,Zav,Zaw,Zay,Zaz,Za0,Za1,Za2,Za3,Za4,Za5,Za9,Zba,Zbb,Zbf,Zev,Zew,Zez,Ze0,Ze2,Zfd,Zfe,Zfh,Zfn,Zfq,Zf1,Zna,Znb,Znt,Zn5,Zn6,Zo7,Zo9,eq_self,true_and,h,hw1]
      tactic =>
      unfold NextL; refine ⟨0, [], _, by omega, (.inr ⟨rfl, rfl⟩), wkA ?_⟩
      sym =>
      simp [Zez,Zn6,Zpc,Zpi,Zqf,Zqg,Zqh,Zqm,eq_self,and_true]
  · have hlt := crcs_lt b (r := 4294967295) (by decide)
    have hx := xor_ones _ hlt
    have hs : sumN b = 4294967295 - crcs 4294967295 b := rfl
    have hmx : IntKind.u32.max = 4294967295 := by decide
    have hsg : IntKind.u32.signed = false := rfl
    rw [← hs] at hx
    obtain ⟨X, hX⟩ : ∃ X, X = crcs 4294967295 b := ⟨_, rfl⟩
    rw [← hX] at hx ⊢
    sym =>
    simp [Zab,Zad,Zae,Zaf,Zai,Zak,Zam,Zan,Zaq,Zaw,Zay,Zaz,Za0,Za1,Za2,Za3,Za4,Za5,Za9,Zba,Zbb,Zbf,Zbj,Zev,Zez,Ze0,Ze2,Zfd,Zfe,Zfh,Zfn,Zf1,Zgd,Zgf,Zmt,Zmv,Zmw,Zmx,Zmz,Zm2,Zna,Znb,Zn6,Zo7,Zo9,eq_self,true_and,hmx,hsg,hx]
    tactic =>
    refine endA ?_
    sym =>
    simp [Zpc,eq_self]
theorem sum_con (b : List Int) (hb : byt8 b) (hl : b.length < 4611686018427387904) : Con Try.prog 126 [] [fB b] [] (U ((sumN b : Nat) : Int)) := by
  refine con_j b126 rfl ?_
  sym =>
  simp [Zab,Zad,Zam,Zaz,Za0,Za1,Za2,Za3,Za4,Za5,Za9,Zba,Zbb,Zcz,Zdc,Zdd,Zde,Zev,Zew,Zez,Ze0,Ze2,Ze3,Ze5,Zfc,Zfd,Zfe,Zfh,Zhf,Zhg,Zhh,Ziq,Zir,Zjb,Zjl,Zjm,Zj9,Zla,Zlb,Zle,Zlt,Zlx,Zna,Znb,Zne,Znf,Zng,Znh,Znl,Znm,Znn,Zno,Znp,Zos,Zot,Zo7,eq_self,true_and,and_true,callable_141]
  tactic =>
  refine cl none (of_con b hb hl) trivial ?_
  sym =>
  simp [Zak,Zam,Zaz,Za0,Za1,Za2,Za3,Za4,Za5,Za9,Zba,Zbb,Zdi,Zev,Zez,Ze0,Ze2,Zfd,Zfe,Zfh,Zjr,Zlz,Zmt,Zmv,Zmw,Zmx,Zmz,Zm2,Zo7,eq_self,true_and]
  tactic =>
  refine endA ?_
  sym =>
  simp [Zpc,eq_self]
/-! ### two rows of bytes held against each other -/
def i12 (a b : List Int) (k : Nat) (s : St) : Prop := ∃ i : Nat, i + k = a.length ∧ a.take i = b.take i ∧ s = ⟨[(0, fB a), (1, fB b), (5, I (IN i))], [], 0⟩
/-- A number in four bytes, the lowest first. -/
def le4 (n : Nat) : List Int := [((n % 256 : Nat) : Int), ((n / 256 % 256 : Nat) : Int), ((n / 65536 % 256 : Nat) : Int), ((n / 16777216 % 256 : Nat) : Int)]
theorem le4_step (n j : Nat) (h : j < 4) : IntKind.u8.wrap (((n : Nat) : Int).fdiv (2 ^ (8 * j))) = (le4 n).getD j 0 := by
  rw [w8u, Int.fdiv_eq_ediv_of_nonneg _ (Int.le_of_lt (Int.pow_pos (by decide)))]
  match j, h with
  | 0, _ => show (n : Int) / 1 % 256 = ((n % 256 : Nat) : Int); omega
  | 1, _ => show (n : Int) / 256 % 256 = ((n / 256 % 256 : Nat) : Int); omega
  | 2, _ => show (n : Int) / 65536 % 256 = ((n / 65536 % 256 : Nat) : Int); omega
  | 3, _ => show (n : Int) / 16777216 % 256 = ((n / 16777216 % 256 : Nat) : Int); omega
def lay4 (n j : Nat) : List Int := (le4 n).take j ++ List.replicate (4 - j) 0
theorem lay4_length (n j : Nat) (h : j ≤ 4) : (lay4 n j).length = 4 := by
  have : (le4 n).length = 4 := rfl
  simp [lay4, this]; omega
theorem lay4_step (n j : Nat) (h : j < 4) : (lay4 n j).set j ((le4 n).getD j 0) = lay4 n (j + 1) := by
  match j, h with
  | 0, _ => rfl
  | 1, _ => rfl
  | 2, _ => rfl
  | 3, _ => rfl
def i45 (n : Nat) (k : Nat) (s : St) : Prop := ∃ j : Nat, j + k = 4 ∧ s = ⟨[(0, U (n : Int)), (3, .lv 0 0 4), (7, I 4), (8, I (IN j))], [(0, ⟨cB (lay4 n j), 1, 0⟩)], 1⟩
theorem lay_con (n : Nat) : Con Try.prog 125 [] [U (n : Int)] [] (fB (le4 n)) := by
  refine con_j b125 rfl ?_
  sym =>
  simp [Zab,Zad,Zag,Zah,Zam,Zaz,Za0,Za1,Za2,Za3,Za4,Za5,Za9,Zba,Zbb,Zcn,Zc1,Zev,Zew,Zez,Ze0,Ze2,Ze3,Ze5,Zfc,Zfd,Zfe,Zfh,Zgv,Zho,Zh6,Zh9,Zis,Zit,Zna,Znb,Zn9,Zrd,Zos,Zot,Zo7,eq_self,true_and,and_true]
  tactic =>
  refine lpA (i45 n) 4 [(0, 1)] _ ⟨0, by omega, rfl⟩ (wkA ?_) ?_
  · sym =>
    simp [Za2,Zez,Zfc,Znr,Zn5,Zpc,Zpo,Zqf,Zqg,Zqh,Zqi,Zqk,Zql,Zqm,Zqn,eq_self,true_and,and_true]
    tactic =>
    exact cB_rs _ _ _ _ _ rfl
  rintro k s ⟨j, hj, rfl⟩
  by_cases h : j < 4
  · have hI : IN j < (4 : Int) := by simp only [IN]; omega
    have hw := w64s j (by omega)
    have hm : IntKind.i64.wrap ((8 : Int) * IN j) = IN (8 * j) := by simp only [IN]; rw [w64 _ (by omega)]; omega
    have hge : (0 : Int) ≤ IN (8 * j) := by simp only [IN]; omega
    have hmn : min (8 * j) IntKind.u32.bits = 8 * j := by simp only [IntKind.bits]; omega
    have hs := le4_step n j h
    have hl := lay4_length n j (by omega)
    have hst := lay4_step n j h
    have hcs := cB_set (lay4 n j) j
    sym =>
    simp [Zaa,Zab,Zad,Zae,Zaf,Zag,Zal,Zam,Zap,Zav,Zay,Zaz,Za0,Za1,Za2,Za3,Za4,Za5,Za9,Zba,Zbb,Zbf,Zbl,Zb1,Zc3,Zev,Zew,Zez,Ze0,Ze1,Ze2,Ze3,Ze5,Zfc,Zfd,Zfe,Zfh,Zfn,Zfp,Zfq,Zfs,Zf1,Zgh,Zgi,Zgv,Zg4,Zg5,Zho,Ziu,Ziv,Ziw,Zi7,Zjh,Zji,Zjn,Zna,Znb,Znn,Zno,Zns,Znw,Zn9,Zo7,Zo8,eq_self,true_and,and_true,Nat.zero_add,Nat.mul_one,hI,hw,hm,hge,hmn,hs,cB_length,hl,hcs,h]
    tactic =>
    and_intros <;> try (first | omega | rfl | assumption | simp only [IN]; omega)
    unfold NextL; refine ⟨(k - 1), [(0, 0)], _, by omega, ⟨j + 1, by omega, rfl⟩, wkA ?_⟩
    sym =>
    simp [Za2,Zez,Zfc,Znr,Zpc,Zpo,Zqf,Zqg,Zqh,Zqi,Zqk,Zql,Zqm,Zqn,eq_self,true_and,and_true]
    tactic =>
    rw [hst]
    exact cB_rs _ _ _ _ _ rfl
  · have hI : ¬ IN j < (4 : Int) := by simp only [IN]; omega
    obtain rfl : j = 4 := by omega
    have e : lay4 n 4 = le4 n := rfl
    rw [e]
    sym =>
    simp [Zab,Zad,Zae,Zaf,Zai,Zak,Zam,Zan,Zaq,Zaw,Zay,Zaz,Za0,Za1,Za2,Za3,Za4,Za5,Za9,Zba,Zbb,Zbf,Zev,Zez,Ze0,Ze2,Zfd,Zfe,Zfh,Zfn,Zf1,Zmt,Zmv,Zmw,Zmx,Zmz,Zm2,Zna,Znb,Zn9,Zo7,Zo9,eq_self,true_and,hI]
    tactic =>
    refine endA ?_
    sym =>
    simp [Zfc,Znh,Zp0,Zp1,Zp2,eq_self,true_and,and_true]
    tactic =>
    exact ⟨rfl, rfl, Nat.le_refl _, cB_okI _⟩
theorem bclone_con (l : List Int) (hl : l.length ≤ 140737488355328) : Con Try.prog 68 [] [fB l] [(0, ⟨cB l, 1, 0⟩)] (.lv 0 0 l.length) := by
  refine con_o b68 rfl ?_
  sym =>
  simp [Zab,Zad,Zam,Zaz,Za0,Za1,Za2,Za3,Za4,Za5,Za9,Zba,Zbb,Zda,Zdb,Zev,Zew,Zez,Ze0,Ze2,Zfd,Zfe,Zfh,Zna,Znb,Zos,Zot,Zo7,eq_self,true_and]
  tactic =>
  refine nilQ (fun h => ?_) ?_
  · sym =>
    simp [Zab,Zad,Zae,Zaf,Zak,Zal,Zam,Zao,Zay,Zaz,Za0,Za1,Za2,Za3,Za4,Za5,Za9,Zba,Zbb,Zev,Zew,Zez,Ze0,Ze2,Zfd,Zfe,Zfh,Zmt,Zmv,Zmw,Zmx,Zmz,Zm2,Zna,Znb,Zo7,eq_self,true_and]
    tactic =>
    obtain rfl := List.length_eq_zero_iff.1 h
    refine endO [] (nx := 1) ?_
    sym =>
    simp [Zfb,Zfc,Zna,Znr,Zpr,Zqh,Zqi,Zqj,Zqm,eq_self,true_and,and_true]
    tactic =>
    rfl
  · sym =>
    simp [Zaa,Zab,Zad,Zae,Zaf,Zak,Zal,Zam,Zaz,Za0,Za1,Za2,Za3,Za4,Za5,Za9,Zba,Zbb,Zcz,Zc5,Zev,Zez,Ze0,Ze2,Ze3,Ze4,Ze5,Zfc,Zfd,Zfe,Zff,Zfg,Zfh,Zhf,Ziq,Zir,Zix,Ziz,Zi0,Zi1,Zmt,Zmv,Zmw,Zmx,Zmz,Zm2,Zna,Znb,Znc,Zo3,Zo7,eq_self,true_and,and_true,Nat.zero_add,Nat.mul_one,cB_length]
    tactic =>
    refine ⟨⟨cB_okF l, hl, by omega⟩, ?_⟩
    refine endO [(0, 5)] (nx := 6) ?_
    sym =>
    simp [Za2,Zfc,Znr,Zpo,Zqh,Zqi,Zqk,Zql,Zqm,Zqn,eq_self,true_and,and_true]
    tactic =>
    exact rs_self (cB_okI l)
def slB (b : List Int) : List Int := b ++ le4 (sumN b)
theorem slB_length (b : List Int) : (slB b).length = b.length + 4 := by rw [slB, List.length_append]; rfl
theorem seal_con (b : List Int) (hb : byt8 b) (hl : b.length ≤ 1000000) : Con Try.prog 93 [] [fB b] [] (fB (slB b)) := by
  refine con_j b93 rfl ?_
  sym =>
  simp [Zab,Zad,Zam,Zaz,Za0,Za1,Za2,Za3,Za4,Za5,Za9,Zba,Zbb,Zdc,Zdd,Zde,Zev,Zew,Zez,Ze0,Ze2,Zfd,Zfe,Zfh,Zla,Zlb,Zle,Zll,Zna,Znb,Zne,Znf,Zng,Zos,Zot,Zo7,eq_self,true_and,and_true,callable_68]
  tactic =>
  refine cl (some ⟨cB b, 1, 0⟩) (bclone_con b (by omega)) ⟨rfl, cB_okI _⟩ ?_
  sym =>
  simp [Za5,Za9,Zba,Zbb,Zdc,Zdd,Zde,Zdi,Zev,Zew,Zez,Ze0,Ze2,Zfd,Zfe,Zfh,Zla,Zlb,Zle,Zll,Zl0,Zl1,Zl2,Zmk,Zne,Znf,Zng,eq_self,true_and,and_true,callable_126]
  tactic =>
  refine cl none (sum_con b hb (by omega)) trivial ?_
  sym =>
  simp [Za5,Za9,Zdc,Zdd,Zde,Zdi,Zev,Zew,Zez,Ze0,Zfd,Zfe,Zjr,Zla,Zlb,Zle,Zlj,Zlz,Zne,Znf,Zng,eq_self,true_and,and_true,callable_125]
  tactic =>
  refine cl none (lay_con (sumN b)) trivial ?_
  have h4 : (le4 (sumN b)).length = 4 := rfl
  have hc4 : (cB (le4 (sumN b))).length = 4 := rfl
  have hF := okF_cells (cB_okF (le4 (sumN b)))
  sym =>
  simp [Zak,Zam,Zaz,Za0,Za1,Za2,Za3,Za4,Za5,Za9,Zba,Zbb,Zc5,Zdi,Zev,Zez,Ze0,Ze2,Ze3,Ze4,Ze5,Zfc,Zfd,Zfe,Zff,Zfg,Zfh,Zix,Ziz,Zi0,Zi1,Zkb,Zlz,Zl2,Zmt,Zmv,Zmw,Zmx,Zmz,Zm2,Zo7,eq_self,true_and,Nat.mul_one,h4,hc4,cB_length]
  tactic =>
  and_intros <;> try (first | omega | rfl | assumption | simp only [IN]; omega)
  · exact cB_okF _
  refine endA ?_
  sym =>
  simp [Zfc,Znh,Zod,Zp0,Zp1,Zp2,List.length_append,eq_self,true_and,and_true,Nat.zero_add,Nat.mul_one,cB_length]
  tactic =>
  refine ⟨slB_length b, ?_⟩
  have hc : cB b ++ cB (le4 (sumN b)) = cB (slB b) := (cB_append _ _).symm
  rw [List.take_of_length_le (by rw [hc, cB_length, slB_length]; exact Nat.le_refl _)]
  exact ⟨hc.symm, Nat.le_refl _, cB_okI _, cB_okI _⟩
end Go.Proofs.Ytbmdahhhgpbchaa.LyA
