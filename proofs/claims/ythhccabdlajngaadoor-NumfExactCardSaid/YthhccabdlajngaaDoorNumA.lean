import Derived.Test.YthhccabdlajngaaDoorCodA
import Derived.Test.YthhccabdlajngaaDoorTab
import Derived.Test.YthhccabdlajngaaDoorBse
namespace Go.Proofs.YthhccabdlajngaaDoor.NumA
open Go Go.Sim Go.Sim.E Go.RowKit Go.Proofs Go.Proofs.YthhccabdlajngaaDoor.Cod Go.Proofs.YthhccabdlajngaaDoor.Tab Go.Proofs.YthhccabdlajngaaDoor.Bse
set_option linter.unusedVariables false
set_option linter.unusedSimpArgs false
set_option maxRecDepth 100000
set_option maxHeartbeats 4000000
/-! ### numbers of headers, plainly -/
theorem getD_snocL (a : List Int) (x : Int) (i : Nat) (h : i < a.length) : (a ++ [x]).getD i 0 = a.getD i 0 := by
  rw [List.getD_eq_getElem?_getD, List.getElem?_append_left h, List.getD_eq_getElem?_getD]
theorem getD_snocR (a : List Int) (x : Int) : (a ++ [x]).getD a.length 0 = x := by
  rw [List.getD_eq_getElem?_getD, List.getElem?_append_right (Nat.le_refl _), Nat.sub_self]; rfl
/-- A number in so many bytes, the highest first. -/
def beN : Nat → Int → List Int
  | 0, _ => []
  | w + 1, n => beN w (n / 256) ++ [n % 256]
theorem beN_length : ∀ (w : Nat) (n : Int), (beN w n).length = w
  | 0, _ => rfl
  | w + 1, n => by simp [beN, beN_length w]
theorem beN_get : ∀ (w : Nat) (n : Int) (j : Nat), j < w → (beN w n).getD j 0 = n / 256 ^ (w - 1 - j) % 256
  | 0, _, _, h => absurd h (Nat.not_lt_zero _)
  | w + 1, n, j, h => by
    have hl := beN_length w (n / 256)
    by_cases e : j = w
    · subst e
      have : j + 1 - 1 - j = 0 := by omega
      rw [this, beN]
      have := getD_snocR (beN j (n / 256)) (n % 256)
      rw [hl] at this
      rw [this]; simp
    · have hj : j < w := by omega
      rw [beN, getD_snocL _ _ _ (by omega), beN_get w (n / 256) j hj]
      have : w + 1 - 1 - j = (w - 1 - j) + 1 := by omega
      rw [this, Int.pow_succ, Int.mul_comm, ← Int.ediv_ediv_of_nonneg (by decide)]
theorem beN_byt : ∀ (w : Nat) (n : Int), byt8 (beN w n)
  | 0, _ => fun x hx => by cases hx
  | w + 1, n => byt8_app (beN_byt w _) (fun x hx => by simp at hx; omega)
/-- So many octal digits, the highest first. -/
def octN : Nat → Int → List Int
  | 0, _ => []
  | w + 1, n => octN w (n / 8) ++ [48 + n % 8]
theorem octN_length : ∀ (w : Nat) (n : Int), (octN w n).length = w
  | 0, _ => rfl
  | w + 1, n => by simp [octN, octN_length w]
theorem octN_get : ∀ (w : Nat) (n : Int) (j : Nat), j < w → (octN w n).getD j 0 = 48 + n / 8 ^ (w - 1 - j) % 8
  | 0, _, _, h => absurd h (Nat.not_lt_zero _)
  | w + 1, n, j, h => by
    have hl := octN_length w (n / 8)
    by_cases e : j = w
    · subst e
      have : j + 1 - 1 - j = 0 := by omega
      rw [this, octN]
      have := getD_snocR (octN j (n / 8)) (48 + n % 8)
      rw [hl] at this
      rw [this]; simp
    · have hj : j < w := by omega
      rw [octN, getD_snocL _ _ _ (by omega), octN_get w (n / 8) j hj]
      have : w + 1 - 1 - j = (w - 1 - j) + 1 := by omega
      rw [this, Int.pow_succ, Int.mul_comm, ← Int.ediv_ediv_of_nonneg (by decide)]
def octd (x : Int) : Bool := decide (48 ≤ x) && decide (x ≤ 55)
theorem octN_dig : ∀ (w : Nat) (n : Int), ∀ x ∈ octN w n, 48 ≤ x ∧ x ≤ 55
  | 0, _ => fun x hx => by cases hx
  | w + 1, n => by
    intro x hx
    rw [octN, List.mem_append] at hx
    rcases hx with hx | hx
    · exact octN_dig w _ x hx
    · simp at hx; omega
theorem octN_byt (w : Nat) (n : Int) : byt8 (octN w n) := fun x hx => by have := octN_dig w n x hx; omega
/-- The greatest number of so many octal digits. -/
def mostN (d : Nat) : Int := 8 ^ (min d 20) - 1
def mostI (d : Int) : Int := mostN d.toNat
theorem mostN_bd (d : Nat) : 0 ≤ mostN d ∧ mostN d < 1152921504606846976 := by
  unfold mostN
  have h : min d 20 ≤ 20 := Nat.min_le_right _ _
  obtain ⟨e, he⟩ : ∃ e, e = min d 20 := ⟨_, rfl⟩
  rw [← he] at h ⊢
  have : e = 0 ∨ e = 1 ∨ e = 2 ∨ e = 3 ∨ e = 4 ∨ e = 5 ∨ e = 6 ∨ e = 7 ∨ e = 8 ∨ e = 9 ∨ e = 10 ∨ e = 11 ∨ e = 12 ∨ e = 13 ∨ e = 14 ∨ e = 15 ∨ e = 16 ∨ e = 17 ∨ e = 18 ∨ e = 19 ∨ e = 20 := by omega
  rcases this with rfl | rfl | rfl | rfl | rfl | rfl | rfl | rfl | rfl | rfl | rfl | rfl | rfl | rfl | rfl | rfl | rfl | rfl | rfl | rfl | rfl <;> decide
theorem mostN_succ (i : Nat) (h : i < 20) : mostN (i + 1) = 8 * mostN i + 7 := by
  have h1 : min (i + 1) 20 = i + 1 := Nat.min_eq_left (by omega)
  have h2 : min i 20 = i := Nat.min_eq_left (by omega)
  unfold mostN
  rw [h1, h2, Int.pow_succ]
  omega
def isW (w : Int) : Bool := if w = 8 then true else decide (w = 12)
def plainF (n w : Int) : Bool := if isW w = true then (if 0 ≤ n then decide (n ≤ mostI (w - 1)) else false) else false
def sgn (n : Int) : Int := if n < 0 then -1 else 0
def baseF (n w : Int) : List Int × Int := if w = 8 then (if n / 72057594037927936 = sgn n then ((if n < 0 then 255 else 128) :: beN 7 n, 0) else ([], 10)) else ((if n < 0 then 255 else 128) :: beN 11 n, 0)
def putF (n w : Int) : List Int × Int := if isW w = true then (if plainF n w = true then (octN (w - 1).toNat n ++ [0], 0) else baseF n w) else ([], 1)
def digF (b : List Int) : List Int := b.takeWhile octd
def blank (x : Int) : Bool := if x = 32 then true else decide (x = 0)
def numF (d : List Int) : Int := d.foldl (fun n c => 8 * n + (c - 48)) 0
/-- Bytes behind others, of a number of base 256. -/
def ubG (fill n : Int) : List Int → Int × Int
  | [] => (n, 0)
  | x :: r => if 8 < r.length + 1 then (if x = fill then ubG fill (256 * n + x) r else (0, 10))
    else if r.length + 1 = 8 then (if (x < 128 ↔ fill < 128) then ubG fill (256 * n + x) r else (0, 10)) else ubG fill (256 * n + x) r
def ubF (first : Int) (b : List Int) : Int × Int := if first = 255 then ubG 255 (-1) b else ubG 0 0 b
def getF (b : List Int) : Int × Int :=
  if isW b.length = true then
    (if b.getD 0 0 = 128 then ubF 128 (b.drop 1) else if b.getD 0 0 = 255 then ubF 255 (b.drop 1)
    else if (digF (b.dropWhile (· == 32))).length = 0 then (0, 3)
    else if ((b.dropWhile (· == 32)).drop (digF (b.dropWhile (· == 32))).length).all blank = true then (numF (digF (b.dropWhile (· == 32))), 0) else (0, 3))
  else (0, 1)
def exF (b : List Int) : Bool := if (getF b).2 = 0 then (if (putF (getF b).1 b.length).2 = 0 then decide ((putF (getF b).1 b.length).1 = b) else false) else false
theorem isW_con (w : Int) : Con Tryd.prog 20 [] [I w] [] (Bo (isW w)) := by
  by_cases h : w = 8
  · have e : isW w = true := by unfold isW; rw [if_pos h]
    rw [e]
    refine con_j b20 rfl ?_
    sym =>
    simp [Zab,Zad,Zak,Zam,Zaz,Za0,Za1,Za2,Za3,Za4,Za5,Za6,Za7,Za8,Za9,Zba,Zbb,Zbd,Zbf,Zev,Zew,Zex,Zez,Ze0,Ze2,Zfd,Zfe,Zfh,Zfi,Zfj,Zfl,Zfn,Zfz,Zmt,Zmv,Zmw,Zmx,Zmz,Zm2,Zna,Znb,Zos,Zot,Zo6,Zo7,Zo8,Zo9,Zpc,eq_self,true_and,h]
    tactic =>
    refine endA ?_
    sym =>
    simp [Zab,Zad,Zak,Zam,Zaz,Za0,Za1,Za2,Za3,Za4,Za5,Za6,Za7,Za8,Za9,Zba,Zbb,Zbd,Zbf,Zev,Zew,Zex,Zez,Ze0,Ze2,Zfd,Zfe,Zfh,Zfi,Zfj,Zfl,Zfn,Zfz,Zmt,Zmv,Zmw,Zmx,Zmz,Zm2,Zna,Znb,Zos,Zot,Zo6,Zo7,Zo8,Zo9,Zpc,eq_self,true_and]
  by_cases h2 : w = 12
  · have e : isW w = true := by unfold isW; rw [if_neg h]; exact decide_eq_true h2
    rw [e]
    refine con_j b20 rfl ?_
    sym =>
    simp [Zab,Zad,Zak,Zam,Zaz,Za0,Za1,Za2,Za3,Za4,Za5,Za6,Za7,Za8,Za9,Zba,Zbb,Zbd,Zbf,Zev,Zew,Zex,Zez,Ze0,Ze2,Zfd,Zfe,Zfh,Zfi,Zfj,Zfl,Zfn,Zfz,Zmt,Zmv,Zmw,Zmx,Zmz,Zm2,Zna,Znb,Zos,Zot,Zo6,Zo7,Zo8,Zo9,Zpc,eq_self,true_and,h,h2]
    tactic =>
    refine endA ?_
    sym =>
    simp [Zab,Zad,Zak,Zam,Zaz,Za0,Za1,Za2,Za3,Za4,Za5,Za6,Za7,Za8,Za9,Zba,Zbb,Zbd,Zbf,Zev,Zew,Zex,Zez,Ze0,Ze2,Zfd,Zfe,Zfh,Zfi,Zfj,Zfl,Zfn,Zfz,Zmt,Zmv,Zmw,Zmx,Zmz,Zm2,Zna,Znb,Zos,Zot,Zo6,Zo7,Zo8,Zo9,Zpc,eq_self,true_and]
  · have e : isW w = false := by unfold isW; rw [if_neg h]; exact decide_eq_false h2
    rw [e]
    refine con_j b20 rfl ?_
    sym =>
    simp [Zab,Zad,Zak,Zam,Zaz,Za0,Za1,Za2,Za3,Za4,Za5,Za6,Za7,Za8,Za9,Zba,Zbb,Zbd,Zbf,Zev,Zew,Zex,Zez,Ze0,Ze2,Zfd,Zfe,Zfh,Zfi,Zfj,Zfl,Zfn,Zfz,Zmt,Zmv,Zmw,Zmx,Zmz,Zm2,Zna,Znb,Zos,Zot,Zo6,Zo7,Zo8,Zo9,Zpc,eq_self,true_and,h,h2]
    tactic =>
    refine endA ?_
    sym =>
    simp [Zab,Zad,Zak,Zam,Zaz,Za0,Za1,Za2,Za3,Za4,Za5,Za6,Za7,Za8,Za9,Zba,Zbb,Zbd,Zbf,Zev,Zew,Zex,Zez,Ze0,Ze2,Zfd,Zfe,Zfh,Zfi,Zfj,Zfl,Zfn,Zfz,Zmt,Zmv,Zmw,Zmx,Zmz,Zm2,Zna,Znb,Zos,Zot,Zo6,Zo7,Zo8,Zo9,Zpc,eq_self,true_and]
theorem rW_con (w : Int) : Con Tryd.prog 22 [] [I w] [] (Bo (isW w)) := by
  by_cases h : w = 8
  · have e : isW w = true := by unfold isW; rw [if_pos h]
    rw [e]
    refine con_j b22 rfl ?_
    sym =>
    simp [Zab,Zad,Zak,Zam,Zaz,Za0,Za1,Za2,Za3,Za4,Za5,Za6,Za7,Za8,Za9,Zba,Zbb,Zbd,Zbf,Zev,Zew,Zex,Zez,Ze0,Ze2,Zfd,Zfe,Zfh,Zfi,Zfj,Zfl,Zfn,Zfz,Zmt,Zmv,Zmw,Zmx,Zmz,Zm2,Zna,Znb,Zos,Zot,Zo6,Zo7,Zo8,Zo9,Zpc,eq_self,true_and,h]
    tactic =>
    refine endA ?_
    sym =>
    simp [Zab,Zad,Zak,Zam,Zaz,Za0,Za1,Za2,Za3,Za4,Za5,Za6,Za7,Za8,Za9,Zba,Zbb,Zbd,Zbf,Zev,Zew,Zex,Zez,Ze0,Ze2,Zfd,Zfe,Zfh,Zfi,Zfj,Zfl,Zfn,Zfz,Zmt,Zmv,Zmw,Zmx,Zmz,Zm2,Zna,Znb,Zos,Zot,Zo6,Zo7,Zo8,Zo9,Zpc,eq_self,true_and]
  by_cases h2 : w = 12
  · have e : isW w = true := by unfold isW; rw [if_neg h]; exact decide_eq_true h2
    rw [e]
    refine con_j b22 rfl ?_
    sym =>
    simp [Zab,Zad,Zak,Zam,Zaz,Za0,Za1,Za2,Za3,Za4,Za5,Za6,Za7,Za8,Za9,Zba,Zbb,Zbd,Zbf,Zev,Zew,Zex,Zez,Ze0,Ze2,Zfd,Zfe,Zfh,Zfi,Zfj,Zfl,Zfn,Zfz,Zmt,Zmv,Zmw,Zmx,Zmz,Zm2,Zna,Znb,Zos,Zot,Zo6,Zo7,Zo8,Zo9,Zpc,eq_self,true_and,h,h2]
    tactic =>
    refine endA ?_
    sym =>
    simp [Zab,Zad,Zak,Zam,Zaz,Za0,Za1,Za2,Za3,Za4,Za5,Za6,Za7,Za8,Za9,Zba,Zbb,Zbd,Zbf,Zev,Zew,Zex,Zez,Ze0,Ze2,Zfd,Zfe,Zfh,Zfi,Zfj,Zfl,Zfn,Zfz,Zmt,Zmv,Zmw,Zmx,Zmz,Zm2,Zna,Znb,Zos,Zot,Zo6,Zo7,Zo8,Zo9,Zpc,eq_self,true_and]
  · have e : isW w = false := by unfold isW; rw [if_neg h]; exact decide_eq_false h2
    rw [e]
    refine con_j b22 rfl ?_
    sym =>
    simp [Zab,Zad,Zak,Zam,Zaz,Za0,Za1,Za2,Za3,Za4,Za5,Za6,Za7,Za8,Za9,Zba,Zbb,Zbd,Zbf,Zev,Zew,Zex,Zez,Ze0,Ze2,Zfd,Zfe,Zfh,Zfi,Zfj,Zfl,Zfn,Zfz,Zmt,Zmv,Zmw,Zmx,Zmz,Zm2,Zna,Znb,Zos,Zot,Zo6,Zo7,Zo8,Zo9,Zpc,eq_self,true_and,h,h2]
    tactic =>
    refine endA ?_
    sym =>
    simp [Zab,Zad,Zak,Zam,Zaz,Za0,Za1,Za2,Za3,Za4,Za5,Za6,Za7,Za8,Za9,Zba,Zbb,Zbd,Zbf,Zev,Zew,Zex,Zez,Ze0,Ze2,Zfd,Zfe,Zfh,Zfi,Zfj,Zfl,Zfn,Zfz,Zmt,Zmv,Zmw,Zmx,Zmz,Zm2,Zna,Znb,Zos,Zot,Zo6,Zo7,Zo8,Zo9,Zpc,eq_self,true_and]
theorem most_con (d : Int) : Con Tryd.prog 14 [] [I d] [] (I (mostI d)) := by
  have hb := mostN_bd d.toNat
  have hm : min (max d 0) 20 = ((min d.toNat 20 : Nat) : Int) := by omega
  obtain ⟨e, he⟩ : ∃ e, e = min d.toNat 20 := ⟨_, rfl⟩
  have hM : mostI d = 8 ^ e - 1 := by unfold mostI mostN; rw [← he]
  have hle : e ≤ 20 := by omega
  rw [← he] at hm
  have hp : (2 : Int) ^ (3 * e) = 8 ^ e := by rw [Int.pow_mul]; rfl
  rw [show mostN d.toNat = mostI d from rfl, hM] at hb
  obtain ⟨X, hX⟩ : ∃ X : Int, X = 8 ^ e := ⟨_, rfl⟩
  rw [← hX] at hM hp hb
  have w1 : IntKind.i64.wrap (3 * min (max d 0) 20) = 3 * (e : Int) := by rw [hm]; exact w64 _ (by omega)
  have hn : min (3 * (e : Int)).toNat IntKind.i64.bits = 3 * e := by simp only [IntKind.bits]; omega
  refine con_j b14 rfl ?_
  sym =>
  simp [Zab,Zad,Zak,Zam,Zaz,Za0,Za1,Za2,Za3,Za4,Za5,Za9,Zba,Zbb,Zbf,Zcr,Zct,Zev,Zew,Zez,Ze0,Ze2,Zfd,Zfe,Zfh,Zfn,Zfo,Zfr,Zfs,Zie,Zif,Zig,Zih,Zii,Zij,Zik,Zil,Zim,Zmt,Zmv,Zmw,Zmx,Zmz,Zm2,Zna,Znb,Znf,Zng,Zos,Zot,Zo7,Zpc,eq_self,true_and]
  tactic =>
  rw [w1, hn, hp, Int.one_mul, w64 X (by omega), w64 (X - 1) (by omega), hM]
  refine ⟨by omega, endA ?_⟩
  sym =>
  simp [Zab,Zad,Zak,Zam,Zaz,Za0,Za1,Za2,Za3,Za4,Za5,Za9,Zba,Zbb,Zbf,Zcr,Zct,Zev,Zew,Zez,Ze0,Ze2,Zfd,Zfe,Zfh,Zfn,Zfo,Zfr,Zfs,Zie,Zif,Zig,Zih,Zii,Zij,Zik,Zil,Zim,Zmt,Zmv,Zmw,Zmx,Zmz,Zm2,Zna,Znb,Znf,Zng,Zos,Zot,Zo7,Zpc,eq_self,true_and]
def i15 (d : Int) (k : Nat) (s : St) : Prop := ∃ i : Nat, i + k = min d.toNat 20 ∧ s = ⟨[(0, I d), (3, I (mostN i)), (4, I (IN i))], [], 0⟩
theorem rmost_con (d : Int) (hd : d ≤ 9223372036854775807) : Con Tryd.prog 15 [] [I d] [] (I (mostI d)) := by
  refine con_j b15 rfl ?_
  sym =>
  simp [Zaa,Zab,Zad,Zae,Zaf,Zag,Zah,Zai,Zak,Zal,Zam,Zan,Zap,Zaq,Zav,Zaw,Zay,Zaz,Za0,Za1,Za2,Za3,Za4,Za5,Za6,Za7,Za8,Za9,Zba,Zbb,Zbd,Zbf,Zev,Zew,Zex,Zez,Ze0,Ze2,Zfd,Zfe,Zfh,Zfi,Zfk,Zfl,Zfn,Zfq,Zfs,Zf1,Zmt,Zmv,Zmw,Zmx,Zmz,Zm2,Zna,Znb,Zn5,Zos,Zot,Zo7,Zo8,Zo9,Zpc,Zqf,Zqg,Zqh,Zqm,Zqr,eq_self,true_and,and_true]
  tactic =>
  refine lpA (i15 d) (min d.toNat 20) [] _ ⟨0, by omega, rfl⟩ (wkA ?_) ?_
  · sym =>
    simp [Zaa,Zab,Zad,Zae,Zaf,Zag,Zah,Zai,Zak,Zal,Zam,Zan,Zap,Zaq,Zav,Zaw,Zay,Zaz,Za0,Za1,Za2,Za3,Za4,Za5,Za6,Za7,Za8,Za9,Zba,Zbb,Zbd,Zbf,Zev,Zew,Zex,Zez,Ze0,Ze2,Zfd,Zfe,Zfh,Zfi,Zfk,Zfl,Zfn,Zfq,Zfs,Zf1,Zmt,Zmv,Zmw,Zmx,Zmz,Zm2,Zna,Znb,Zn5,Zos,Zot,Zo7,Zo8,Zo9,Zpc,Zqf,Zqg,Zqh,Zqm,Zqr,eq_self,true_and,and_true]
    tactic =>
    rfl
  rintro k s ⟨i, hi, rfl⟩
  by_cases h : i < min d.toNat 20
  · have h1 : IN i < d := by simp only [IN]; omega
    have h2 : IN i < (20 : Int) := by simp only [IN]; omega
    have hw := w64s i (by omega)
    have hb := mostN_bd i
    have hs := mostN_succ i (by omega)
    obtain ⟨x, hx⟩ : ∃ x, x = mostN i := ⟨_, rfl⟩
    rw [← hx] at hb hs ⊢
    have w1 : IntKind.i64.wrap (8 * x) = 8 * x := w64 _ (by omega)
    have w2 : IntKind.i64.wrap (8 * x + 7) = 8 * x + 7 := w64 _ (by omega)
    sym =>
    simp [Zaa,Zab,Zad,Zae,Zaf,Zag,Zah,Zai,Zak,Zal,Zam,Zan,Zap,Zaq,Zav,Zaw,Zay,Zaz,Za0,Za1,Za2,Za3,Za4,Za5,Za6,Za7,Za8,Za9,Zba,Zbb,Zbd,Zbf,Zev,Zew,Zex,Zez,Ze0,Ze2,Zfd,Zfe,Zfh,Zfi,Zfk,Zfl,Zfn,Zfq,Zfs,Zf1,Zmt,Zmv,Zmw,Zmx,Zmz,Zm2,Zna,Znb,Zn5,Zos,Zot,Zo7,Zo8,Zo9,Zpc,Zqf,Zqg,Zqh,Zqm,Zqr,eq_self,true_and,and_true,h1,h2,hw,w1,w2]
    tactic =>
    unfold NextL; refine ⟨(k - 1), [], _, by omega, ⟨i + 1, by omega, rfl⟩, wkA ?_⟩
    rw [hs]
    sym =>
    simp [Zaa,Zab,Zad,Zae,Zaf,Zag,Zah,Zai,Zak,Zal,Zam,Zan,Zap,Zaq,Zav,Zaw,Zay,Zaz,Za0,Za1,Za2,Za3,Za4,Za5,Za6,Za7,Za8,Za9,Zba,Zbb,Zbd,Zbf,Zev,Zew,Zex,Zez,Ze0,Ze2,Zfd,Zfe,Zfh,Zfi,Zfk,Zfl,Zfn,Zfq,Zfs,Zf1,Zmt,Zmv,Zmw,Zmx,Zmz,Zm2,Zna,Znb,Zn5,Zos,Zot,Zo7,Zo8,Zo9,Zpc,Zqf,Zqg,Zqh,Zqm,Zqr,eq_self,true_and,and_true]
  · have e : mostN i = mostI d := by
      unfold mostI mostN
      congr 2
      omega
    by_cases h1 : IN i < d
    · have h2 : ¬ IN i < (20 : Int) := by simp only [IN] at h1 ⊢; omega
      sym =>
      simp [Zaa,Zab,Zad,Zae,Zaf,Zag,Zah,Zai,Zak,Zal,Zam,Zan,Zap,Zaq,Zav,Zaw,Zay,Zaz,Za0,Za1,Za2,Za3,Za4,Za5,Za6,Za7,Za8,Za9,Zba,Zbb,Zbd,Zbf,Zev,Zew,Zex,Zez,Ze0,Ze2,Zfd,Zfe,Zfh,Zfi,Zfk,Zfl,Zfn,Zfq,Zfs,Zf1,Zmt,Zmv,Zmw,Zmx,Zmz,Zm2,Zna,Znb,Zn5,Zos,Zot,Zo7,Zo8,Zo9,Zpc,Zqf,Zqg,Zqh,Zqm,Zqr,eq_self,true_and,and_true,h1,h2]
      tactic =>
      refine endA ?_
      rw [e]
      sym =>
      simp [Zaa,Zab,Zad,Zae,Zaf,Zag,Zah,Zai,Zak,Zal,Zam,Zan,Zap,Zaq,Zav,Zaw,Zay,Zaz,Za0,Za1,Za2,Za3,Za4,Za5,Za6,Za7,Za8,Za9,Zba,Zbb,Zbd,Zbf,Zev,Zew,Zex,Zez,Ze0,Ze2,Zfd,Zfe,Zfh,Zfi,Zfk,Zfl,Zfn,Zfq,Zfs,Zf1,Zmt,Zmv,Zmw,Zmx,Zmz,Zm2,Zna,Znb,Zn5,Zos,Zot,Zo7,Zo8,Zo9,Zpc,Zqf,Zqg,Zqh,Zqm,Zqr,eq_self,true_and,and_true]
    · sym =>
      simp [Zaa,Zab,Zad,Zae,Zaf,Zag,Zah,Zai,Zak,Zal,Zam,Zan,Zap,Zaq,Zav,Zaw,Zay,Zaz,Za0,Za1,Za2,Za3,Za4,Za5,Za6,Za7,Za8,Za9,Zba,Zbb,Zbd,Zbf,Zev,Zew,Zex,Zez,Ze0,Ze2,Zfd,Zfe,Zfh,Zfi,Zfk,Zfl,Zfn,Zfq,Zfs,Zf1,Zmt,Zmv,Zmw,Zmx,Zmz,Zm2,Zna,Znb,Zn5,Zos,Zot,Zo7,Zo8,Zo9,Zpc,Zqf,Zqg,Zqh,Zqm,Zqr,eq_self,true_and,and_true,h1]
      tactic =>
      refine endA ?_
      rw [e]
      sym =>
      simp [Zaa,Zab,Zad,Zae,Zaf,Zag,Zah,Zai,Zak,Zal,Zam,Zan,Zap,Zaq,Zav,Zaw,Zay,Zaz,Za0,Za1,Za2,Za3,Za4,Za5,Za6,Za7,Za8,Za9,Zba,Zbb,Zbd,Zbf,Zev,Zew,Zex,Zez,Ze0,Ze2,Zfd,Zfe,Zfh,Zfi,Zfk,Zfl,Zfn,Zfq,Zfs,Zf1,Zmt,Zmv,Zmw,Zmx,Zmz,Zm2,Zna,Znb,Zn5,Zos,Zot,Zo7,Zo8,Zo9,Zpc,Zqf,Zqg,Zqh,Zqm,Zqr,eq_self,true_and,and_true]
theorem plain_con (n w : Int) (hn : -9223372036854775808 ≤ n ∧ n ≤ 9223372036854775807) (hw : -9223372036854775808 ≤ w ∧ w ≤ 9223372036854775807) : Con Tryd.prog 12 [] [I n, I w] [] (Bo (plainF n w)) := by
  have hi := isW_con w
  unfold plainF
  by_cases h : isW w = true
  · rw [if_pos h]
    have hmo := most_con (w - 1)
    have hww : IntKind.i64.wrap (w - 1) = w - 1 := by
      refine w64 _ ?_
      unfold isW at h
      by_cases h8 : w = 8
      · omega
      · rw [if_neg h8] at h; have := of_decide_eq_true h; omega
    rw [h] at hi
    by_cases h0 : 0 ≤ n
    · rw [if_pos h0]
      have h0' : n ≥ 0 := h0
      refine con_j b12 rfl ?_
      sym =>
      simp [Zab,Zad,Zak,Zam,Zaz,Za0,Za1,Za2,Za3,Za4,Za5,Za6,Za7,Za8,Za9,Zba,Zbb,Zbd,Zbf,Zdc,Zdd,Zde,Zdi,Zev,Zew,Zex,Zez,Ze0,Ze2,Zfd,Zfe,Zfh,Zfi,Zfk,Zfl,Zfn,Zfr,Zf2,Zf4,Zjr,Zjw,Zla,Zlb,Zle,Zlj,Zlz,Zmt,Zmv,Zmw,Zmx,Zmz,Zm2,Zna,Znb,Zne,Znf,Zng,Zos,Zot,Zo7,Zo8,Zo9,Zpc,eq_self,true_and,and_true,callable_20]
      tactic =>
      refine cl none (hi) trivial ?_
      sym =>
      simp [Zab,Zad,Zak,Zam,Zaz,Za0,Za1,Za2,Za3,Za4,Za5,Za6,Za7,Za8,Za9,Zba,Zbb,Zbd,Zbf,Zdc,Zdd,Zde,Zdi,Zev,Zew,Zex,Zez,Ze0,Ze2,Zfd,Zfe,Zfh,Zfi,Zfk,Zfl,Zfn,Zfr,Zf2,Zf4,Zjr,Zjw,Zla,Zlb,Zle,Zlj,Zlz,Zmt,Zmv,Zmw,Zmx,Zmz,Zm2,Zna,Znb,Zne,Znf,Zng,Zos,Zot,Zo7,Zo8,Zo9,Zpc,eq_self,true_and,and_true,h0',hww,callable_14]
      tactic =>
      refine cl none (hmo) trivial ?_
      sym =>
      simp [Zab,Zad,Zak,Zam,Zaz,Za0,Za1,Za2,Za3,Za4,Za5,Za6,Za7,Za8,Za9,Zba,Zbb,Zbd,Zbf,Zdc,Zdd,Zde,Zdi,Zev,Zew,Zex,Zez,Ze0,Ze2,Zfd,Zfe,Zfh,Zfi,Zfk,Zfl,Zfn,Zfr,Zf2,Zf4,Zjr,Zjw,Zla,Zlb,Zle,Zlj,Zlz,Zmt,Zmv,Zmw,Zmx,Zmz,Zm2,Zna,Znb,Zne,Znf,Zng,Zos,Zot,Zo7,Zo8,Zo9,Zpc,eq_self,true_and,and_true]
      tactic =>
      refine endA ?_
      sym =>
      simp [Zab,Zad,Zak,Zam,Zaz,Za0,Za1,Za2,Za3,Za4,Za5,Za6,Za7,Za8,Za9,Zba,Zbb,Zbd,Zbf,Zdc,Zdd,Zde,Zdi,Zev,Zew,Zex,Zez,Ze0,Ze2,Zfd,Zfe,Zfh,Zfi,Zfk,Zfl,Zfn,Zfr,Zf2,Zf4,Zjr,Zjw,Zla,Zlb,Zle,Zlj,Zlz,Zmt,Zmv,Zmw,Zmx,Zmz,Zm2,Zna,Znb,Zne,Znf,Zng,Zos,Zot,Zo7,Zo8,Zo9,Zpc,eq_self,true_and,and_true]
    · rw [if_neg h0]
      have h0' : ¬ n ≥ 0 := h0
      refine con_j b12 rfl ?_
      sym =>
      simp [Zab,Zad,Zak,Zam,Zaz,Za0,Za1,Za2,Za3,Za4,Za5,Za6,Za7,Za8,Za9,Zba,Zbb,Zbd,Zbf,Zdc,Zdd,Zde,Zdi,Zev,Zew,Zex,Zez,Ze0,Ze2,Zfd,Zfe,Zfh,Zfi,Zfk,Zfl,Zfn,Zfr,Zf2,Zf4,Zjr,Zjw,Zla,Zlb,Zle,Zlj,Zlz,Zmt,Zmv,Zmw,Zmx,Zmz,Zm2,Zna,Znb,Zne,Znf,Zng,Zos,Zot,Zo7,Zo8,Zo9,Zpc,eq_self,true_and,and_true,callable_20]
      tactic =>
      refine cl none (hi) trivial ?_
      sym =>
      simp [Zab,Zad,Zak,Zam,Zaz,Za0,Za1,Za2,Za3,Za4,Za5,Za6,Za7,Za8,Za9,Zba,Zbb,Zbd,Zbf,Zdc,Zdd,Zde,Zdi,Zev,Zew,Zex,Zez,Ze0,Ze2,Zfd,Zfe,Zfh,Zfi,Zfk,Zfl,Zfn,Zfr,Zf2,Zf4,Zjr,Zjw,Zla,Zlb,Zle,Zlj,Zlz,Zmt,Zmv,Zmw,Zmx,Zmz,Zm2,Zna,Znb,Zne,Znf,Zng,Zos,Zot,Zo7,Zo8,Zo9,Zpc,eq_self,true_and,and_true,h0']
      tactic =>
      refine endA ?_
      sym =>
      simp [Zab,Zad,Zak,Zam,Zaz,Za0,Za1,Za2,Za3,Za4,Za5,Za6,Za7,Za8,Za9,Zba,Zbb,Zbd,Zbf,Zdc,Zdd,Zde,Zdi,Zev,Zew,Zex,Zez,Ze0,Ze2,Zfd,Zfe,Zfh,Zfi,Zfk,Zfl,Zfn,Zfr,Zf2,Zf4,Zjr,Zjw,Zla,Zlb,Zle,Zlj,Zlz,Zmt,Zmv,Zmw,Zmx,Zmz,Zm2,Zna,Znb,Zne,Znf,Zng,Zos,Zot,Zo7,Zo8,Zo9,Zpc,eq_self,true_and,and_true]
  · rw [if_neg h]
    have h' : isW w = false := by simpa using h
    rw [h'] at hi
    refine con_j b12 rfl ?_
    sym =>
    simp [Zab,Zad,Zak,Zam,Zaz,Za0,Za1,Za2,Za3,Za4,Za5,Za6,Za7,Za8,Za9,Zba,Zbb,Zbd,Zbf,Zdc,Zdd,Zde,Zdi,Zev,Zew,Zex,Zez,Ze0,Ze2,Zfd,Zfe,Zfh,Zfi,Zfk,Zfl,Zfn,Zfr,Zf2,Zf4,Zjr,Zjw,Zla,Zlb,Zle,Zlj,Zlz,Zmt,Zmv,Zmw,Zmx,Zmz,Zm2,Zna,Znb,Zne,Znf,Zng,Zos,Zot,Zo7,Zo8,Zo9,Zpc,eq_self,true_and,and_true,callable_20]
    tactic =>
    refine cl none (hi) trivial ?_
    sym =>
    simp [Zab,Zad,Zak,Zam,Zaz,Za0,Za1,Za2,Za3,Za4,Za5,Za6,Za7,Za8,Za9,Zba,Zbb,Zbd,Zbf,Zdc,Zdd,Zde,Zdi,Zev,Zew,Zex,Zez,Ze0,Ze2,Zfd,Zfe,Zfh,Zfi,Zfk,Zfl,Zfn,Zfr,Zf2,Zf4,Zjr,Zjw,Zla,Zlb,Zle,Zlj,Zlz,Zmt,Zmv,Zmw,Zmx,Zmz,Zm2,Zna,Znb,Zne,Znf,Zng,Zos,Zot,Zo7,Zo8,Zo9,Zpc,eq_self,true_and,and_true]
    tactic =>
    refine endA ?_
    sym =>
    simp [Zab,Zad,Zak,Zam,Zaz,Za0,Za1,Za2,Za3,Za4,Za5,Za6,Za7,Za8,Za9,Zba,Zbb,Zbd,Zbf,Zdc,Zdd,Zde,Zdi,Zev,Zew,Zex,Zez,Ze0,Ze2,Zfd,Zfe,Zfh,Zfi,Zfk,Zfl,Zfn,Zfr,Zf2,Zf4,Zjr,Zjw,Zla,Zlb,Zle,Zlj,Zlz,Zmt,Zmv,Zmw,Zmx,Zmz,Zm2,Zna,Znb,Zne,Znf,Zng,Zos,Zot,Zo7,Zo8,Zo9,Zpc,eq_self,true_and,and_true]
theorem rplain_con (n w : Int) (hn : -9223372036854775808 ≤ n ∧ n ≤ 9223372036854775807) (hw : -9223372036854775808 ≤ w ∧ w ≤ 9223372036854775807) : Con Tryd.prog 13 [] [I n, I w] [] (Bo (plainF n w)) := by
  have hi := rW_con w
  unfold plainF
  by_cases h : isW w = true
  · rw [if_pos h]
    have hww : IntKind.i64.wrap (w - 1) = w - 1 := by
      refine w64 _ ?_
      unfold isW at h
      by_cases h8 : w = 8
      · omega
      · rw [if_neg h8] at h; have := of_decide_eq_true h; omega
    have hmo := rmost_con (w - 1) (by omega)
    rw [h] at hi
    by_cases h0 : 0 ≤ n
    · rw [if_pos h0]
      have h0' : n ≥ 0 := h0
      refine con_j b13 rfl ?_
      sym =>
      simp [Zab,Zad,Zak,Zam,Zaz,Za0,Za1,Za2,Za3,Za4,Za5,Za6,Za7,Za8,Za9,Zba,Zbb,Zbd,Zbf,Zdc,Zdd,Zde,Zdi,Zev,Zew,Zex,Zez,Ze0,Ze2,Zfd,Zfe,Zfh,Zfi,Zfk,Zfl,Zfn,Zfr,Zf2,Zf4,Zjr,Zjw,Zla,Zlb,Zle,Zlj,Zlz,Zmt,Zmv,Zmw,Zmx,Zmz,Zm2,Zna,Znb,Zne,Znf,Zng,Zos,Zot,Zo7,Zo8,Zo9,Zpc,eq_self,true_and,and_true,callable_22]
      tactic =>
      refine cl none (hi) trivial ?_
      sym =>
      simp [Zab,Zad,Zak,Zam,Zaz,Za0,Za1,Za2,Za3,Za4,Za5,Za6,Za7,Za8,Za9,Zba,Zbb,Zbd,Zbf,Zdc,Zdd,Zde,Zdi,Zev,Zew,Zex,Zez,Ze0,Ze2,Zfd,Zfe,Zfh,Zfi,Zfk,Zfl,Zfn,Zfr,Zf2,Zf4,Zjr,Zjw,Zla,Zlb,Zle,Zlj,Zlz,Zmt,Zmv,Zmw,Zmx,Zmz,Zm2,Zna,Znb,Zne,Znf,Zng,Zos,Zot,Zo7,Zo8,Zo9,Zpc,eq_self,true_and,and_true,h0',hww,callable_15]
      tactic =>
      refine cl none (hmo) trivial ?_
      sym =>
      simp [Zab,Zad,Zak,Zam,Zaz,Za0,Za1,Za2,Za3,Za4,Za5,Za6,Za7,Za8,Za9,Zba,Zbb,Zbd,Zbf,Zdc,Zdd,Zde,Zdi,Zev,Zew,Zex,Zez,Ze0,Ze2,Zfd,Zfe,Zfh,Zfi,Zfk,Zfl,Zfn,Zfr,Zf2,Zf4,Zjr,Zjw,Zla,Zlb,Zle,Zlj,Zlz,Zmt,Zmv,Zmw,Zmx,Zmz,Zm2,Zna,Znb,Zne,Znf,Zng,Zos,Zot,Zo7,Zo8,Zo9,Zpc,eq_self,true_and,and_true]
      tactic =>
      refine endA ?_
      sym =>
      simp [Zab,Zad,Zak,Zam,Zaz,Za0,Za1,Za2,Za3,Za4,Za5,Za6,Za7,Za8,Za9,Zba,Zbb,Zbd,Zbf,Zdc,Zdd,Zde,Zdi,Zev,Zew,Zex,Zez,Ze0,Ze2,Zfd,Zfe,Zfh,Zfi,Zfk,Zfl,Zfn,Zfr,Zf2,Zf4,Zjr,Zjw,Zla,Zlb,Zle,Zlj,Zlz,Zmt,Zmv,Zmw,Zmx,Zmz,Zm2,Zna,Znb,Zne,Znf,Zng,Zos,Zot,Zo7,Zo8,Zo9,Zpc,eq_self,true_and,and_true]
    · rw [if_neg h0]
      have h0' : ¬ n ≥ 0 := h0
      refine con_j b13 rfl ?_
      sym =>
      simp [Zab,Zad,Zak,Zam,Zaz,Za0,Za1,Za2,Za3,Za4,Za5,Za6,Za7,Za8,Za9,Zba,Zbb,Zbd,Zbf,Zdc,Zdd,Zde,Zdi,Zev,Zew,Zex,Zez,Ze0,Ze2,Zfd,Zfe,Zfh,Zfi,Zfk,Zfl,Zfn,Zfr,Zf2,Zf4,Zjr,Zjw,Zla,Zlb,Zle,Zlj,Zlz,Zmt,Zmv,Zmw,Zmx,Zmz,Zm2,Zna,Znb,Zne,Znf,Zng,Zos,Zot,Zo7,Zo8,Zo9,Zpc,eq_self,true_and,and_true,callable_22]
      tactic =>
      refine cl none (hi) trivial ?_
      sym =>
      simp [Zab,Zad,Zak,Zam,Zaz,Za0,Za1,Za2,Za3,Za4,Za5,Za6,Za7,Za8,Za9,Zba,Zbb,Zbd,Zbf,Zdc,Zdd,Zde,Zdi,Zev,Zew,Zex,Zez,Ze0,Ze2,Zfd,Zfe,Zfh,Zfi,Zfk,Zfl,Zfn,Zfr,Zf2,Zf4,Zjr,Zjw,Zla,Zlb,Zle,Zlj,Zlz,Zmt,Zmv,Zmw,Zmx,Zmz,Zm2,Zna,Znb,Zne,Znf,Zng,Zos,Zot,Zo7,Zo8,Zo9,Zpc,eq_self,true_and,and_true,h0']
      tactic =>
      refine endA ?_
      sym =>
      simp [Zab,Zad,Zak,Zam,Zaz,Za0,Za1,Za2,Za3,Za4,Za5,Za6,Za7,Za8,Za9,Zba,Zbb,Zbd,Zbf,Zdc,Zdd,Zde,Zdi,Zev,Zew,Zex,Zez,Ze0,Ze2,Zfd,Zfe,Zfh,Zfi,Zfk,Zfl,Zfn,Zfr,Zf2,Zf4,Zjr,Zjw,Zla,Zlb,Zle,Zlj,Zlz,Zmt,Zmv,Zmw,Zmx,Zmz,Zm2,Zna,Znb,Zne,Znf,Zng,Zos,Zot,Zo7,Zo8,Zo9,Zpc,eq_self,true_and,and_true]
  · rw [if_neg h]
    have h' : isW w = false := by simpa using h
    rw [h'] at hi
    refine con_j b13 rfl ?_
    sym =>
    simp [Zab,Zad,Zak,Zam,Zaz,Za0,Za1,Za2,Za3,Za4,Za5,Za6,Za7,Za8,Za9,Zba,Zbb,Zbd,Zbf,Zdc,Zdd,Zde,Zdi,Zev,Zew,Zex,Zez,Ze0,Ze2,Zfd,Zfe,Zfh,Zfi,Zfk,Zfl,Zfn,Zfr,Zf2,Zf4,Zjr,Zjw,Zla,Zlb,Zle,Zlj,Zlz,Zmt,Zmv,Zmw,Zmx,Zmz,Zm2,Zna,Znb,Zne,Znf,Zng,Zos,Zot,Zo7,Zo8,Zo9,Zpc,eq_self,true_and,and_true,callable_22]
    tactic =>
    refine cl none (hi) trivial ?_
    sym =>
    simp [Zab,Zad,Zak,Zam,Zaz,Za0,Za1,Za2,Za3,Za4,Za5,Za6,Za7,Za8,Za9,Zba,Zbb,Zbd,Zbf,Zdc,Zdd,Zde,Zdi,Zev,Zew,Zex,Zez,Ze0,Ze2,Zfd,Zfe,Zfh,Zfi,Zfk,Zfl,Zfn,Zfr,Zf2,Zf4,Zjr,Zjw,Zla,Zlb,Zle,Zlj,Zlz,Zmt,Zmv,Zmw,Zmx,Zmz,Zm2,Zna,Znb,Zne,Znf,Zng,Zos,Zot,Zo7,Zo8,Zo9,Zpc,eq_self,true_and,and_true]
    tactic =>
    refine endA ?_
    sym =>
    simp [Zab,Zad,Zak,Zam,Zaz,Za0,Za1,Za2,Za3,Za4,Za5,Za6,Za7,Za8,Za9,Zba,Zbb,Zbd,Zbf,Zdc,Zdd,Zde,Zdi,Zev,Zew,Zex,Zez,Ze0,Ze2,Zfd,Zfe,Zfh,Zfi,Zfk,Zfl,Zfn,Zfr,Zf2,Zf4,Zjr,Zjw,Zla,Zlb,Zle,Zlj,Zlz,Zmt,Zmv,Zmw,Zmx,Zmz,Zm2,Zna,Znb,Zne,Znf,Zng,Zos,Zot,Zo7,Zo8,Zo9,Zpc,eq_self,true_and,and_true]
theorem and7 (x : Int) (h : 0 ≤ x ∧ x < 256) : bits .and .u8 x 7 = x % 8 := by
  obtain ⟨n, rfl⟩ := Int.eq_ofNat_of_zero_le h.1
  have h2 := (bits_nat .u8 8 (by decide) (fun m h0 h1 => by rw [w8u]; omega) n 7 (by omega) (by omega)).1
  rw [show (7 : Nat) = 2 ^ 3 - 1 from rfl, Nat.and_two_pow_sub_one_eq_mod] at h2
  exact h2
/-- Digits, the first i of them written. -/
def fro (X : List Int) (w i : Nat) : List Int := X.take i ++ List.replicate (w - i) 0
theorem fro_length (X : List Int) (w i : Nat) (hX : X.length = w) (h : i ≤ w) : (fro X w i).length = w := by simp [fro]; omega
theorem fro_step (X : List Int) (w i : Nat) (hX : X.length = w) (h : i < w) : (fro X w i).set i (X.getD i 0) = fro X w (i + 1) := by
  have hl : (X.take i).length = i := by rw [List.length_take]; omega
  rw [fro, fro, List.set_append_right _ _ (by omega), hl, Nat.sub_self, take_stepD X i (by omega), show w - i = (w - (i + 1)) + 1 from by omega, List.replicate_succ]
  simp
/-- Noughts, and the last j bytes of a row. -/
def bak (X : List Int) (w j : Nat) : List Int := List.replicate (w - j) 0 ++ X.drop (w - j)
theorem bak_length (X : List Int) (w j : Nat) (hX : X.length = w) (h : j ≤ w) : (bak X w j).length = w := by simp [bak]; omega
theorem bak_step (X : List Int) (w j : Nat) (hX : X.length = w) (h : j < w) : (bak X w j).set (w - 1 - j) (X.getD (w - 1 - j) 0) = bak X w (j + 1) := by
  have e1 : w - j = (w - 1 - j) + 1 := by omega
  have e2 : w - (j + 1) = w - 1 - j := by omega
  rw [bak, bak, e2, e1, List.replicate_succ', drop_stepD X (w - 1 - j) (by omega), List.append_assoc, List.set_append_right _ _ (by simp)]
  simp
def i9 (n : Int) (w : Nat) (k : Nat) (s : St) : Prop := ∃ i : Nat, i + k = w ∧ s = ⟨[(0, I n), (1, I (IN w)), (6, .lv 0 0 w), (27, I (IN w)), (28, I (IN i))], [(0, ⟨cB (fro (octN w n) w i), 1, 0⟩)], 1⟩
def i10 (n : Int) (w : Nat) (k : Nat) (s : St) : Prop := ∃ j : Nat, j + k = w ∧ s = ⟨[(0, I (n / 8 ^ j)), (6, .lv 0 0 w), (7, I (IN w - 1 - (j : Int)))], [(0, ⟨cB (bak (octN w n) w j), 1, 0⟩)], 1⟩
end Go.Proofs.YthhccabdlajngaaDoor.NumA
