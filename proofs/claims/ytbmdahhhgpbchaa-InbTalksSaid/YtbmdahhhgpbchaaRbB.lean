import Derived.Test.YtbmdahhhgpbchaaMpB
import Derived.Test.YtbmdahhhgpbchaaSwL
import Derived.Test.YtbmdahhhgpbchaaCodR
namespace Go.Proofs.Ytbmdahhhgpbchaa.RbB
open Go Go.Sim Go.Sim.E Go.RowKit Go.Proofs Go.Proofs.Ytbmdahhhgpbchaa.Cod Go.Proofs.Ytbmdahhhgpbchaa.Tab Go.Proofs.Ytbmdahhhgpbchaa.Bse Go.Proofs.Ytbmdahhhgpbchaa.SpnP Go.Proofs.Ytbmdahhhgpbchaa.SwA Go.Proofs.Ytbmdahhhgpbchaa.SwB Go.Proofs.Ytbmdahhhgpbchaa.SwC Go.Proofs.Ytbmdahhhgpbchaa.SwS Go.Proofs.Ytbmdahhhgpbchaa.SwD Go.Proofs.Ytbmdahhhgpbchaa.SwF Go.Proofs.Ytbmdahhhgpbchaa.SwG Go.Proofs.Ytbmdahhhgpbchaa.SwL Go.Proofs.Ytbmdahhhgpbchaa.RbA Go.Proofs.Ytbmdahhhgpbchaa.MpB
set_option linter.unusedVariables false
set_option linter.unusedSimpArgs false
set_option maxRecDepth 100000
set_option maxHeartbeats 4000000
abbrev bV (tot base : Int) (H : Sgs) : AV := .ag [I tot, I base, mH H]
abbrev bC (tot base : Int) (H : Sgs) : List AV := [I tot, I base, mH H]
theorem mget_m (H : Sgs) (k : Int) : mget (H.map (·.1)) (H.map fun p => fB p.2) k = (hget H k).map fun x => fB x := by
  unfold hget
  induction H with
  | nil => rfl
  | cons p H ih =>
    simp only [List.map_cons, mget, List.find?_cons]
    by_cases h : p.1 = k
    · simp [h]
    · have : (p.1 == k) = false := by simpa using h
      rw [if_neg h, this, ih]
def hlen (H : Sgs) (k : Int) : Int := match hget H k with | some x => IN x.length | none => 0
/-- The places that are held, of the first n. -/
def stR (b : Int) (H : Sgs) : Nat → List Rg
  | 0 => []
  | n + 1 => addS (stR b H n) (b + 256 * (n : Int)) (b + 256 * (n : Int) + hlen H (b + 256 * (n : Int)))
theorem stR_0 (b : Int) (H : Sgs) : stR b H 0 = [] := rfl
theorem cR_nil : cR [] = [] := rfl
theorem stR_len (b : Int) (H : Sgs) : ∀ n, (stR b H n).length ≤ n
  | 0 => Nat.le_refl _
  | n + 1 => by
    have := addS_length (stR b H n) (b + 256 * (n : Int)) (b + 256 * (n : Int) + hlen H (b + 256 * (n : Int)))
    have := stR_len b H n
    simp only [stR]
    omega
def i64a (tot b : Int) (H : Sgs) (k : Nat) (s : St) : Prop := ∃ i : Nat, i + k = 8 ∧ s = ⟨[(1, .pt 0 0), (2, .pt 1 0), (3, .pt 2 0), (4, I (b + 256 * (i : Int)))], [(0, ⟨bC tot b H, 1, 0⟩), (1, ⟨[.nl], 1, 0⟩), (2, ⟨[fR (stR b H i)], 1, 0⟩)], 3⟩
theorem set_con (tot b : Int) (H : Sgs) (hb : 0 ≤ b ∧ b ≤ 1099511627776) (hl : ∀ p ∈ H, p.2.length ≤ 256) : Con Try.prog 64 [] [bV tot b H] [] (.ag [fR (stR b H 8)]) := by
  have w2 : IntKind.i64.wrap (b + 2048) = b + 2048 := w64 _ (by omega)
  refine con_j b64 rfl ?_
  sym =>
  simp [Zab,Zad,Zag,Zah,Zam,Zaz,Za0,Za1,Za2,Za3,Za4,Za5,Za9,Zba,Zbb,Zbt,Zbv,Zb9,Zcv,Zcx,Zc3,Zev,Zez,Ze0,Ze1,Ze2,Ze3,Ze5,Ze8,Zfc,Zfd,Zfe,Zfh,Zgr,Zgs,Zgt,Zgv,Zgw,Zgx,Zhd,Zhe,Zhf,Zin,Zio,Zip,Ziu,Ziv,Ziw,Zi6,Zjh,Zji,Zj2,Zm6,Zm9,Zna,Znb,Znn,Zno,Znp,Zos,Zot,Zo7,eq_self,true_and,and_true]
  tactic =>
  refine lpA (i64a tot b H) 8 [(0, 0), (1, 1), (2, 3)] _ ⟨0, rfl, by rw [show b + 256 * ((0 : Nat) : Int) = b from by omega]⟩ (wkA ?_) ?_
  · rw [stR_0]
    sym =>
    simp [Za2,Za3,Zez,Zfc,Zna,Znr,Zpa,Zpc,Zpd,Zu7,Zpu,Zpv,Zqb,Zqc,Zqf,Zqg,Zqh,Zqi,Zqk,Zql,Zqm,Zqn,eq_self,and_true,cR_nil]
  rintro k s ⟨i, hi, rfl⟩
  by_cases h : i < 8
  · have c1 : b + 256 * (i : Int) < b + 2048 := by omega
    obtain ⟨a, ea⟩ : ∃ a, a = b + 256 * (i : Int) := ⟨_, rfl⟩
    have wa : IntKind.i64.wrap (a + 256) = b + 256 * ((i + 1 : Nat) : Int) := by rw [w64 _ (by omega)]; omega
    have hs1 : stR b H (i + 1) = addS (stR b H i) a (a + hlen H a) := by simp only [stR]; rw [ea]
    have hln := stR_len b H i
    rw [← ea] at c1 ⊢
    have hm := mget_m H a
    have hw : IntKind.i64.wrap (a + hlen H a) = a + hlen H a := w64 _ (by
      unfold hlen hget
      split
      · rename_i x hx
        obtain ⟨p, hp, rfl⟩ := Option.map_eq_some_iff.1 hx
        have := hl p (List.mem_of_find?_eq_some hp)
        simp only [IN]
        omega
      · omega)
    have hadd := adds_con (stR b H i) (by omega) a (a + hlen H a)
    rcases hg : hget H a with _ | x
    · rw [hg] at hm
      have hz : hlen H a = 0 := by unfold hlen; rw [hg]
      rw [hz] at hw hs1 hadd
      simp only [Option.map_none] at hm
      sym =>
      simp [Zaa,Zab,Zad,Zae,Zaf,Zag,Zal,Zam,Zaz,Za0,Za1,Za2,Za3,Za4,Za5,Za9,Zba,Zbb,Zbf,Zbt,Zbv,Zvm,Zcn,Zdc,Zdd,Zde,Zev,Zew,Zez,Ze0,Ze2,Ze5,Ze8,Zfc,Zfd,Zfe,Zfh,Zfn,Zfq,Zf1,Zgr,Zgs,Zgt,Zgv,Zgw,Zgx,Zvo,Zvp,Zvt,Zh6,Zh8,Zla,Zlb,Zlc,Zld,Zle,Zlf,Zlh,Zlj,Zlm,Zm5,Zm6,Zm7,Zm9,Zna,Znb,Zne,Znf,Zng,Zo7,Zo8,eq_self,true_and,and_true,c1,w2,hm,hw,callable_104]
      tactic =>
      refine cl none (hadd) trivial ?_
      sym =>
      simp [Zab,Zam,Zap,Zav,Zaz,Za0,Za1,Za2,Za3,Za4,Za5,Za9,Zba,Zbb,Zbf,Zc3,Zdi,Zev,Zew,Zez,Ze0,Ze1,Ze2,Ze3,Ze5,Zfc,Zfd,Zfe,Zfh,Zfn,Zfq,Ziu,Ziv,Ziw,Zi6,Zjh,Zji,Zj7,Zka,Zkv,Zkx,Zlz,Zl2,Zna,Znb,Znn,Zno,Znp,Zo7,eq_self,true_and,and_true,wa]
      tactic =>
      unfold NextL; refine ⟨(k - 1), [(0, 0), (1, 1), (2, 2)], _, by omega, ⟨i + 1, by omega, rfl⟩, wkA ?_⟩
      rw [hs1]
      sym =>
      simp [Za2,Za3,Zez,Zfc,Znr,Zpa,Zpc,Zpd,Zpg,Zu7,Zpu,Zqb,Zqc,Zqf,Zqg,Zqh,Zqi,Zqk,Zql,Zqm,Zqn,eq_self,and_true]
    · rw [hg] at hm
      have hz : hlen H a = IN x.length := by unfold hlen; rw [hg]
      rw [hz] at hw hs1 hadd
      simp only [Option.map_some] at hm
      sym =>
      simp [Zaa,Zab,Zad,Zae,Zaf,Zag,Zal,Zam,Zaz,Za0,Za1,Za2,Za3,Za4,Za5,Za9,Zba,Zbb,Zbf,Zbt,Zbv,Zvm,Zcn,Zdc,Zdd,Zde,Zev,Zew,Zez,Ze0,Ze2,Ze5,Ze8,Zfc,Zfd,Zfe,Zfh,Zfn,Zfq,Zf1,Zgr,Zgs,Zgt,Zgv,Zgw,Zgx,Zvo,Zvp,Zvs,Zh6,Zh7,Zla,Zlb,Zlc,Zld,Zle,Zlf,Zlh,Zlj,Zlm,Zm5,Zm6,Zm7,Zm9,Zna,Znb,Zne,Znf,Zng,Zo7,Zo8,eq_self,true_and,and_true,c1,w2,hm,hw,callable_104]
      tactic =>
      refine cl none (hadd) trivial ?_
      sym =>
      simp [Zab,Zam,Zap,Zav,Zaz,Za0,Za1,Za2,Za3,Za4,Za5,Za9,Zba,Zbb,Zbf,Zc3,Zdi,Zev,Zew,Zez,Ze0,Ze1,Ze2,Ze3,Ze5,Zfc,Zfd,Zfe,Zfh,Zfn,Zfq,Ziu,Ziv,Ziw,Zi6,Zjh,Zji,Zj7,Zka,Zkv,Zkx,Zlz,Zl2,Zna,Znb,Znn,Zno,Znp,Zo7,eq_self,true_and,and_true,wa]
      tactic =>
      unfold NextL; refine ⟨(k - 1), [(0, 0), (1, 1), (2, 2)], _, by omega, ⟨i + 1, by omega, rfl⟩, wkA ?_⟩
      rw [hs1]
      sym =>
      simp [Za2,Za3,Zez,Zfc,Znr,Zpa,Zpc,Zpd,Zpg,Zu7,Zpu,Zqb,Zqc,Zqf,Zqg,Zqh,Zqi,Zqk,Zql,Zqm,Zqn,eq_self,and_true]
  · have c1 : ¬ b + 256 * (i : Int) < b + 2048 := by omega
    obtain rfl : i = 8 := by omega
    generalize hS : stR b H 8 = S
    sym =>
    simp [Zab,Zad,Zae,Zaf,Zai,Zak,Zam,Zan,Zaq,Zaw,Zaz,Za0,Za1,Za2,Za3,Za4,Za5,Za9,Zba,Zbb,Zbf,Zbt,Zbv,Zc3,Zev,Zew,Zez,Ze0,Ze1,Ze2,Ze3,Ze5,Ze8,Zfc,Zfd,Zfe,Zfh,Zfn,Zfq,Zf1,Zgr,Zgs,Zgt,Zgv,Zgw,Zgx,Ziu,Ziv,Ziw,Zi6,Zjh,Zji,Zj7,Zmt,Zmv,Zmw,Zmy,Zm0,Zm1,Zm2,Zm5,Zm6,Zm7,Zm9,Zna,Znb,Znn,Zno,Znp,Zo7,Zo9,eq_self,true_and,and_true,c1,w2]
    tactic =>
    refine endA ?_
    sym =>
    simp [Zpg,Zp8,Zqb,Zqc,eq_self,and_true]
theorem rbase_con (tot b : Int) (H : Sgs) : Con Try.prog 26 [] [bV tot b H] [] (I b) := by
  refine con_j b26 rfl ?_
  sym =>
  simp [Zab,Zad,Zak,Zam,Zaz,Za0,Za1,Za2,Za3,Za4,Za5,Za9,Zba,Zbb,Zbt,Zbv,Zcx,Zev,Zew,Zez,Ze0,Ze2,Ze3,Ze5,Ze8,Zfc,Zfd,Zfe,Zfh,Zgr,Zgs,Zgt,Zgv,Zgw,Zgx,Zio,Zip,Zi6,Zmt,Zmv,Zmw,Zmx,Zmz,Zm2,Zm6,Zm9,Zna,Znb,Zos,Zot,Zo7,eq_self,true_and]
  tactic =>
  refine endA ?_
  sym =>
  simp [Zpc,eq_self]
theorem rdone_con (tot b : Int) (H : Sgs) : Con Try.prog 27 [] [bV tot b H] [] (Bo (decide (b = tot))) := by
  refine con_j b27 rfl ?_
  sym =>
  simp [Zab,Zad,Zak,Zam,Zaz,Za0,Za1,Za2,Za3,Za4,Za5,Za9,Zba,Zbb,Zbf,Zbt,Zbv,Zcx,Zev,Zew,Zez,Ze0,Ze2,Ze3,Ze5,Ze8,Zfc,Zfd,Zfe,Zfh,Zfn,Zfz,Zgr,Zgs,Zgt,Zgv,Zgw,Zgx,Zio,Zip,Zi6,Zmt,Zmv,Zmw,Zmx,Zmz,Zm2,Zm6,Zm9,Zna,Znb,Zos,Zot,Zo7,eq_self,true_and]
  tactic =>
  refine endA ?_
  sym =>
  simp [Zpc,eq_self]
theorem rheld_con (tot b : Int) (H : Sgs) (hb : 0 ≤ b ∧ b ≤ 1099511627776) (hl : ∀ p ∈ H, p.2.length ≤ 256) : Con Try.prog 28 [] [bV tot b H] [] (I (sumR (stR b H 8))) := by
  have hs := set_con tot b H hb hl
  have hz := size_con (stR b H 8) (by have := stR_len b H 8; omega)
  generalize stR b H 8 = S at *
  refine con_j b28 rfl ?_
  sym =>
  simp [Zab,Zad,Zam,Zaz,Za0,Za1,Za2,Za3,Za4,Za5,Za9,Zba,Zbb,Zbt,Zcx,Zdc,Zdd,Zde,Zev,Zew,Zez,Ze0,Ze2,Ze3,Ze5,Ze8,Zfc,Zfd,Zfe,Zfh,Zgr,Zgs,Zgt,Zio,Zip,Zi6,Zla,Zlb,Zlc,Zld,Zle,Zlf,Zlh,Zlk,Zu3,Zm5,Zm7,Zm9,Zna,Znb,Zne,Znf,Zng,Zos,Zot,Zo7,eq_self,true_and,and_true,callable_64]
  tactic =>
  refine cl none (hs) trivial ?_
  sym =>
  simp [Za5,Za9,Zdc,Zdd,Zde,Zdi,Zev,Zew,Zez,Ze0,Zfd,Zfe,Zka,Zkv,Zkx,Zla,Zlb,Zlc,Zld,Zle,Zlf,Zlh,Zlm,Zlz,Zl2,Zne,Znf,Zng,Zo7,eq_self,true_and,and_true,callable_65]
  tactic =>
  refine cl none (hz) trivial ?_
  sym =>
  simp [Zak,Zam,Zaz,Za0,Za1,Za2,Za3,Za4,Za5,Za9,Zba,Zbb,Zdi,Zev,Zez,Ze0,Ze2,Zfd,Zfe,Zfh,Zjr,Zlz,Zmt,Zmv,Zmw,Zmx,Zmz,Zm2,Zo7,eq_self,true_and]
  tactic =>
  refine endA ?_
  sym =>
  simp [Zpc,eq_self]
theorem rranges_con (tot b : Int) (H : Sgs) (hb : 0 ≤ b ∧ b ≤ 1099511627776) (hl : ∀ p ∈ H, p.2.length ≤ 256) (m : Int) : Con Try.prog 62 [] [bV tot b H, I m] [] (fR (aboveF (-1) m (stR b H 8) [])) := by
  have hs := set_con tot b H hb hl
  have hz := above_con (stR b H 8) (by have := stR_len b H 8; omega) (-1) m
  generalize stR b H 8 = S at *
  refine con_j b62 rfl ?_
  sym =>
  simp [Zab,Zad,Zam,Zaz,Za0,Za1,Za2,Za3,Za4,Za5,Za9,Zba,Zbb,Zbt,Zcx,Zdc,Zdd,Zde,Zev,Zew,Zez,Ze0,Ze2,Ze3,Ze5,Ze8,Zfc,Zfd,Zfe,Zfh,Zgr,Zgs,Zgt,Zio,Zip,Zi6,Zla,Zlb,Zlc,Zld,Zle,Zlf,Zlh,Zlk,Zu3,Zm5,Zm7,Zm9,Zna,Znb,Zne,Znf,Zng,Zos,Zot,Zo7,eq_self,true_and,and_true,callable_64]
  tactic =>
  refine cl none (hs) trivial ?_
  sym =>
  simp [Za5,Za9,Zba,Zbb,Zdc,Zdd,Zde,Zdi,Zev,Zew,Zez,Ze0,Ze2,Zfd,Zfe,Zfh,Zka,Zkv,Zkx,Zla,Zlb,Zlc,Zld,Zle,Zlf,Zlh,Zlj,Zlm,Zlz,Zl2,Zne,Znf,Zng,Zo7,eq_self,true_and,and_true,callable_101]
  tactic =>
  refine cl none (hz) trivial ?_
  sym =>
  simp [Zak,Zam,Zaz,Za0,Za1,Za2,Za3,Za4,Za5,Za9,Zba,Zbb,Zdi,Zev,Zez,Ze0,Ze2,Zfd,Zfe,Zfh,Zkb,Zlz,Zl2,Zmt,Zmv,Zmw,Zmx,Zmz,Zm2,Zo7,eq_self,true_and]
  tactic =>
  refine endA ?_
  sym =>
  simp [Zpi,eq_self,and_true]
theorem rnew_con (tot b : Int) (h1 : 0 ≤ tot ∧ tot ≤ 1099511627776) (h2 : 0 ≤ b ∧ b ≤ tot) (h3 : Int.tmod b (256 : Int) = 0 ∨ b = tot) : Con Try.prog 56 [] [I tot, I b] [] (.tu [bV tot b [], I 0]) := by
  have c1 : ¬ tot < 0 := by omega
  have c2 : ¬ (1099511627776 : Int) < tot := by omega
  have c3 : ¬ b < 0 := by omega
  have c4 : ¬ tot < b := by omega
  have wr : IntKind.i64.wrap (Int.tmod b (256 : Int)) = Int.tmod b (256 : Int) := w64 _ (by rw [Int.tmod_eq_emod_of_nonneg (by omega)]; omega)
  refine con_j b56 rfl ?_
  by_cases c5 : Int.tmod b (256 : Int) = 0
  · sym =>
    simp [Zaa,Zab,Zad,Zae,Zaf,Zag,Zak,Zal,Zam,Zap,Zaz,Za0,Za1,Za2,Za3,Za4,Za5,Za6,Za7,Za8,Za9,Zba,Zbb,Zbd,Zbf,Zb9,Zcv,Zc3,Zev,Zew,Zex,Zez,Ze0,Ze1,Ze2,Ze3,Ze5,Zfc,Zfd,Zfe,Zfh,Zfi,Zfk,Zfl,Zfn,Zfu,Zf0,Zf1,Zf3,Zhd,Zhe,Zhf,Zhg,Zhh,Zin,Ziu,Ziv,Ziw,Zi6,Zi7,Zjh,Zji,Zjn,Zur,Zmt,Zmv,Zmw,Zmx,Zmy,Zmz,Zm0,Zm1,Zm3,Zm5,Zm7,Zm9,Zna,Znb,Znf,Znn,Zno,Znp,Zos,Zot,Zo3,Zo7,Zo8,Zo9,eq_self,true_and,and_true,c1,c2,c3,c4,wr,c5]
    tactic =>
    refine endA ?_
    sym =>
    simp [Zpa,Zpb,Zu7,Zp7,Zp9,Zqb,Zqc,Zqd,Zqe,eq_self,and_true]
  · have c6 : b = tot := h3.resolve_left c5
    subst c6
    sym =>
    simp [Zaa,Zab,Zad,Zae,Zaf,Zag,Zak,Zal,Zam,Zap,Zaz,Za0,Za1,Za2,Za3,Za4,Za5,Za6,Za7,Za9,Zba,Zbb,Zbd,Zbf,Zb9,Zcv,Zc3,Zev,Zew,Zex,Zez,Ze0,Ze1,Ze2,Ze3,Ze5,Zfc,Zfd,Zfe,Zfh,Zfi,Zfl,Zfn,Zfu,Zf0,Zf1,Zf3,Zhd,Zhe,Zhf,Zhg,Zhh,Zin,Ziu,Ziv,Ziw,Zi6,Zi7,Zjh,Zji,Zjn,Zur,Zmt,Zmv,Zmw,Zmx,Zmy,Zmz,Zm0,Zm1,Zm3,Zm5,Zm7,Zm9,Zna,Znb,Znf,Znn,Zno,Znp,Zos,Zot,Zo3,Zo4,Zo7,Zo8,Zo9,eq_self,true_and,and_true,c1,c2,c3,c4,wr,c5]
    tactic =>
    refine endA ?_
    sym =>
    simp [Zpa,Zpb,Zu7,Zp7,Zp9,Zqb,Zqc,Zqd,Zqe,eq_self,and_true]
end Go.Proofs.Ytbmdahhhgpbchaa.RbB
