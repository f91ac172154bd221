import Derived.Test.YtbmdahhhgpbchaaCodR
import Derived.Test.YtbmdahhhgpbchaaTab
import Derived.Test.YtbmdahhhgpbchaaBse
namespace Go.Proofs.Ytbmdahhhgpbchaa.RbA
open Go Go.Sim Go.Sim.E Go.RowKit Go.Proofs Go.Proofs.Ytbmdahhhgpbchaa.Cod Go.Proofs.Ytbmdahhhgpbchaa.Tab Go.Proofs.Ytbmdahhhgpbchaa.Bse
set_option linter.unusedVariables false
set_option linter.unusedSimpArgs false
set_option maxRecDepth 100000
set_option maxHeartbeats 4000000
/-- How many bytes the segment has that begins at a place within reach. -/
def lgF (tot base off : Int) : Int := if off < base ∨ min tot (base + 2048) ≤ off ∨ ¬ off.tmod 256 = 0 then 0 else min 256 (tot - off)
theorem long_con (tot base off : Int) (mv : AV) (hmv : isF mv = true) (h : 0 ≤ base ∧ base ≤ tot ∧ tot ≤ 1099511627776) (ho : -9223372036854775808 ≤ off ∧ off ≤ 9223372036854775807) : Con Try.prog 97 [] [.ag [I tot, I base, mv], I off] [] (I (lgF tot base off)) := by
  obtain ⟨R, hR⟩ : ∃ R, R = lgF tot base off := ⟨_, rfl⟩
  rw [← hR]
  unfold lgF at hR
  have w1 : IntKind.i64.wrap (base + 2048) = base + 2048 := w64 _ (by omega)
  obtain ⟨hi, ehi⟩ : ∃ hi, hi = min tot (base + 2048) := ⟨_, rfl⟩
  have ehi' : min tot (base + 2048) = hi := ehi.symm
  rw [ehi'] at hR
  refine con_j b97 rfl ?_
  by_cases c1 : off < base
  · rw [if_pos (.inl c1)] at hR
    subst hR
    sym =>
    simp [Zab,Zad,Zae,Zaf,Zak,Zal,Zam,Zao,Zay,Zaz,Za0,Za1,Za2,Za3,Za4,Za5,Za6,Za7,Za8,Za9,Zba,Zbb,Zbd,Zbf,Zbt,Zbv,Zcx,Zev,Zew,Zex,Zez,Ze0,Ze2,Ze3,Ze5,Ze8,Zfc,Zfd,Zfe,Zfh,Zfi,Zfj,Zfn,Zf1,Zgr,Zgs,Zgt,Zgv,Zgw,Zgx,Zio,Zip,Zi6,Zmt,Zmv,Zmw,Zmx,Zmz,Zm2,Zm6,Zm9,Zna,Znb,Zos,Zot,Zo6,Zo7,Zo8,eq_self,true_and,c1,w1,ehi']
    tactic =>
    refine endA ?_
    sym =>
    simp [Zpc,eq_self]
  by_cases c2 : hi ≤ off
  · rw [if_pos (.inr (.inl c2))] at hR
    subst hR
    sym =>
    simp [Zab,Zad,Zae,Zaf,Zak,Zal,Zam,Zao,Zay,Zaz,Za0,Za1,Za2,Za3,Za4,Za5,Za6,Za7,Za8,Za9,Zba,Zbb,Zbd,Zbf,Zbt,Zbv,Zct,Zcx,Zev,Zew,Zex,Zez,Ze0,Ze2,Ze3,Ze5,Ze8,Zfc,Zfd,Zfe,Zfh,Zfi,Zfj,Zfl,Zfn,Zfq,Zf1,Zf4,Zgr,Zgs,Zgt,Zgv,Zgw,Zgx,Zif,Zig,Zik,Zil,Zim,Zio,Zip,Zi6,Zmt,Zmv,Zmw,Zmx,Zmz,Zm2,Zm6,Zm9,Zna,Znb,Znf,Zng,Zos,Zot,Zo6,Zo7,Zo8,Zo9,eq_self,true_and,c1,c2,w1,ehi']
    tactic =>
    refine endA ?_
    sym =>
    simp [Zpc,eq_self]
  obtain ⟨r, hr⟩ : ∃ r, r = Int.tmod off (256 : Int) := ⟨_, rfl⟩
  have er : Int.tmod off (256 : Int) = r := hr.symm
  have wr : IntKind.i64.wrap r = r := w64 _ (by rw [hr, Int.tmod_eq_emod_of_nonneg (by omega)]; omega)
  rw [er] at hR
  by_cases c3 : r = 0
  · rw [if_neg (by omega)] at hR
    have w2 : IntKind.i64.wrap (tot - off) = tot - off := w64 _ (by omega)
    have e3 : min 256 (tot - off) = R := hR.symm
    clear wr
    subst c3
    sym =>
    simp [Zaa,Zab,Zad,Zae,Zaf,Zak,Zal,Zam,Zaz,Za0,Za1,Za2,Za3,Za4,Za5,Za6,Za7,Za9,Zba,Zbb,Zbd,Zbf,Zbt,Zbv,Zct,Zcx,Zev,Zew,Zex,Zez,Ze0,Ze2,Ze3,Ze5,Ze8,Zfc,Zfd,Zfe,Zfh,Zfi,Zfl,Zfn,Zfq,Zfr,Zfu,Zf0,Zf1,Zf4,Zgr,Zgs,Zgt,Zgv,Zgw,Zgx,Zif,Zig,Zik,Zil,Zim,Zio,Zip,Zi6,Zmt,Zmv,Zmw,Zmx,Zmz,Zm2,Zm6,Zm9,Zna,Znb,Znf,Zng,Zos,Zot,Zo3,Zo7,Zo8,Zo9,eq_self,true_and,c1,c2,w1,ehi',er,w2,e3]
    tactic =>
    refine endA ?_
    sym =>
    simp [Zpc,eq_self]
  · rw [if_pos (.inr (.inr c3))] at hR
    subst hR
    sym =>
    simp [Zab,Zad,Zae,Zaf,Zak,Zal,Zam,Zao,Zay,Zaz,Za0,Za1,Za2,Za3,Za4,Za5,Za6,Za7,Za9,Zba,Zbb,Zbd,Zbf,Zbt,Zbv,Zct,Zcx,Zev,Zew,Zex,Zez,Ze0,Ze2,Ze3,Ze5,Ze8,Zfc,Zfd,Zfe,Zfh,Zfi,Zfl,Zfn,Zfq,Zfu,Zf0,Zf1,Zf4,Zgr,Zgs,Zgt,Zgv,Zgw,Zgx,Zif,Zig,Zik,Zil,Zim,Zio,Zip,Zi6,Zmt,Zmv,Zmw,Zmx,Zmz,Zm2,Zm6,Zm9,Zna,Znb,Znf,Zng,Zos,Zot,Zo4,Zo7,Zo9,eq_self,true_and,c1,c2,w1,ehi',er,wr,c3]
    tactic =>
    refine endA ?_
    sym =>
    simp [Zpc,eq_self]
end Go.Proofs.Ytbmdahhhgpbchaa.RbA
