import Derived.Test.YtbmdahhhgpbchaaOeQ
import Derived.Test.YtbmdahhhgpbchaaOeA
import Derived.Test.YtbmdahhhgpbchaaCodG
namespace Go.Proofs.Ytbmdahhhgpbchaa.OpA
open Go Go.Sim Go.Sim.E Go.RowKit Go.Proofs Go.Proofs.Ytbmdahhhgpbchaa.Cod Go.Proofs.Ytbmdahhhgpbchaa.Tab Go.Proofs.Ytbmdahhhgpbchaa.Bse Go.Proofs.Ytbmdahhhgpbchaa.SpnP Go.Proofs.Ytbmdahhhgpbchaa.SwA Go.Proofs.Ytbmdahhhgpbchaa.SwB Go.Proofs.Ytbmdahhhgpbchaa.SwC Go.Proofs.Ytbmdahhhgpbchaa.SwS Go.Proofs.Ytbmdahhhgpbchaa.SwD Go.Proofs.Ytbmdahhhgpbchaa.SwF Go.Proofs.Ytbmdahhhgpbchaa.SwG Go.Proofs.Ytbmdahhhgpbchaa.SwL Go.Proofs.Ytbmdahhhgpbchaa.ObA Go.Proofs.Ytbmdahhhgpbchaa.ObB Go.Proofs.Ytbmdahhhgpbchaa.ObC Go.Proofs.Ytbmdahhhgpbchaa.OeP Go.Proofs.Ytbmdahhhgpbchaa.OeQ Go.Proofs.Ytbmdahhhgpbchaa.OeA
set_option linter.unusedVariables false
set_option linter.unusedSimpArgs false
set_option maxRecDepth 100000
set_option maxHeartbeats 4000000
def cJ (l : List Int) : List AV := l.map fun n => I n
abbrev fJ (l : List Int) : AV := .fz l.length (cJ l)
theorem cJ_length (l : List Int) : (cJ l).length = l.length := by simp [cJ]
theorem cJ_get (l : List Int) (i : Nat) (h : i < l.length) : (cJ l).getD i .un = I l[i] := by simp [cJ, List.getD_eq_getElem?_getD, List.getElem?_eq_getElem h]
theorem cJ_append (a b : List Int) : cJ (a ++ b) = cJ a ++ cJ b := by simp [cJ]
theorem cJ_okI (l : List Int) : okI (cJ l) := okI_map _ (fun _ => rfl) _
theorem cJ_okF (l : List Int) : okF (cJ l) := by
  intro x hx
  obtain ⟨a, _, rfl⟩ := List.mem_map.1 hx
  rfl
theorem cJ_all (l : List Int) : List.take l.length (cJ l) = cJ l := List.take_of_length_le (by rw [cJ_length]; exact Nat.le_refl _)
/-- A window of the document. -/
abbrev rW (t f : Int) (cm ou : List Int) : AV := .ag [I t, I f, fJ cm, fJ ou]
def i113 (l : List Int) (n : Int) (k : Nat) (q : St) : Prop := ∃ i : Nat, i + k = l.length ∧ (∀ x ∈ l.take i, x ≠ n) ∧ q = ⟨[(0, fJ l), (1, I n), (5, I (IN i))], [], 0⟩
theorem hasl_con (l : List Int) (n : Int) (hl : l.length < 1000000) : Con Try.prog 113 [] [fJ l, I n] [] (Bo (decide (n ∈ l))) := by
  refine con_j b113 rfl ?_
  sym =>
  simp [Zab,Zad,Zag,Zah,Zam,Zay,Zaz,Za0,Za1,Za2,Za3,Za4,Za5,Za9,Zba,Zbb,Zew,Ze0,Ze2,Zfd,Zfe,Zfh,Zna,Znb,Zos,Zot,Zo7,eq_self,true_and]
  tactic =>
  refine lpA (i113 l n) l.length [] _ ⟨0, by omega, by simp, rfl⟩ (wkA ?_) ?_
  · sym =>
    simp [Zez,Zn5,Zpc,Zpi,Zqf,Zqg,Zqh,Zqm,eq_self,and_true]
  rintro k q ⟨i, hi, hx, rfl⟩
  by_cases h : i < l.length
  · have hw := w64s i (by omega)
    have h0 := cJ_get l i h
    by_cases he : l[i] = n
    · have hm : n ∈ l := he ▸ List.getElem_mem h
      sym =>
      simp [Zaa,Zab,Zad,Zae,Zaf,Zag,Zak,Zal,Zam,Zao,Zar,Zax,Zay,Zaz,Za0,Za1,Za2,Za3,Za4,Za5,Za9,Zba,Zbb,Zbf,Zbt,Zb1,Zcn,Zev,Zew,Zez,Ze0,Ze2,Ze5,Zfd,Zfe,Zfh,Zfn,Zfz,Zf1,Zgr,Zgu,Zg4,Zg6,Zho,Zh6,Zh7,Zmt,Zmv,Zmw,Zmx,Zmz,Zm2,Zm6,Zna,Znb,Zns,Znt,Znw,Zo7,Zo8,eq_self,true_and,Nat.mul_one,h,h0,hw,he,cJ_length]
      tactic =>
      and_intros <;> try (first | omega | rfl | assumption | exact cJ_okF _ | exact cJ_okI _ | simp only [IN]; omega)
      refine endA ?_
      sym =>
      simp [Zo8,Zpc,eq_self,hm]
    · sym =>
      simp [Zaa,Zab,Zad,Zae,Zaf,Zag,Zal,Zam,Zap,Zav,Zaz,Za0,Za1,Za2,Za3,Za4,Za5,Za9,Zba,Zbb,Zbf,Zbt,Zb1,Zcn,Zev,Zew,Zez,Ze0,Ze2,Ze5,Zfd,Zfe,Zfh,Zfn,Zfq,Zfz,Zf1,Zgr,Zgu,Zg4,Zg6,Zho,Zh6,Zh7,Zm6,Zna,Znb,Zns,Znt,Znw,Zo7,Zo8,Zo9,eq_self,true_and,Nat.mul_one,h,h0,hw,he,cJ_length]
      tactic =>
      and_intros <;> try (first | omega | rfl | assumption | exact cJ_okF _ | exact cJ_okI _ | simp only [IN]; omega)
      have hnx : ∀ x ∈ l.take (i + 1), x ≠ n := by
        intro x hxm
        rw [take_one l i h] at hxm
        rcases List.mem_append.1 hxm with hxm | hxm
        · exact hx x hxm
        · rw [List.mem_singleton.1 hxm]; exact he
      unfold NextL; refine ⟨(k - 1), [], _, by omega, ⟨i + 1, by omega, hnx, rfl⟩, wkA ?_⟩
      sym =>
      simp [Zez,Zpc,Zpi,Zqf,Zqg,Zqh,Zqm,eq_self,and_true]
  · have hm : ¬ n ∈ l := fun hm => by
      rw [List.take_of_length_le (by omega)] at hx
      exact hx n hm rfl
    sym =>
    simp [Zab,Zad,Zae,Zaf,Zai,Zak,Zam,Zan,Zaq,Zaw,Zaz,Za0,Za1,Za2,Za3,Za4,Za5,Za9,Zba,Zbb,Zbf,Zcn,Zev,Zew,Zez,Ze0,Ze2,Ze5,Zfd,Zfe,Zfh,Zfn,Zf1,Zh6,Zh7,Zmt,Zmv,Zmw,Zmx,Zmz,Zm2,Zna,Znb,Znt,Zo7,Zo9,eq_self,true_and,h]
    tactic =>
    refine endA ?_
    sym =>
    simp [Zo9,Zpc,eq_self,hm]
def cmF (f : Int) (cm : List Int) (a : Int) : Bool := decide (a < f) || decide (a ∈ cm)
theorem came_con (t f : Int) (cm ou : List Int) (a : Int) (hl : cm.length < 1000000) : Con Try.prog 83 [] [rW t f cm ou, I a] [] (Bo (cmF f cm a)) := by
  unfold cmF
  refine con_j b83 rfl ?_
  by_cases h : a < f
  · sym =>
    simp [Zab,Zad,Zak,Zam,Zaz,Za0,Za1,Za2,Za3,Za4,Za5,Za6,Za7,Za8,Za9,Zba,Zbb,Zbd,Zbf,Zbt,Zbv,Zcx,Zev,Zew,Zex,Zez,Ze0,Ze2,Ze3,Ze5,Ze8,Zfc,Zfd,Zfe,Zfh,Zfi,Zfj,Zfn,Zf1,Zgr,Zgs,Zgt,Zgv,Zgw,Zgx,Zio,Zip,Zi6,Zmt,Zmv,Zmw,Zmx,Zmz,Zm2,Zm6,Zm9,Zna,Znb,Zos,Zot,Zo6,Zo7,Zo8,eq_self,true_and,Bool.true_or,h]
    tactic =>
    refine endA ?_
    sym =>
    simp [Zpc,eq_self,h]
  · sym =>
    simp [Zab,Zad,Zam,Zaz,Za0,Za1,Za2,Za3,Za4,Za5,Za6,Za7,Za9,Zba,Zbb,Zbf,Zbt,Zbv,Zcx,Zdc,Zdd,Zde,Zev,Zew,Zex,Zez,Ze0,Ze2,Ze3,Ze5,Ze8,Zfc,Zfd,Zfe,Zfh,Zfn,Zf1,Zgr,Zgs,Zgt,Zgv,Zgw,Zgx,Zio,Zip,Zi6,Zla,Zlb,Zle,Zlj,Zll,Zm6,Zm9,Zna,Znb,Zne,Znf,Zng,Zos,Zot,Zo7,Zo9,eq_self,true_and,and_true,Bool.false_or,h,callable_113]
    tactic =>
    refine cl none (hasl_con cm a hl) trivial ?_
    sym =>
    simp [Zak,Zam,Zaz,Za0,Za1,Za2,Za3,Za4,Za5,Za9,Zba,Zbb,Zbd,Zdi,Zev,Zew,Zez,Ze0,Ze2,Zfd,Zfe,Zfh,Zfi,Zfl,Zjw,Zlz,Zmt,Zmv,Zmw,Zmx,Zmz,Zm2,Zo7,eq_self,true_and]
    tactic =>
    refine endA ?_
    sym =>
    simp [Zpc,eq_self,h]
theorem rend_con (t f : Int) (cm ou : List Int) (a : Int) (h : 0 ≤ a ∧ a ≤ 4611686018427387904) : Con Try.prog 84 [] [rW t f cm ou, I a] [] (I (min (a + 256) t)) := by
  have hw : IntKind.i64.wrap (a + 256) = a + 256 := w64 _ (by omega)
  refine con_j b84 rfl ?_
  sym =>
  simp [Zab,Zad,Zak,Zam,Zaz,Za0,Za1,Za2,Za3,Za4,Za5,Za9,Zba,Zbb,Zbf,Zbt,Zbv,Zct,Zcx,Zev,Zew,Zez,Ze0,Ze2,Ze3,Ze5,Ze8,Zfc,Zfd,Zfe,Zfh,Zfn,Zfq,Zgr,Zgs,Zgt,Zgv,Zgw,Zgx,Zif,Zig,Zik,Zil,Zim,Zio,Zip,Zi6,Zmt,Zmv,Zmw,Zmx,Zmz,Zm2,Zm6,Zm9,Zna,Znb,Znf,Zng,Zos,Zot,Zo7,eq_self,true_and,hw]
  tactic =>
  refine endA ?_
  sym =>
  simp [Zpc,eq_self]
theorem rplace_con (t n : Int) : Con Try.prog 96 [] [I t, I n] [] (Bo (plF t n)) := by
  unfold plF
  refine con_j b96 rfl ?_
  by_cases h1 : 0 ≤ n
  · by_cases h2 : n ≤ t
    · by_cases h3 : Int.tmod n (256 : Int) = 0
      · sym =>
        simp [Zab,Zad,Zak,Zam,Zaz,Za0,Za1,Za2,Za3,Za4,Za5,Za6,Za7,Za8,Za9,Zba,Zbb,Zbd,Zbf,Zev,Zew,Zex,Zez,Ze0,Ze2,Zfd,Zfe,Zfh,Zfi,Zfj,Zfl,Zfn,Zfu,Zfz,Zf2,Zf4,Zmt,Zmv,Zmw,Zmx,Zmz,Zm2,Zna,Znb,Zos,Zot,Zo6,Zo7,Zo8,eq_self,true_and,Bool.and_true,Bool.true_or,h1,h2,h3]
        tactic =>
        refine endA ?_
        sym =>
        simp [Zpc,eq_self,h1,h2,h3]
      · sym =>
        simp [Zab,Zad,Zak,Zam,Zaz,Za0,Za1,Za2,Za3,Za4,Za5,Za6,Za7,Za9,Zba,Zbb,Zbd,Zbf,Zev,Zew,Zex,Zez,Ze0,Ze2,Zfd,Zfe,Zfh,Zfi,Zfl,Zfn,Zfu,Zfz,Zf2,Zf4,Zmt,Zmv,Zmw,Zmx,Zmz,Zm2,Zna,Znb,Zos,Zot,Zo7,Zo8,Zo9,eq_self,true_and,Bool.true_and,Bool.false_or,h1,h2,h3]
        tactic =>
        refine endA ?_
        sym =>
        simp [Zpc,eq_self,h1,h2,h3]
    · sym =>
      simp [Zab,Zad,Zak,Zam,Zaz,Za0,Za1,Za2,Za3,Za4,Za5,Za6,Za7,Zrh,Za8,Za9,Zba,Zbb,Zbd,Zbf,Zev,Zew,Zex,Zez,Ze0,Ze2,Zfd,Zfe,Zfh,Zfi,Zfk,Zfl,Zfn,Zf2,Zf4,Zmt,Zmv,Zmw,Zmx,Zmz,Zm2,Zna,Znb,Zos,Zot,Zo7,Zo8,Zo9,eq_self,true_and,Bool.and_false,Bool.false_and,h1,h2]
      tactic =>
      refine endA ?_
      sym =>
      simp [Zpc,eq_self,h1,h2]
  · sym =>
    simp [Zab,Zad,Zak,Zam,Zaz,Za0,Za1,Za2,Za3,Za4,Za5,Za6,Za7,Zrh,Za8,Za9,Zba,Zbb,Zbd,Zbf,Zev,Zew,Zex,Zez,Ze0,Ze2,Zfd,Zfe,Zfh,Zfi,Zfk,Zfn,Zf4,Zmt,Zmv,Zmw,Zmx,Zmz,Zm2,Zna,Znb,Zos,Zot,Zo7,Zo9,eq_self,true_and,Bool.false_and,h1]
    tactic =>
    refine endA ?_
    sym =>
    simp [Zpc,eq_self,h1]
/-- What holds of a window of the document. -/
structure RI (t f : Int) (cm ou : List Int) : Prop where
  ht : 0 ≤ t ∧ t ≤ 20000
  hf : 0 ≤ f ∧ f ≤ t
  hc : ∀ a ∈ cm, 0 ≤ a ∧ a < t
  ho : ∀ a ∈ ou, 0 ≤ a ∧ a < t
  lc : cm.length ≤ 1000
  lo : ou.length ≤ 1000
def rbF (t f : Int) (cm : List Int) : Nat → Int → Int
  | 0, a => a
  | k + 1, a => if a < t ∧ cmF f cm a = true then rbF t f cm k (min (a + 256) t) else a
def i43 (t f : Int) (cm ou : List Int) (B : Int) (k : Nat) (q : St) : Prop := ∃ a : Int, f ≤ a ∧ a ≤ t ∧ (t - a).toNat ≤ k ∧ B = rbF t f cm k a ∧ q = ⟨[(1, .pt 0 0), (3, I a)], [(0, ⟨[I t, I f, fJ cm, fJ ou], 1, 0⟩)], 1⟩
theorem rbase_con (t f : Int) (cm ou : List Int) (h : RI t f cm ou) : Con Try.prog 43 [] [rW t f cm ou] [] (I (rbF t f cm t.toNat f)) := by
  obtain ⟨B, hB⟩ : ∃ B, B = rbF t f cm t.toNat f := ⟨_, rfl⟩
  have ht := h.ht
  have hf := h.hf
  have lc := h.lc
  rw [← hB]
  refine con_j b43 rfl ?_
  sym =>
  simp [Zab,Zad,Zag,Zah,Zam,Zaz,Za0,Za1,Za2,Za3,Za4,Za5,Za9,Zba,Zbb,Zbt,Zbv,Zcx,Zev,Zew,Zez,Ze0,Ze2,Ze3,Ze5,Ze8,Zfc,Zfd,Zfe,Zfh,Zgr,Zgs,Zgt,Zgv,Zgw,Zgx,Zio,Zip,Zi6,Zm6,Zm9,Zna,Znb,Zos,Zot,Zo7,eq_self,true_and]
  tactic =>
  refine lpA (i43 t f cm ou B) t.toNat [(0, 0)] _ ⟨f, Int.le_refl _, hf.2, by omega, hB, rfl⟩ (wkA ?_) ?_
  · sym =>
    simp [Za2,Zez,Zfc,Znr,Zpa,Zpc,Zpg,Zpu,Zqb,Zqc,Zqf,Zqg,Zqh,Zqi,Zqk,Zql,Zqm,Zqn,eq_self,and_true]
  clear hB
  rintro k q ⟨a, ha, hat, hk, hB, rfl⟩
  by_cases h1 : a < t
  · sym =>
    simp [Zab,Zad,Za5,Za6,Za7,Za9,Zba,Zbb,Zbf,Zbt,Zbv,Zdc,Zdd,Zde,Zev,Zew,Zex,Zez,Ze0,Ze2,Ze5,Ze8,Zfc,Zfd,Zfe,Zfh,Zfn,Zf1,Zgr,Zgs,Zgt,Zgv,Zgw,Zgx,Zla,Zlb,Zlc,Zld,Zle,Zlf,Zlh,Zlj,Zlk,Zlm,Zm5,Zm6,Zm7,Zm9,Zna,Znb,Zne,Znf,Zng,Zo8,eq_self,true_and,and_true,h1,callable_83]
    tactic =>
    refine cl none (came_con t f cm ou a (by omega)) trivial ?_
    by_cases h2 : cmF f cm a = true
    · obtain ⟨k, rfl⟩ : ∃ k', k = k' + 1 := ⟨k - 1, by omega⟩
      have hw : IntKind.i64.wrap (a + 256) = a + 256 := w64 _ (by omega)
      rw [rbF, if_pos ⟨h1, h2⟩] at hB
      sym =>
      simp [Zaa,Zab,Zae,Zaf,Zag,Zal,Zam,Zap,Zav,Zaz,Za0,Za1,Za2,Za3,Za4,Za5,Za9,Zba,Zbb,Zbd,Zbf,Zbt,Zbv,Zct,Zdi,Zev,Zew,Zez,Ze0,Ze2,Ze5,Ze8,Zfc,Zfd,Zfe,Zfh,Zfi,Zfl,Zfn,Zfq,Zgr,Zgs,Zgt,Zgv,Zgw,Zgx,Zif,Zig,Zik,Zil,Zim,Zjw,Zlz,Zm6,Zm9,Zna,Znb,Znf,Zng,Zo7,eq_self,true_and,h2,hw]
      tactic =>
      unfold NextL; refine ⟨k, [(0, 0)], _, by omega, ⟨min (a + 256) t, by omega, by omega, by omega, hB, rfl⟩, wkA ?_⟩
      sym =>
      simp [Za2,Zez,Zfc,Znr,Zpa,Zpc,Zpg,Zpu,Zqb,Zqc,Zqf,Zqg,Zqh,Zqi,Zqk,Zql,Zqm,Zqn,eq_self,and_true]
    · have e : B = a := by
        rw [hB]
        cases k with
        | zero => rfl
        | succ k => rw [rbF, if_neg (fun hh => h2 hh.2)]
      have h2 : cmF f cm a = false := by simpa using h2
      rw [e]
      sym =>
      simp [Zab,Zad,Zae,Zaf,Zai,Zak,Zam,Zan,Zaq,Zaw,Zaz,Za0,Za1,Za2,Za3,Za4,Za5,Za9,Zba,Zbb,Zbd,Zdi,Zev,Zew,Zez,Ze0,Ze2,Zfd,Zfe,Zfh,Zfi,Zfl,Zjw,Zlz,Zmt,Zmv,Zmw,Zmx,Zmz,Zm2,Zna,Znb,Zo7,eq_self,true_and,h2]
      tactic =>
      refine endA ?_
      sym =>
      simp [Zpc,eq_self]
  · have e : B = a := by
      rw [hB]
      cases k with
      | zero => rfl
      | succ k => rw [rbF, if_neg (fun hh => h1 hh.1)]
    rw [e]
    sym =>
    simp [Zab,Zad,Zae,Zaf,Zai,Zak,Zam,Zan,Zaq,Zaw,Zaz,Za0,Za1,Za2,Za3,Za4,Za5,Za6,Za7,Za8,Za9,Zba,Zbb,Zbd,Zbf,Zbt,Zbv,Zev,Zew,Zex,Zez,Ze0,Ze2,Ze5,Ze8,Zfc,Zfd,Zfe,Zfh,Zfi,Zfk,Zfn,Zf1,Zgr,Zgs,Zgt,Zgv,Zgw,Zgx,Zmt,Zmv,Zmw,Zmx,Zmz,Zm2,Zm6,Zm9,Zna,Znb,Zo7,Zo9,eq_self,true_and,h1]
    tactic =>
    refine endA ?_
    sym =>
    simp [Zpc,eq_self]
end Go.Proofs.Ytbmdahhhgpbchaa.OpA
