import Derived.Test.YtnfgnafphfddhaaCodB
import Derived.Test.YtnfgnafphfddhaaCodD
import Derived.Test.YtnfgnafphfddhaaSpnC
namespace Go.Proofs.Ytnfgnafphfddhaa.SpnD
open Go Go.Sim Go.Sim.E Go.RowKit Go.Proofs Go.Proofs.Ytnfgnafphfddhaa.Cod Go.Proofs.Ytnfgnafphfddhaa.Tab Go.Proofs.Ytnfgnafphfddhaa.SpnP Go.Proofs.Ytnfgnafphfddhaa.SpnA Go.Proofs.Ytnfgnafphfddhaa.SpnB Go.Proofs.Ytnfgnafphfddhaa.SpnC
set_option linter.unusedVariables false
set_option linter.unusedSimpArgs false
set_option maxRecDepth 100000
set_option maxHeartbeats 4000000
theorem rranges_con (l : List Rg) (lo : Int) (hl : l.length < 100000) : Con Try.prog 35 [] [.ag [fR l, I lo]] [] (fR (pcs l 0 4611686018427387904 true)) := by
  refine con_j b35 rfl ?_
  sym =>
  simp [Zab,Zad,Zak,Zam,Zaz,Za0,Za1,Za2,Za3,Za4,Za5,Za9,Zba,Zbb,Zbt,Zcx,Zdc,Zdd,Zde,Zdi,Zev,Zew,Zez,Ze0,Ze2,Ze3,Ze5,Ze8,Zfc,Zfd,Zfe,Zfh,Zgr,Zgs,Zgt,Zio,Zip,Zi6,Zkb,Zla,Zlb,Zlc,Zld,Zle,Zlf,Zlh,Zlj,Zlk,Zlm,Zlz,Zl2,Zmt,Zmv,Zmw,Zmx,Zmz,Zm2,Zm5,Zm7,Zm9,Zna,Znb,Zne,Znf,Zng,Zos,Zot,Zo7,Zpi,eq_self,true_and,and_true,callable_50]
  tactic =>
  refine cl none (pieces_con l lo hl 0 4611686018427387904 true) trivial ?_
  sym =>
  simp [Zab,Zad,Zak,Zam,Zaz,Za0,Za1,Za2,Za3,Za4,Za5,Za9,Zba,Zbb,Zbt,Zcx,Zdc,Zdd,Zde,Zdi,Zev,Zew,Zez,Ze0,Ze2,Ze3,Ze5,Ze8,Zfc,Zfd,Zfe,Zfh,Zgr,Zgs,Zgt,Zio,Zip,Zi6,Zkb,Zla,Zlb,Zlc,Zld,Zle,Zlf,Zlh,Zlj,Zlk,Zlm,Zlz,Zl2,Zmt,Zmv,Zmw,Zmx,Zmz,Zm2,Zm5,Zm7,Zm9,Zna,Znb,Zne,Znf,Zng,Zos,Zot,Zo7,Zpi,eq_self,true_and,and_true]
  tactic =>
  refine endA ?_
  sym =>
  simp [Zab,Zad,Zak,Zam,Zaz,Za0,Za1,Za2,Za3,Za4,Za5,Za9,Zba,Zbb,Zbt,Zcx,Zdc,Zdd,Zde,Zdi,Zev,Zew,Zez,Ze0,Ze2,Ze3,Ze5,Ze8,Zfc,Zfd,Zfe,Zfh,Zgr,Zgs,Zgt,Zio,Zip,Zi6,Zkb,Zla,Zlb,Zlc,Zld,Zle,Zlf,Zlh,Zlj,Zlk,Zlm,Zlz,Zl2,Zmt,Zmv,Zmw,Zmx,Zmz,Zm2,Zm5,Zm7,Zm9,Zna,Znb,Zne,Znf,Zng,Zos,Zot,Zo7,Zpi,eq_self,true_and,and_true]
theorem rcovers_con (l : List Rg) (lo : Int) (hl : l.length < 100000) (a b : Int) : Con Try.prog 47 [] [.ag [fR l, I lo], I a, I b] [] (Bo (decide (pcs l a b false = []))) := by
  refine con_j b47 rfl ?_
  sym =>
  simp [Zab,Zad,Zak,Zam,Zaz,Za0,Za1,Za2,Za3,Za4,Za5,Za9,Zba,Zbb,Zbf,Zbt,Zcn,Zcx,Zdc,Zdd,Zde,Zdi,Zev,Zew,Zez,Ze0,Ze2,Ze3,Ze5,Ze8,Zfc,Zfd,Zfe,Zfh,Zfn,Zfz,Zgr,Zgs,Zgt,Zh6,Zh7,Zio,Zip,Zi6,Zkb,Zla,Zlb,Zlc,Zld,Zle,Zlf,Zlh,Zlj,Zlk,Zlm,Zlz,Zl2,Zmt,Zmv,Zmw,Zmx,Zmz,Zm2,Zm5,Zm7,Zm9,Zna,Znb,Zne,Znf,Zng,Zny,Zos,Zot,Zo7,Zpc,Zqs,Zqu,eq_self,true_and,and_true,and_false,callable_50]
  tactic =>
  refine cl none (pieces_con l lo hl a b false) trivial ?_
  sym =>
  simp [Zab,Zad,Zak,Zam,Zaz,Za0,Za1,Za2,Za3,Za4,Za5,Za9,Zba,Zbb,Zbf,Zbt,Zcn,Zcx,Zdc,Zdd,Zde,Zdi,Zev,Zew,Zez,Ze0,Ze2,Ze3,Ze5,Ze8,Zfc,Zfd,Zfe,Zfh,Zfn,Zfz,Zgr,Zgs,Zgt,Zh6,Zh7,Zio,Zip,Zi6,Zkb,Zla,Zlb,Zlc,Zld,Zle,Zlf,Zlh,Zlj,Zlk,Zlm,Zlz,Zl2,Zmt,Zmv,Zmw,Zmx,Zmz,Zm2,Zm5,Zm7,Zm9,Zna,Znb,Zne,Znf,Zng,Zny,Zos,Zot,Zo7,Zpc,Zqs,Zqu,eq_self,true_and,and_true,and_false]
  tactic =>
  refine endA ?_
  sym =>
  simp [Zab,Zad,Zak,Zam,Zaz,Za0,Za1,Za2,Za3,Za4,Za5,Za9,Zba,Zbb,Zbf,Zbt,Zcn,Zcx,Zdc,Zdd,Zde,Zdi,Zev,Zew,Zez,Ze0,Ze2,Ze3,Ze5,Ze8,Zfc,Zfd,Zfe,Zfh,Zfn,Zfz,Zgr,Zgs,Zgt,Zh6,Zh7,Zio,Zip,Zi6,Zkb,Zla,Zlb,Zlc,Zld,Zle,Zlf,Zlh,Zlj,Zlk,Zlm,Zlz,Zl2,Zmt,Zmv,Zmw,Zmx,Zmz,Zm2,Zm5,Zm7,Zm9,Zna,Znb,Zne,Znf,Zng,Zny,Zos,Zot,Zo7,Zpc,Zqs,Zqu,eq_self,true_and,and_true,and_false]
  tactic =>
  rcases pcs l a b false with _ | ⟨r, p⟩ <;> simp
def rendF (p : List Rg) : Int := match p with | [] => 4611686018427387904 | r :: _ => r.1
theorem rend_con (l : List Rg) (lo : Int) (hl : l.length < 100000) (a : Int) : Con Try.prog 41 [] [.ag [fR l, I lo], I a] [] (I (rendF (pcs l a 4611686018427387904 false))) := by
  refine con_j b41 rfl ?_
  sym =>
  simp [Zaa,Zab,Zad,Zae,Zaf,Zak,Zal,Zam,Zao,Zay,Zaz,Za0,Za1,Za2,Za3,Za4,Za5,Za9,Zba,Zbb,Zbf,Zbt,Zbv,Zb1,Zcn,Zcx,Zdc,Zdd,Zde,Zdi,Zev,Zew,Zez,Ze0,Ze2,Ze3,Ze5,Ze8,Zfc,Zfd,Zfe,Zfh,Zfn,Zfz,Zgr,Zgs,Zgt,Zgu,Zgw,Zgy,Zg4,Zg6,Zho,Zh6,Zh7,Zio,Zip,Zi6,Zkb,Zla,Zlb,Zlc,Zld,Zle,Zlf,Zlh,Zlj,Zlk,Zlm,Zlz,Zl2,Zmt,Zmv,Zmw,Zmx,Zmz,Zm2,Zm5,Zm6,Zm7,Zm9,Zna,Znb,Zne,Znf,Zng,Znx,Zny,Zn5,Zoh,Zoi,Zos,Zot,Zo7,Zo8,Zo9,Zpc,Zqr,eq_self,true_and,and_true,Int.toNat_zero,callable_50]
  tactic =>
  refine cl none (pieces_con l lo hl a 4611686018427387904 false) trivial ?_
  generalize pcs l a 4611686018427387904 false = p
  rcases p with _ | ⟨r, p⟩
  · sym =>
    simp [Zaa,Zab,Zad,Zae,Zaf,Zak,Zal,Zam,Zao,Zay,Zaz,Za0,Za1,Za2,Za3,Za4,Za5,Za9,Zba,Zbb,Zbf,Zbt,Zbv,Zb1,Zcn,Zcx,Zdc,Zdd,Zde,Zdi,Zev,Zew,Zez,Ze0,Ze2,Ze3,Ze5,Ze8,Zfc,Zfd,Zfe,Zfh,Zfn,Zfz,Zgr,Zgs,Zgt,Zgu,Zgw,Zgy,Zg4,Zg6,Zho,Zh6,Zh7,Zio,Zip,Zi6,Zkb,Zla,Zlb,Zlc,Zld,Zle,Zlf,Zlh,Zlj,Zlk,Zlm,Zlz,Zl2,Zmt,Zmv,Zmw,Zmx,Zmz,Zm2,Zm5,Zm6,Zm7,Zm9,Zna,Znb,Zne,Znf,Zng,Znx,Zny,Zn5,Zoh,Zoi,Zos,Zot,Zo7,Zo8,Zo9,Zpc,Zqr,eq_self,true_and,and_true,Int.toNat_zero,List.length_nil,cR_nil]
    tactic =>
    refine endA ?_
    sym =>
    simp [Zaa,Zab,Zad,Zae,Zaf,Zak,Zal,Zam,Zao,Zay,Zaz,Za0,Za1,Za2,Za3,Za4,Za5,Za9,Zba,Zbb,Zbf,Zbt,Zbv,Zb1,Zcn,Zcx,Zdc,Zdd,Zde,Zdi,Zev,Zew,Zez,Ze0,Ze2,Ze3,Ze5,Ze8,Zfc,Zfd,Zfe,Zfh,Zfn,Zfz,Zgr,Zgs,Zgt,Zgu,Zgw,Zgy,Zg4,Zg6,Zho,Zh6,Zh7,Zio,Zip,Zi6,Zkb,Zla,Zlb,Zlc,Zld,Zle,Zlf,Zlh,Zlj,Zlk,Zlm,Zlz,Zl2,Zmt,Zmv,Zmw,Zmx,Zmz,Zm2,Zm5,Zm6,Zm7,Zm9,Zna,Znb,Zne,Znf,Zng,Znx,Zny,Zn5,Zoh,Zoi,Zos,Zot,Zo7,Zo8,Zo9,Zpc,Zqr,eq_self,true_and,and_true,Int.toNat_zero]
    tactic =>
    rfl
  · sym =>
    simp [Zaa,Zab,Zad,Zae,Zaf,Zak,Zal,Zam,Zao,Zay,Zaz,Za0,Za1,Za2,Za3,Za4,Za5,Za9,Zba,Zbb,Zbf,Zbt,Zbv,Zb1,Zcn,Zcx,Zdc,Zdd,Zde,Zdi,Zev,Zew,Zez,Ze0,Ze2,Ze3,Ze5,Ze8,Zfc,Zfd,Zfe,Zfh,Zfn,Zfz,Zgr,Zgs,Zgt,Zgu,Zgw,Zgy,Zg4,Zg6,Zho,Zh6,Zh7,Zio,Zip,Zi6,Zkb,Zla,Zlb,Zlc,Zld,Zle,Zlf,Zlh,Zlj,Zlk,Zlm,Zlz,Zl2,Zmt,Zmv,Zmw,Zmx,Zmz,Zm2,Zm5,Zm6,Zm7,Zm9,Zna,Znb,Zne,Znf,Zng,Znx,Zny,Zn5,Zoh,Zoi,Zos,Zot,Zo7,Zo8,Zo9,Zpc,Zqr,eq_self,true_and,and_true,Int.toNat_zero,List.length_cons,cR_cons,cR_length]
    tactic =>
    and_intros <;> try (first | omega | rfl | assumption | exact cR_okF _ | exact cR_okI _ | exact rs_self (cR_okI _) | (symm; refine List.take_of_length_le ?_; simp <;> omega))
    refine endA ?_
    sym =>
    simp [Zaa,Zab,Zad,Zae,Zaf,Zak,Zal,Zam,Zao,Zay,Zaz,Za0,Za1,Za2,Za3,Za4,Za5,Za9,Zba,Zbb,Zbf,Zbt,Zbv,Zb1,Zcn,Zcx,Zdc,Zdd,Zde,Zdi,Zev,Zew,Zez,Ze0,Ze2,Ze3,Ze5,Ze8,Zfc,Zfd,Zfe,Zfh,Zfn,Zfz,Zgr,Zgs,Zgt,Zgu,Zgw,Zgy,Zg4,Zg6,Zho,Zh6,Zh7,Zio,Zip,Zi6,Zkb,Zla,Zlb,Zlc,Zld,Zle,Zlf,Zlh,Zlj,Zlk,Zlm,Zlz,Zl2,Zmt,Zmv,Zmw,Zmx,Zmz,Zm2,Zm5,Zm6,Zm7,Zm9,Zna,Znb,Zne,Znf,Zng,Znx,Zny,Zn5,Zoh,Zoi,Zos,Zot,Zo7,Zo8,Zo9,Zpc,Zqr,eq_self,true_and,and_true,Int.toNat_zero]
    tactic =>
    rfl
theorem pcF_length (l : List Rg) (to : Int) (hto : to ≤ 4611686018427387904) (th : Bool) : ∀ (k : Nat) (n : Int) (out : List Rg), out.length ≤ cnt l n + (if n < to then 0 else 1) → (pcF l to th k n out).length ≤ 2 * l.length + 1
  | 0, n, out, h => by
    have := cnt_le l n
    show out.length ≤ _
    split at h <;> omega
  | k + 1, n, out, h => by
    have hc := cnt_le l n
    unfold pcF
    by_cases hn : n < to
    · rw [if_pos hn] at h ⊢
      obtain ⟨g1, g2, g3, g4⟩ := nextF_spec n l 4611686018427387904 (by omega)
      generalize nextF n l 4611686018427387904 = nx at *
      have hcount : ∀ o : List Rg, o.length ≤ out.length + 1 → o.length ≤ cnt l (min nx to) + (if min nx to < to then 0 else 1) := by
        intro o ho
        by_cases hx : nx < to
        · rw [Int.min_eq_left (by omega), if_pos hx]
          rcases g3 with g3 | g3 <;> omega
        · rw [Int.min_eq_right (by omega), if_neg (by omega)]
          have := cnt_mono l (show n ≤ to by omega)
          omega
      refine pcF_length l to hto th k _ _ (hcount _ ?_)
      split
      · exact glue_length _ _ _
      · omega
    · rw [if_neg hn]
      split at h <;> omega
theorem pcs_length (l : List Rg) (a b : Int) (th : Bool) : (pcs l a b th).length ≤ 2 * l.length + 1 :=
  pcF_length l _ (by simp only [lim]; omega) th _ _ _ (by simp)
def i37 (l : List Rg) (k : Nat) (s : St) : Prop := ∃ i : Nat, i + k = l.length ∧ s = ⟨[(3, I (sumR (l.take i))), (4, fR l), (5, I (IN i))], [], 0⟩
theorem rsize_con (l : List Rg) (lo : Int) (hl : l.length < 100000) : Con Try.prog 37 [] [.ag [fR l, I lo]] [] (I (sumR (pcs l 0 4611686018427387904 true))) := by
  refine con_j b37 rfl ?_
  sym =>
  simp [Zaa,Zab,Zac,Zad,Zae,Zaf,Zag,Zah,Zai,Zak,Zal,Zam,Zan,Zap,Zaq,Zav,Zaw,Zay,Zaz,Za0,Za1,Za2,Za3,Za4,Za5,Za9,Zba,Zbb,Zbc,Zbf,Zbg,Zbt,Zbu,Zbw,Zb2,Zcn,Zcx,Zc7,Zc8,Zdc,Zdd,Zde,Zdi,Zdo,Zdp,Zdt,Zdu,Zdv,Zdw,Zdx,Zdy,Zd0,Zd1,Zd2,Zeb,Zee,Zev,Zew,Zez,Ze0,Ze2,Ze3,Ze5,Ze8,Zfc,Zfd,Zfe,Zfh,Zfn,Zfq,Zfr,Zf1,Zgr,Zgs,Zgt,Zgu,Zgw,Zgy,Zg4,Zg6,Zho,Zh6,Zh7,Zio,Zip,Zi6,Zkb,Zla,Zlb,Zlc,Zld,Zle,Zlf,Zlh,Zlk,Zlm,Zlz,Zl2,Zmt,Zmv,Zmw,Zmx,Zmz,Zm2,Zm5,Zm6,Zm7,Zm9,Zna,Znb,Zne,Znf,Zng,Zns,Znt,Znw,Zn5,Zos,Zot,Zo7,Zo8,Zo9,Zpc,Zpi,Zqf,Zqg,Zqh,Zqm,Zqr,eq_self,true_and,and_true,Nat.add_zero,callable_35]
  tactic =>
  refine cl none (rranges_con l lo hl) trivial ?_
  have hlen := pcs_length l 0 4611686018427387904 true
  generalize pcs l 0 4611686018427387904 true = p at *
  sym =>
  simp [Zaa,Zab,Zac,Zad,Zae,Zaf,Zag,Zah,Zai,Zak,Zal,Zam,Zan,Zap,Zaq,Zav,Zaw,Zay,Zaz,Za0,Za1,Za2,Za3,Za4,Za5,Za9,Zba,Zbb,Zbc,Zbf,Zbg,Zbt,Zbu,Zbw,Zb2,Zcn,Zcx,Zc7,Zc8,Zdc,Zdd,Zde,Zdi,Zdo,Zdp,Zdt,Zdu,Zdv,Zdw,Zdx,Zdy,Zd0,Zd1,Zd2,Zeb,Zee,Zev,Zew,Zez,Ze0,Ze2,Ze3,Ze5,Ze8,Zfc,Zfd,Zfe,Zfh,Zfn,Zfq,Zfr,Zf1,Zgr,Zgs,Zgt,Zgu,Zgw,Zgy,Zg4,Zg6,Zho,Zh6,Zh7,Zio,Zip,Zi6,Zkb,Zla,Zlb,Zlc,Zld,Zle,Zlf,Zlh,Zlk,Zlm,Zlz,Zl2,Zmt,Zmv,Zmw,Zmx,Zmz,Zm2,Zm5,Zm6,Zm7,Zm9,Zna,Znb,Zne,Znf,Zng,Zns,Znt,Znw,Zn5,Zos,Zot,Zo7,Zo8,Zo9,Zpc,Zpi,Zqf,Zqg,Zqh,Zqm,Zqr,eq_self,true_and,and_true,Nat.add_zero]
  tactic =>
  refine lpA (i37 p) p.length [] _ ⟨0, by omega, rfl⟩ (wkA ?_) ?_
  · sym =>
    simp [Zaa,Zab,Zac,Zad,Zae,Zaf,Zag,Zah,Zai,Zak,Zal,Zam,Zan,Zap,Zaq,Zav,Zaw,Zay,Zaz,Za0,Za1,Za2,Za3,Za4,Za5,Za9,Zba,Zbb,Zbc,Zbf,Zbg,Zbt,Zbu,Zbw,Zb2,Zcn,Zcx,Zc7,Zc8,Zdc,Zdd,Zde,Zdi,Zdo,Zdp,Zdt,Zdu,Zdv,Zdw,Zdx,Zdy,Zd0,Zd1,Zd2,Zeb,Zee,Zev,Zew,Zez,Ze0,Ze2,Ze3,Ze5,Ze8,Zfc,Zfd,Zfe,Zfh,Zfn,Zfq,Zfr,Zf1,Zgr,Zgs,Zgt,Zgu,Zgw,Zgy,Zg4,Zg6,Zho,Zh6,Zh7,Zio,Zip,Zi6,Zkb,Zla,Zlb,Zlc,Zld,Zle,Zlf,Zlh,Zlk,Zlm,Zlz,Zl2,Zmt,Zmv,Zmw,Zmx,Zmz,Zm2,Zm5,Zm6,Zm7,Zm9,Zna,Znb,Zne,Znf,Zng,Zns,Znt,Znw,Zn5,Zos,Zot,Zo7,Zo8,Zo9,Zpc,Zpi,Zqf,Zqg,Zqh,Zqm,Zqr,eq_self,true_and,and_true,Nat.add_zero]
    tactic =>
    rfl
  rintro k s ⟨i, hi, rfl⟩
  by_cases h : i < p.length
  · have hw := w64s i (by omega)
    have h0 := cR_q0 p i h
    have h1 := cR_q1 p i h
    sym =>
    simp [Zaa,Zab,Zac,Zad,Zae,Zaf,Zag,Zah,Zai,Zak,Zal,Zam,Zan,Zap,Zaq,Zav,Zaw,Zay,Zaz,Za0,Za1,Za2,Za3,Za4,Za5,Za9,Zba,Zbb,Zbc,Zbf,Zbg,Zbt,Zbu,Zbw,Zb2,Zcn,Zcx,Zc7,Zc8,Zdc,Zdd,Zde,Zdi,Zdo,Zdp,Zdt,Zdu,Zdv,Zdw,Zdx,Zdy,Zd0,Zd1,Zd2,Zeb,Zee,Zev,Zew,Zez,Ze0,Ze2,Ze3,Ze5,Ze8,Zfc,Zfd,Zfe,Zfh,Zfn,Zfq,Zfr,Zf1,Zgr,Zgs,Zgt,Zgu,Zgw,Zgy,Zg4,Zg6,Zho,Zh6,Zh7,Zio,Zip,Zi6,Zkb,Zla,Zlb,Zlc,Zld,Zle,Zlf,Zlh,Zlk,Zlm,Zlz,Zl2,Zmt,Zmv,Zmw,Zmx,Zmz,Zm2,Zm5,Zm6,Zm7,Zm9,Zna,Znb,Zne,Znf,Zng,Zns,Znt,Znw,Zn5,Zos,Zot,Zo7,Zo8,Zo9,Zpc,Zpi,Zqf,Zqg,Zqh,Zqm,Zqr,eq_self,true_and,and_true,Nat.add_zero,h,h0,h1,hw,cR_length]
    tactic =>
    and_intros <;> try (first | omega | rfl | assumption | exact cR_okF _ | exact cR_okI _ | exact rs_self (cR_okI _) | (symm; refine List.take_of_length_le ?_; simp <;> omega))
    unfold NextL; refine ⟨(k - 1), [], _, by omega, ⟨i + 1, by omega, rfl⟩, wkA ?_⟩
    sym =>
    simp [Zaa,Zab,Zac,Zad,Zae,Zaf,Zag,Zah,Zai,Zak,Zal,Zam,Zan,Zap,Zaq,Zav,Zaw,Zay,Zaz,Za0,Za1,Za2,Za3,Za4,Za5,Za9,Zba,Zbb,Zbc,Zbf,Zbg,Zbt,Zbu,Zbw,Zb2,Zcn,Zcx,Zc7,Zc8,Zdc,Zdd,Zde,Zdi,Zdo,Zdp,Zdt,Zdu,Zdv,Zdw,Zdx,Zdy,Zd0,Zd1,Zd2,Zeb,Zee,Zev,Zew,Zez,Ze0,Ze2,Ze3,Ze5,Ze8,Zfc,Zfd,Zfe,Zfh,Zfn,Zfq,Zfr,Zf1,Zgr,Zgs,Zgt,Zgu,Zgw,Zgy,Zg4,Zg6,Zho,Zh6,Zh7,Zio,Zip,Zi6,Zkb,Zla,Zlb,Zlc,Zld,Zle,Zlf,Zlh,Zlk,Zlm,Zlz,Zl2,Zmt,Zmv,Zmw,Zmx,Zmz,Zm2,Zm5,Zm6,Zm7,Zm9,Zna,Znb,Zne,Znf,Zng,Zns,Znt,Znw,Zn5,Zos,Zot,Zo7,Zo8,Zo9,Zpc,Zpi,Zqf,Zqg,Zqh,Zqm,Zqr,eq_self,true_and,and_true,Nat.add_zero]
    tactic =>
    rw [take_one p i h, sumR_append]
  · sym =>
    simp [Zaa,Zab,Zac,Zad,Zae,Zaf,Zag,Zah,Zai,Zak,Zal,Zam,Zan,Zap,Zaq,Zav,Zaw,Zay,Zaz,Za0,Za1,Za2,Za3,Za4,Za5,Za9,Zba,Zbb,Zbc,Zbf,Zbg,Zbt,Zbu,Zbw,Zb2,Zcn,Zcx,Zc7,Zc8,Zdc,Zdd,Zde,Zdi,Zdo,Zdp,Zdt,Zdu,Zdv,Zdw,Zdx,Zdy,Zd0,Zd1,Zd2,Zeb,Zee,Zev,Zew,Zez,Ze0,Ze2,Ze3,Ze5,Ze8,Zfc,Zfd,Zfe,Zfh,Zfn,Zfq,Zfr,Zf1,Zgr,Zgs,Zgt,Zgu,Zgw,Zgy,Zg4,Zg6,Zho,Zh6,Zh7,Zio,Zip,Zi6,Zkb,Zla,Zlb,Zlc,Zld,Zle,Zlf,Zlh,Zlk,Zlm,Zlz,Zl2,Zmt,Zmv,Zmw,Zmx,Zmz,Zm2,Zm5,Zm6,Zm7,Zm9,Zna,Znb,Zne,Znf,Zng,Zns,Znt,Znw,Zn5,Zos,Zot,Zo7,Zo8,Zo9,Zpc,Zpi,Zqf,Zqg,Zqh,Zqm,Zqr,eq_self,true_and,and_true,Nat.add_zero,h]
    tactic =>
    refine endA ?_
    sym =>
    simp [Zaa,Zab,Zac,Zad,Zae,Zaf,Zag,Zah,Zai,Zak,Zal,Zam,Zan,Zap,Zaq,Zav,Zaw,Zay,Zaz,Za0,Za1,Za2,Za3,Za4,Za5,Za9,Zba,Zbb,Zbc,Zbf,Zbg,Zbt,Zbu,Zbw,Zb2,Zcn,Zcx,Zc7,Zc8,Zdc,Zdd,Zde,Zdi,Zdo,Zdp,Zdt,Zdu,Zdv,Zdw,Zdx,Zdy,Zd0,Zd1,Zd2,Zeb,Zee,Zev,Zew,Zez,Ze0,Ze2,Ze3,Ze5,Ze8,Zfc,Zfd,Zfe,Zfh,Zfn,Zfq,Zfr,Zf1,Zgr,Zgs,Zgt,Zgu,Zgw,Zgy,Zg4,Zg6,Zho,Zh6,Zh7,Zio,Zip,Zi6,Zkb,Zla,Zlb,Zlc,Zld,Zle,Zlf,Zlh,Zlk,Zlm,Zlz,Zl2,Zmt,Zmv,Zmw,Zmx,Zmz,Zm2,Zm5,Zm6,Zm7,Zm9,Zna,Znb,Zne,Znf,Zng,Zns,Znt,Znw,Zn5,Zos,Zot,Zo7,Zo8,Zo9,Zpc,Zpi,Zqf,Zqg,Zqh,Zqm,Zqr,eq_self,true_and,and_true,Nat.add_zero]
    tactic =>
    rw [show p.take i = p from List.take_of_length_le (by omega)]
def i49 (l : List Rg) (n m : Int) (k : Nat) (s : St) : Prop := ∃ i : Nat, ∃ c : List Rg, i + k = l.length ∧ c.length ≤ i ∧ aboveF n m l [] = aboveF n m (l.drop i) c ∧
    s = ⟨[(1, I n), (2, I m), (7, .lv 1 0 c.length), (8, fR l), (9, I (IN i))], [(1, ⟨cR c, 2, 0⟩)], 2⟩
theorem rabove_con (l : List Rg) (lo : Int) (hl : l.length < 100000) (n m : Int) : Con Try.prog 49 [] [.ag [fR l, I lo], I n, I m] [] (fR (aboveF n m (pcs l 0 4611686018427387904 true) [])) := by
  refine con_j b49 rfl ?_
  sym =>
  simp [Zaa,Zab,Zad,Zae,Zaf,Zag,Zah,Zai,Zak,Zal,Zam,Zan,Zap,Zaq,Zav,Zaw,Zay,Zaz,Za0,Za1,Za2,Za3,Za4,Za5,Za6,Za7,Za8,Za9,Zba,Zbb,Zbd,Zbf,Zbt,Zbv,Zb1,Zcn,Zcx,Zcz,Zc5,Zdc,Zdd,Zde,Zdi,Zev,Zew,Zex,Zez,Ze0,Ze2,Ze3,Ze4,Ze5,Ze8,Zfb,Zfc,Zfd,Zfe,Zff,Zfg,Zfh,Zfi,Zfk,Zfl,Zfn,Zfq,Zf1,Zf3,Zgr,Zgs,Zgt,Zgu,Zgv,Zgw,Zgy,Zg4,Zg6,Zhf,Zhg,Zhh,Zho,Zh6,Zh7,Zh9,Zio,Zip,Ziq,Zir,Zix,Ziz,Zi0,Zi2,Zi3,Zi6,Zjj,Zjk,Zjo,Zkb,Zla,Zlb,Zlc,Zld,Zle,Zlf,Zlh,Zlk,Zlm,Zlz,Zl2,Zmt,Zmv,Zmw,Zmx,Zmz,Zm2,Zm5,Zm6,Zm7,Zm9,Zna,Znb,Zne,Znf,Zng,Znh,Znl,Znm,Znn,Zno,Znp,Znr,Zns,Znt,Znw,Zn5,Zos,Zot,Zo7,Zo8,Zo9,Zpc,Zpi,Zpo,Zpr,Zp0,Zp1,Zp2,Zqf,Zqg,Zqh,Zqi,Zqj,Zqk,Zql,Zqm,Zqn,List.length_append,eq_self,true_and,and_true,Nat.zero_add,Nat.add_zero,callable_35]
  tactic =>
  refine cl none (rranges_con l lo hl) trivial ?_
  have hlen := pcs_length l 0 4611686018427387904 true
  generalize pcs l 0 4611686018427387904 true = p at *
  sym =>
  simp [Zaa,Zab,Zad,Zae,Zaf,Zag,Zah,Zai,Zak,Zal,Zam,Zan,Zap,Zaq,Zav,Zaw,Zay,Zaz,Za0,Za1,Za2,Za3,Za4,Za5,Za6,Za7,Za8,Za9,Zba,Zbb,Zbd,Zbf,Zbt,Zbv,Zb1,Zcn,Zcx,Zcz,Zc5,Zdc,Zdd,Zde,Zdi,Zev,Zew,Zex,Zez,Ze0,Ze2,Ze3,Ze4,Ze5,Ze8,Zfb,Zfc,Zfd,Zfe,Zff,Zfg,Zfh,Zfi,Zfk,Zfl,Zfn,Zfq,Zf1,Zf3,Zgr,Zgs,Zgt,Zgu,Zgv,Zgw,Zgy,Zg4,Zg6,Zhf,Zhg,Zhh,Zho,Zh6,Zh7,Zh9,Zio,Zip,Ziq,Zir,Zix,Ziz,Zi0,Zi2,Zi3,Zi6,Zjj,Zjk,Zjo,Zkb,Zla,Zlb,Zlc,Zld,Zle,Zlf,Zlh,Zlk,Zlm,Zlz,Zl2,Zmt,Zmv,Zmw,Zmx,Zmz,Zm2,Zm5,Zm6,Zm7,Zm9,Zna,Znb,Zne,Znf,Zng,Znh,Znl,Znm,Znn,Zno,Znp,Znr,Zns,Znt,Znw,Zn5,Zos,Zot,Zo7,Zo8,Zo9,Zpc,Zpi,Zpo,Zpr,Zp0,Zp1,Zp2,Zqf,Zqg,Zqh,Zqi,Zqj,Zqk,Zql,Zqm,Zqn,List.length_append,eq_self,true_and,and_true,Nat.zero_add,Nat.add_zero]
  tactic =>
  refine lpA (i49 p n m) p.length [] _ ⟨0, [], by omega, by simp, by simp, rfl⟩ (wkA ?_) ?_
  · sym =>
    simp [Zaa,Zab,Zad,Zae,Zaf,Zag,Zah,Zai,Zak,Zal,Zam,Zan,Zap,Zaq,Zav,Zaw,Zay,Zaz,Za0,Za1,Za2,Za3,Za4,Za5,Za6,Za7,Za8,Za9,Zba,Zbb,Zbd,Zbf,Zbt,Zbv,Zb1,Zcn,Zcx,Zcz,Zc5,Zdc,Zdd,Zde,Zdi,Zev,Zew,Zex,Zez,Ze0,Ze2,Ze3,Ze4,Ze5,Ze8,Zfb,Zfc,Zfd,Zfe,Zff,Zfg,Zfh,Zfi,Zfk,Zfl,Zfn,Zfq,Zf1,Zf3,Zgr,Zgs,Zgt,Zgu,Zgv,Zgw,Zgy,Zg4,Zg6,Zhf,Zhg,Zhh,Zho,Zh6,Zh7,Zh9,Zio,Zip,Ziq,Zir,Zix,Ziz,Zi0,Zi2,Zi3,Zi6,Zjj,Zjk,Zjo,Zkb,Zla,Zlb,Zlc,Zld,Zle,Zlf,Zlh,Zlk,Zlm,Zlz,Zl2,Zmt,Zmv,Zmw,Zmx,Zmz,Zm2,Zm5,Zm6,Zm7,Zm9,Zna,Znb,Zne,Znf,Zng,Znh,Znl,Znm,Znn,Zno,Znp,Znr,Zns,Znt,Znw,Zn5,Zos,Zot,Zo7,Zo8,Zo9,Zpc,Zpi,Zpo,Zpr,Zp0,Zp1,Zp2,Zqf,Zqg,Zqh,Zqi,Zqj,Zqk,Zql,Zqm,Zqn,List.length_append,eq_self,true_and,and_true,Nat.zero_add,Nat.add_zero]
    tactic =>
    and_intros <;> try (first | omega | rfl | assumption | exact cR_okF _ | exact cR_okI _ | exact rs_self (cR_okI _) | (symm; refine List.take_of_length_le ?_; simp <;> omega))
  rintro k s ⟨i, c, hi, hc, he, rfl⟩
  by_cases h : i < p.length
  · have hw := w64s i (by omega)
    have h0 := cR_q0 p i h
    have h1 := cR_q1 p i h
    rw [drop_cons p i h, aboveF] at he
    by_cases g1 : n < p[i].1
    · by_cases g2 : IN c.length < m
      · sym =>
        simp [Zaa,Zab,Zad,Zae,Zaf,Zag,Zah,Zai,Zak,Zal,Zam,Zan,Zap,Zaq,Zav,Zaw,Zay,Zaz,Za0,Za1,Za2,Za3,Za4,Za5,Za6,Za7,Za8,Za9,Zba,Zbb,Zbd,Zbf,Zbt,Zbv,Zb1,Zcn,Zcx,Zcz,Zc5,Zdc,Zdd,Zde,Zdi,Zev,Zew,Zex,Zez,Ze0,Ze2,Ze3,Ze4,Ze5,Ze8,Zfb,Zfc,Zfd,Zfe,Zff,Zfg,Zfh,Zfi,Zfk,Zfl,Zfn,Zfq,Zf1,Zf3,Zgr,Zgs,Zgt,Zgu,Zgv,Zgw,Zgy,Zg4,Zg6,Zhf,Zhg,Zhh,Zho,Zh6,Zh7,Zh9,Zio,Zip,Ziq,Zir,Zix,Ziz,Zi0,Zi2,Zi3,Zi6,Zjj,Zjk,Zjo,Zkb,Zla,Zlb,Zlc,Zld,Zle,Zlf,Zlh,Zlk,Zlm,Zlz,Zl2,Zmt,Zmv,Zmw,Zmx,Zmz,Zm2,Zm5,Zm6,Zm7,Zm9,Zna,Znb,Zne,Znf,Zng,Znh,Znl,Znm,Znn,Zno,Znp,Znr,Zns,Znt,Znw,Zn5,Zos,Zot,Zo7,Zo8,Zo9,Zpc,Zpi,Zpo,Zpr,Zp0,Zp1,Zp2,Zqf,Zqg,Zqh,Zqi,Zqj,Zqk,Zql,Zqm,Zqn,List.length_append,eq_self,true_and,and_true,Nat.zero_add,Nat.add_zero,h,h0,h1,hw,g1,g2,cR_length]
        tactic =>
        and_intros <;> try (first | omega | rfl | assumption | exact cR_okF _ | exact cR_okI _ | exact rs_self (cR_okI _) | (symm; refine List.take_of_length_le ?_; simp <;> omega))
        rw [if_pos ⟨g1, g2⟩] at he
        unfold NextL; refine ⟨(k - 1), [(1, 25)], _, by omega, ⟨i + 1, c ++ [p[i]], by omega, by simp; omega, he, rfl⟩, wkA ?_⟩
        sym =>
        simp [Zaa,Zab,Zad,Zae,Zaf,Zag,Zah,Zai,Zak,Zal,Zam,Zan,Zap,Zaq,Zav,Zaw,Zay,Zaz,Za0,Za1,Za2,Za3,Za4,Za5,Za6,Za7,Za8,Za9,Zba,Zbb,Zbd,Zbf,Zbt,Zbv,Zb1,Zcn,Zcx,Zcz,Zc5,Zdc,Zdd,Zde,Zdi,Zev,Zew,Zex,Zez,Ze0,Ze2,Ze3,Ze4,Ze5,Ze8,Zfb,Zfc,Zfd,Zfe,Zff,Zfg,Zfh,Zfi,Zfk,Zfl,Zfn,Zfq,Zf1,Zf3,Zgr,Zgs,Zgt,Zgu,Zgv,Zgw,Zgy,Zg4,Zg6,Zhf,Zhg,Zhh,Zho,Zh6,Zh7,Zh9,Zio,Zip,Ziq,Zir,Zix,Ziz,Zi0,Zi2,Zi3,Zi6,Zjj,Zjk,Zjo,Zkb,Zla,Zlb,Zlc,Zld,Zle,Zlf,Zlh,Zlk,Zlm,Zlz,Zl2,Zmt,Zmv,Zmw,Zmx,Zmz,Zm2,Zm5,Zm6,Zm7,Zm9,Zna,Znb,Zne,Znf,Zng,Znh,Znl,Znm,Znn,Zno,Znp,Znr,Zns,Znt,Znw,Zn5,Zos,Zot,Zo7,Zo8,Zo9,Zpc,Zpi,Zpo,Zpr,Zp0,Zp1,Zp2,Zqf,Zqg,Zqh,Zqi,Zqj,Zqk,Zql,Zqm,Zqn,List.length_append,eq_self,true_and,and_true,Nat.zero_add,Nat.add_zero,cR_append,cR_cons,cR_nil]
        tactic =>
        and_intros <;> try (first | omega | rfl | assumption | exact cR_okF _ | exact cR_okI _ | exact rs_self (cR_okI _) | (symm; refine List.take_of_length_le ?_; simp <;> omega))
        exact rs_self (by simp)
      · sym =>
        simp [Zaa,Zab,Zad,Zae,Zaf,Zag,Zah,Zai,Zak,Zal,Zam,Zan,Zap,Zaq,Zav,Zaw,Zay,Zaz,Za0,Za1,Za2,Za3,Za4,Za5,Za6,Za7,Za8,Za9,Zba,Zbb,Zbd,Zbf,Zbt,Zbv,Zb1,Zcn,Zcx,Zcz,Zc5,Zdc,Zdd,Zde,Zdi,Zev,Zew,Zex,Zez,Ze0,Ze2,Ze3,Ze4,Ze5,Ze8,Zfb,Zfc,Zfd,Zfe,Zff,Zfg,Zfh,Zfi,Zfk,Zfl,Zfn,Zfq,Zf1,Zf3,Zgr,Zgs,Zgt,Zgu,Zgv,Zgw,Zgy,Zg4,Zg6,Zhf,Zhg,Zhh,Zho,Zh6,Zh7,Zh9,Zio,Zip,Ziq,Zir,Zix,Ziz,Zi0,Zi2,Zi3,Zi6,Zjj,Zjk,Zjo,Zkb,Zla,Zlb,Zlc,Zld,Zle,Zlf,Zlh,Zlk,Zlm,Zlz,Zl2,Zmt,Zmv,Zmw,Zmx,Zmz,Zm2,Zm5,Zm6,Zm7,Zm9,Zna,Znb,Zne,Znf,Zng,Znh,Znl,Znm,Znn,Zno,Znp,Znr,Zns,Znt,Znw,Zn5,Zos,Zot,Zo7,Zo8,Zo9,Zpc,Zpi,Zpo,Zpr,Zp0,Zp1,Zp2,Zqf,Zqg,Zqh,Zqi,Zqj,Zqk,Zql,Zqm,Zqn,List.length_append,eq_self,true_and,and_true,Nat.zero_add,Nat.add_zero,h,h0,h1,hw,g1,g2,cR_length]
        tactic =>
        and_intros <;> try (first | omega | rfl | assumption | exact cR_okF _ | exact cR_okI _ | exact rs_self (cR_okI _) | (symm; refine List.take_of_length_le ?_; simp <;> omega))
        rw [if_neg (fun h => g2 h.2)] at he
        unfold NextL; refine ⟨(k - 1), [(1, 1)], _, by omega, ⟨i + 1, c, by omega, by omega, he, rfl⟩, wkA ?_⟩
        sym =>
        simp [Zaa,Zab,Zad,Zae,Zaf,Zag,Zah,Zai,Zak,Zal,Zam,Zan,Zap,Zaq,Zav,Zaw,Zay,Zaz,Za0,Za1,Za2,Za3,Za4,Za5,Za6,Za7,Za8,Za9,Zba,Zbb,Zbd,Zbf,Zbt,Zbv,Zb1,Zcn,Zcx,Zcz,Zc5,Zdc,Zdd,Zde,Zdi,Zev,Zew,Zex,Zez,Ze0,Ze2,Ze3,Ze4,Ze5,Ze8,Zfb,Zfc,Zfd,Zfe,Zff,Zfg,Zfh,Zfi,Zfk,Zfl,Zfn,Zfq,Zf1,Zf3,Zgr,Zgs,Zgt,Zgu,Zgv,Zgw,Zgy,Zg4,Zg6,Zhf,Zhg,Zhh,Zho,Zh6,Zh7,Zh9,Zio,Zip,Ziq,Zir,Zix,Ziz,Zi0,Zi2,Zi3,Zi6,Zjj,Zjk,Zjo,Zkb,Zla,Zlb,Zlc,Zld,Zle,Zlf,Zlh,Zlk,Zlm,Zlz,Zl2,Zmt,Zmv,Zmw,Zmx,Zmz,Zm2,Zm5,Zm6,Zm7,Zm9,Zna,Znb,Zne,Znf,Zng,Znh,Znl,Znm,Znn,Zno,Znp,Znr,Zns,Znt,Znw,Zn5,Zos,Zot,Zo7,Zo8,Zo9,Zpc,Zpi,Zpo,Zpr,Zp0,Zp1,Zp2,Zqf,Zqg,Zqh,Zqi,Zqj,Zqk,Zql,Zqm,Zqn,List.length_append,eq_self,true_and,and_true,Nat.zero_add,Nat.add_zero]
        tactic =>
        and_intros <;> try (first | omega | rfl | assumption | exact cR_okF _ | exact cR_okI _ | exact rs_self (cR_okI _) | (symm; refine List.take_of_length_le ?_; simp <;> omega))
    · sym =>
      simp [Zaa,Zab,Zad,Zae,Zaf,Zag,Zah,Zai,Zak,Zal,Zam,Zan,Zap,Zaq,Zav,Zaw,Zay,Zaz,Za0,Za1,Za2,Za3,Za4,Za5,Za6,Za7,Za8,Za9,Zba,Zbb,Zbd,Zbf,Zbt,Zbv,Zb1,Zcn,Zcx,Zcz,Zc5,Zdc,Zdd,Zde,Zdi,Zev,Zew,Zex,Zez,Ze0,Ze2,Ze3,Ze4,Ze5,Ze8,Zfb,Zfc,Zfd,Zfe,Zff,Zfg,Zfh,Zfi,Zfk,Zfl,Zfn,Zfq,Zf1,Zf3,Zgr,Zgs,Zgt,Zgu,Zgv,Zgw,Zgy,Zg4,Zg6,Zhf,Zhg,Zhh,Zho,Zh6,Zh7,Zh9,Zio,Zip,Ziq,Zir,Zix,Ziz,Zi0,Zi2,Zi3,Zi6,Zjj,Zjk,Zjo,Zkb,Zla,Zlb,Zlc,Zld,Zle,Zlf,Zlh,Zlk,Zlm,Zlz,Zl2,Zmt,Zmv,Zmw,Zmx,Zmz,Zm2,Zm5,Zm6,Zm7,Zm9,Zna,Znb,Zne,Znf,Zng,Znh,Znl,Znm,Znn,Zno,Znp,Znr,Zns,Znt,Znw,Zn5,Zos,Zot,Zo7,Zo8,Zo9,Zpc,Zpi,Zpo,Zpr,Zp0,Zp1,Zp2,Zqf,Zqg,Zqh,Zqi,Zqj,Zqk,Zql,Zqm,Zqn,List.length_append,eq_self,true_and,and_true,Nat.zero_add,Nat.add_zero,h,h0,h1,hw,g1,cR_length]
      tactic =>
      and_intros <;> try (first | omega | rfl | assumption | exact cR_okF _ | exact cR_okI _ | exact rs_self (cR_okI _) | (symm; refine List.take_of_length_le ?_; simp <;> omega))
      rw [if_neg (fun h => g1 h.1)] at he
      unfold NextL; refine ⟨(k - 1), [(1, 1)], _, by omega, ⟨i + 1, c, by omega, by omega, he, rfl⟩, wkA ?_⟩
      sym =>
      simp [Zaa,Zab,Zad,Zae,Zaf,Zag,Zah,Zai,Zak,Zal,Zam,Zan,Zap,Zaq,Zav,Zaw,Zay,Zaz,Za0,Za1,Za2,Za3,Za4,Za5,Za6,Za7,Za8,Za9,Zba,Zbb,Zbd,Zbf,Zbt,Zbv,Zb1,Zcn,Zcx,Zcz,Zc5,Zdc,Zdd,Zde,Zdi,Zev,Zew,Zex,Zez,Ze0,Ze2,Ze3,Ze4,Ze5,Ze8,Zfb,Zfc,Zfd,Zfe,Zff,Zfg,Zfh,Zfi,Zfk,Zfl,Zfn,Zfq,Zf1,Zf3,Zgr,Zgs,Zgt,Zgu,Zgv,Zgw,Zgy,Zg4,Zg6,Zhf,Zhg,Zhh,Zho,Zh6,Zh7,Zh9,Zio,Zip,Ziq,Zir,Zix,Ziz,Zi0,Zi2,Zi3,Zi6,Zjj,Zjk,Zjo,Zkb,Zla,Zlb,Zlc,Zld,Zle,Zlf,Zlh,Zlk,Zlm,Zlz,Zl2,Zmt,Zmv,Zmw,Zmx,Zmz,Zm2,Zm5,Zm6,Zm7,Zm9,Zna,Znb,Zne,Znf,Zng,Znh,Znl,Znm,Znn,Zno,Znp,Znr,Zns,Znt,Znw,Zn5,Zos,Zot,Zo7,Zo8,Zo9,Zpc,Zpi,Zpo,Zpr,Zp0,Zp1,Zp2,Zqf,Zqg,Zqh,Zqi,Zqj,Zqk,Zql,Zqm,Zqn,List.length_append,eq_self,true_and,and_true,Nat.zero_add,Nat.add_zero]
      tactic =>
      and_intros <;> try (first | omega | rfl | assumption | exact cR_okF _ | exact cR_okI _ | exact rs_self (cR_okI _) | (symm; refine List.take_of_length_le ?_; simp <;> omega))
  · rw [drop_all p i h, aboveF] at he
    sym =>
    simp [Zaa,Zab,Zad,Zae,Zaf,Zag,Zah,Zai,Zak,Zal,Zam,Zan,Zap,Zaq,Zav,Zaw,Zay,Zaz,Za0,Za1,Za2,Za3,Za4,Za5,Za6,Za7,Za8,Za9,Zba,Zbb,Zbd,Zbf,Zbt,Zbv,Zb1,Zcn,Zcx,Zcz,Zc5,Zdc,Zdd,Zde,Zdi,Zev,Zew,Zex,Zez,Ze0,Ze2,Ze3,Ze4,Ze5,Ze8,Zfb,Zfc,Zfd,Zfe,Zff,Zfg,Zfh,Zfi,Zfk,Zfl,Zfn,Zfq,Zf1,Zf3,Zgr,Zgs,Zgt,Zgu,Zgv,Zgw,Zgy,Zg4,Zg6,Zhf,Zhg,Zhh,Zho,Zh6,Zh7,Zh9,Zio,Zip,Ziq,Zir,Zix,Ziz,Zi0,Zi2,Zi3,Zi6,Zjj,Zjk,Zjo,Zkb,Zla,Zlb,Zlc,Zld,Zle,Zlf,Zlh,Zlk,Zlm,Zlz,Zl2,Zmt,Zmv,Zmw,Zmx,Zmz,Zm2,Zm5,Zm6,Zm7,Zm9,Zna,Znb,Zne,Znf,Zng,Znh,Znl,Znm,Znn,Zno,Znp,Znr,Zns,Znt,Znw,Zn5,Zos,Zot,Zo7,Zo8,Zo9,Zpc,Zpi,Zpo,Zpr,Zp0,Zp1,Zp2,Zqf,Zqg,Zqh,Zqi,Zqj,Zqk,Zql,Zqm,Zqn,List.length_append,eq_self,true_and,and_true,Nat.zero_add,Nat.add_zero,h]
    tactic =>
    refine endA ?_
    rw [he]
    sym =>
    simp [Zaa,Zab,Zad,Zae,Zaf,Zag,Zah,Zai,Zak,Zal,Zam,Zan,Zap,Zaq,Zav,Zaw,Zay,Zaz,Za0,Za1,Za2,Za3,Za4,Za5,Za6,Za7,Za8,Za9,Zba,Zbb,Zbd,Zbf,Zbt,Zbv,Zb1,Zcn,Zcx,Zcz,Zc5,Zdc,Zdd,Zde,Zdi,Zev,Zew,Zex,Zez,Ze0,Ze2,Ze3,Ze4,Ze5,Ze8,Zfb,Zfc,Zfd,Zfe,Zff,Zfg,Zfh,Zfi,Zfk,Zfl,Zfn,Zfq,Zf1,Zf3,Zgr,Zgs,Zgt,Zgu,Zgv,Zgw,Zgy,Zg4,Zg6,Zhf,Zhg,Zhh,Zho,Zh6,Zh7,Zh9,Zio,Zip,Ziq,Zir,Zix,Ziz,Zi0,Zi2,Zi3,Zi6,Zjj,Zjk,Zjo,Zkb,Zla,Zlb,Zlc,Zld,Zle,Zlf,Zlh,Zlk,Zlm,Zlz,Zl2,Zmt,Zmv,Zmw,Zmx,Zmz,Zm2,Zm5,Zm6,Zm7,Zm9,Zna,Znb,Zne,Znf,Zng,Znh,Znl,Znm,Znn,Zno,Znp,Znr,Zns,Znt,Znw,Zn5,Zos,Zot,Zo7,Zo8,Zo9,Zpc,Zpi,Zpo,Zpr,Zp0,Zp1,Zp2,Zqf,Zqg,Zqh,Zqi,Zqj,Zqk,Zql,Zqm,Zqn,List.length_append,eq_self,true_and,and_true,Nat.zero_add,Nat.add_zero,cR_length]
    tactic =>
    and_intros <;> try (first | omega | rfl | assumption | exact cR_okF _ | exact cR_okI _ | exact rs_self (cR_okI _) | (symm; refine List.take_of_length_le ?_; simp <;> omega))
def i33 (a b : List Rg) (k : Nat) (s : St) : Prop := ∃ i : Nat, i + k = b.length ∧ a.take i = b.take i ∧
      s = ⟨[(0, fR a), (1, fR b), (12, I (IN b.length)), (13, I (IN i))], [], 0⟩
theorem same_con (a b : List Rg) (ha : a.length < 1000000) : Con Try.prog 33 [] [fR a, fR b] [] (Bo (decide (a = b))) := by
  refine con_j b33 rfl ?_
  by_cases hl : a.length = b.length
  · sym =>
    simp [Zaa,Zab,Zac,Zad,Zae,Zaf,Zag,Zah,Zai,Zak,Zal,Zam,Zan,Zao,Zap,Zaq,Zar,Zav,Zaw,Zax,Zay,Zaz,Za0,Za1,Za2,Za3,Za4,Za5,Za9,Zba,Zbb,Zbc,Zbf,Zbi,Zbu,Zb2,Zcn,Zc7,Zc8,Zdo,Zdp,Zdt,Zdu,Zdv,Zdw,Zdx,Zdy,Zd0,Zd1,Zd2,Zd3,Zeb,Zee,Zen,Zer,Zes,Zev,Zew,Zez,Ze0,Ze2,Ze5,Zfd,Zfe,Zfh,Zfn,Zfq,Zf0,Zf1,Zga,Zgc,Zgr,Zgu,Zg4,Zg6,Zho,Zh6,Zh7,Zmt,Zmv,Zmw,Zmx,Zmz,Zm2,Zm5,Zm7,Zna,Znb,Zne,Zns,Znt,Znv,Znw,Zn5,Zok,Zol,Zom,Zor,Zos,Zot,Zo3,Zo4,Zo7,Zo8,Zo9,Zpc,Zpi,Zqf,Zqg,Zqh,Zqm,Zqs,Zqw,eq_self,true_and,and_true,not_false_eq_true,hl]
    tactic =>
    refine lpA (i33 a b) b.length [] _ ⟨0, by omega, by simp, rfl⟩ (wkA ?_) ?_
    · sym =>
      simp [Zaa,Zab,Zac,Zad,Zae,Zaf,Zag,Zah,Zai,Zak,Zal,Zam,Zan,Zao,Zap,Zaq,Zar,Zav,Zaw,Zax,Zay,Zaz,Za0,Za1,Za2,Za3,Za4,Za5,Za9,Zba,Zbb,Zbc,Zbf,Zbi,Zbu,Zb2,Zcn,Zc7,Zc8,Zdo,Zdp,Zdt,Zdu,Zdv,Zdw,Zdx,Zdy,Zd0,Zd1,Zd2,Zd3,Zeb,Zee,Zen,Zer,Zes,Zev,Zew,Zez,Ze0,Ze2,Ze5,Zfd,Zfe,Zfh,Zfn,Zfq,Zf0,Zf1,Zga,Zgc,Zgr,Zgu,Zg4,Zg6,Zho,Zh6,Zh7,Zmt,Zmv,Zmw,Zmx,Zmz,Zm2,Zm5,Zm7,Zna,Znb,Zne,Zns,Znt,Znv,Znw,Zn5,Zok,Zol,Zom,Zor,Zos,Zot,Zo3,Zo4,Zo7,Zo8,Zo9,Zpc,Zpi,Zqf,Zqg,Zqh,Zqm,Zqs,Zqw,eq_self,true_and,and_true,not_false_eq_true,hl]
    rintro k s ⟨i, hi, he, rfl⟩
    by_cases h : i < b.length
    · have hw := w64s i (by omega)
      have h' : i < a.length := by omega
      have h0 := cR_q0 a i h'
      have h1 := cR_q1 a i h'
      have h2 := cR_q0 b i h
      have h3 := cR_q1 b i h
      by_cases g1 : a[i].1 = b[i].1
      · by_cases g2 : a[i].2 = b[i].2
        · sym =>
          simp [Zaa,Zab,Zac,Zad,Zae,Zaf,Zag,Zah,Zai,Zak,Zal,Zam,Zan,Zao,Zap,Zaq,Zar,Zav,Zaw,Zax,Zay,Zaz,Za0,Za1,Za2,Za3,Za4,Za5,Za9,Zba,Zbb,Zbc,Zbf,Zbi,Zbu,Zb2,Zcn,Zc7,Zc8,Zdo,Zdp,Zdt,Zdu,Zdv,Zdw,Zdx,Zdy,Zd0,Zd1,Zd2,Zd3,Zeb,Zee,Zen,Zer,Zes,Zev,Zew,Zez,Ze0,Ze2,Ze5,Zfd,Zfe,Zfh,Zfn,Zfq,Zf0,Zf1,Zga,Zgc,Zgr,Zgu,Zg4,Zg6,Zho,Zh6,Zh7,Zmt,Zmv,Zmw,Zmx,Zmz,Zm2,Zm5,Zm7,Zna,Znb,Zne,Zns,Znt,Znv,Znw,Zn5,Zok,Zol,Zom,Zor,Zos,Zot,Zo3,Zo4,Zo7,Zo8,Zo9,Zpc,Zpi,Zqf,Zqg,Zqh,Zqm,Zqs,Zqw,eq_self,true_and,and_true,not_false_eq_true,h,h',h0,h1,h2,h3,hw,g1,g2,cR_length]
          tactic =>
          and_intros <;> try (first | omega | rfl | assumption | exact cR_okF _ | exact cR_okI _ | exact rs_self (cR_okI _) | (symm; refine List.take_of_length_le ?_; simp <;> omega))
          unfold NextL; refine ⟨(k - 1), [], _, by omega, ⟨i + 1, by omega, by rw [take_one a i h', take_one b i h, he, Prod.ext g1 g2], rfl⟩, wkA ?_⟩
          sym =>
          simp [Zaa,Zab,Zac,Zad,Zae,Zaf,Zag,Zah,Zai,Zak,Zal,Zam,Zan,Zao,Zap,Zaq,Zar,Zav,Zaw,Zax,Zay,Zaz,Za0,Za1,Za2,Za3,Za4,Za5,Za9,Zba,Zbb,Zbc,Zbf,Zbi,Zbu,Zb2,Zcn,Zc7,Zc8,Zdo,Zdp,Zdt,Zdu,Zdv,Zdw,Zdx,Zdy,Zd0,Zd1,Zd2,Zd3,Zeb,Zee,Zen,Zer,Zes,Zev,Zew,Zez,Ze0,Ze2,Ze5,Zfd,Zfe,Zfh,Zfn,Zfq,Zf0,Zf1,Zga,Zgc,Zgr,Zgu,Zg4,Zg6,Zho,Zh6,Zh7,Zmt,Zmv,Zmw,Zmx,Zmz,Zm2,Zm5,Zm7,Zna,Znb,Zne,Zns,Znt,Znv,Znw,Zn5,Zok,Zol,Zom,Zor,Zos,Zot,Zo3,Zo4,Zo7,Zo8,Zo9,Zpc,Zpi,Zqf,Zqg,Zqh,Zqm,Zqs,Zqw,eq_self,true_and,and_true,not_false_eq_true]
        · have hab : ¬ a = b := fun e => by subst e; exact g2 rfl
          sym =>
          simp [Zaa,Zab,Zac,Zad,Zae,Zaf,Zag,Zah,Zai,Zak,Zal,Zam,Zan,Zao,Zap,Zaq,Zar,Zav,Zaw,Zax,Zay,Zaz,Za0,Za1,Za2,Za3,Za4,Za5,Za9,Zba,Zbb,Zbc,Zbf,Zbi,Zbu,Zb2,Zcn,Zc7,Zc8,Zdo,Zdp,Zdt,Zdu,Zdv,Zdw,Zdx,Zdy,Zd0,Zd1,Zd2,Zd3,Zeb,Zee,Zen,Zer,Zes,Zev,Zew,Zez,Ze0,Ze2,Ze5,Zfd,Zfe,Zfh,Zfn,Zfq,Zf0,Zf1,Zga,Zgc,Zgr,Zgu,Zg4,Zg6,Zho,Zh6,Zh7,Zmt,Zmv,Zmw,Zmx,Zmz,Zm2,Zm5,Zm7,Zna,Znb,Zne,Zns,Znt,Znv,Znw,Zn5,Zok,Zol,Zom,Zor,Zos,Zot,Zo3,Zo4,Zo7,Zo8,Zo9,Zpc,Zpi,Zqf,Zqg,Zqh,Zqm,Zqs,Zqw,eq_self,true_and,and_true,not_false_eq_true,h,h',h0,h1,h2,h3,hw,g1,g2,cR_length]
          tactic =>
          and_intros <;> try (first | omega | rfl | assumption | exact cR_okF _ | exact cR_okI _ | exact rs_self (cR_okI _) | (symm; refine List.take_of_length_le ?_; simp <;> omega))
          refine endA ?_
          sym =>
          simp [Zaa,Zab,Zac,Zad,Zae,Zaf,Zag,Zah,Zai,Zak,Zal,Zam,Zan,Zao,Zap,Zaq,Zar,Zav,Zaw,Zax,Zay,Zaz,Za0,Za1,Za2,Za3,Za4,Za5,Za9,Zba,Zbb,Zbc,Zbf,Zbi,Zbu,Zb2,Zcn,Zc7,Zc8,Zdo,Zdp,Zdt,Zdu,Zdv,Zdw,Zdx,Zdy,Zd0,Zd1,Zd2,Zd3,Zeb,Zee,Zen,Zer,Zes,Zev,Zew,Zez,Ze0,Ze2,Ze5,Zfd,Zfe,Zfh,Zfn,Zfq,Zf0,Zf1,Zga,Zgc,Zgr,Zgu,Zg4,Zg6,Zho,Zh6,Zh7,Zmt,Zmv,Zmw,Zmx,Zmz,Zm2,Zm5,Zm7,Zna,Znb,Zne,Zns,Znt,Znv,Znw,Zn5,Zok,Zol,Zom,Zor,Zos,Zot,Zo3,Zo4,Zo7,Zo8,Zo9,Zpc,Zpi,Zqf,Zqg,Zqh,Zqm,Zqs,Zqw,eq_self,true_and,and_true,not_false_eq_true]
          tactic =>
          simp [hab]
      · have hab : ¬ a = b := fun e => by subst e; exact g1 rfl
        sym =>
        simp [Zaa,Zab,Zac,Zad,Zae,Zaf,Zag,Zah,Zai,Zak,Zal,Zam,Zan,Zao,Zap,Zaq,Zar,Zav,Zaw,Zax,Zay,Zaz,Za0,Za1,Za2,Za3,Za4,Za5,Za9,Zba,Zbb,Zbc,Zbf,Zbi,Zbu,Zb2,Zcn,Zc7,Zc8,Zdo,Zdp,Zdt,Zdu,Zdv,Zdw,Zdx,Zdy,Zd0,Zd1,Zd2,Zd3,Zeb,Zee,Zen,Zer,Zes,Zev,Zew,Zez,Ze0,Ze2,Ze5,Zfd,Zfe,Zfh,Zfn,Zfq,Zf0,Zf1,Zga,Zgc,Zgr,Zgu,Zg4,Zg6,Zho,Zh6,Zh7,Zmt,Zmv,Zmw,Zmx,Zmz,Zm2,Zm5,Zm7,Zna,Znb,Zne,Zns,Znt,Znv,Znw,Zn5,Zok,Zol,Zom,Zor,Zos,Zot,Zo3,Zo4,Zo7,Zo8,Zo9,Zpc,Zpi,Zqf,Zqg,Zqh,Zqm,Zqs,Zqw,eq_self,true_and,and_true,not_false_eq_true,h,h',h0,h1,h2,h3,hw,g1,cR_length]
        tactic =>
        and_intros <;> try (first | omega | rfl | assumption | exact cR_okF _ | exact cR_okI _ | exact rs_self (cR_okI _) | (symm; refine List.take_of_length_le ?_; simp <;> omega))
        refine endA ?_
        sym =>
        simp [Zaa,Zab,Zac,Zad,Zae,Zaf,Zag,Zah,Zai,Zak,Zal,Zam,Zan,Zao,Zap,Zaq,Zar,Zav,Zaw,Zax,Zay,Zaz,Za0,Za1,Za2,Za3,Za4,Za5,Za9,Zba,Zbb,Zbc,Zbf,Zbi,Zbu,Zb2,Zcn,Zc7,Zc8,Zdo,Zdp,Zdt,Zdu,Zdv,Zdw,Zdx,Zdy,Zd0,Zd1,Zd2,Zd3,Zeb,Zee,Zen,Zer,Zes,Zev,Zew,Zez,Ze0,Ze2,Ze5,Zfd,Zfe,Zfh,Zfn,Zfq,Zf0,Zf1,Zga,Zgc,Zgr,Zgu,Zg4,Zg6,Zho,Zh6,Zh7,Zmt,Zmv,Zmw,Zmx,Zmz,Zm2,Zm5,Zm7,Zna,Znb,Zne,Zns,Znt,Znv,Znw,Zn5,Zok,Zol,Zom,Zor,Zos,Zot,Zo3,Zo4,Zo7,Zo8,Zo9,Zpc,Zpi,Zqf,Zqg,Zqh,Zqm,Zqs,Zqw,eq_self,true_and,and_true,not_false_eq_true]
        tactic =>
        simp [hab]
    · have hab : a = b := by
        rw [List.take_of_length_le (by omega), List.take_of_length_le (by omega)] at he
        exact he
      subst hab
      sym =>
      simp [Zaa,Zab,Zac,Zad,Zae,Zaf,Zag,Zah,Zai,Zak,Zal,Zam,Zan,Zao,Zap,Zaq,Zar,Zav,Zaw,Zax,Zay,Zaz,Za0,Za1,Za2,Za3,Za4,Za5,Za9,Zba,Zbb,Zbc,Zbf,Zbi,Zbu,Zb2,Zcn,Zc7,Zc8,Zdo,Zdp,Zdt,Zdu,Zdv,Zdw,Zdx,Zdy,Zd0,Zd1,Zd2,Zd3,Zeb,Zee,Zen,Zer,Zes,Zev,Zew,Zez,Ze0,Ze2,Ze5,Zfd,Zfe,Zfh,Zfn,Zfq,Zf0,Zf1,Zga,Zgc,Zgr,Zgu,Zg4,Zg6,Zho,Zh6,Zh7,Zmt,Zmv,Zmw,Zmx,Zmz,Zm2,Zm5,Zm7,Zna,Znb,Zne,Zns,Znt,Znv,Znw,Zn5,Zok,Zol,Zom,Zor,Zos,Zot,Zo3,Zo4,Zo7,Zo8,Zo9,Zpc,Zpi,Zqf,Zqg,Zqh,Zqm,Zqs,Zqw,eq_self,true_and,and_true,not_false_eq_true,h]
      tactic =>
      refine endA ?_
      sym =>
      simp [Zaa,Zab,Zac,Zad,Zae,Zaf,Zag,Zah,Zai,Zak,Zal,Zam,Zan,Zao,Zap,Zaq,Zar,Zav,Zaw,Zax,Zay,Zaz,Za0,Za1,Za2,Za3,Za4,Za5,Za9,Zba,Zbb,Zbc,Zbf,Zbi,Zbu,Zb2,Zcn,Zc7,Zc8,Zdo,Zdp,Zdt,Zdu,Zdv,Zdw,Zdx,Zdy,Zd0,Zd1,Zd2,Zd3,Zeb,Zee,Zen,Zer,Zes,Zev,Zew,Zez,Ze0,Ze2,Ze5,Zfd,Zfe,Zfh,Zfn,Zfq,Zf0,Zf1,Zga,Zgc,Zgr,Zgu,Zg4,Zg6,Zho,Zh6,Zh7,Zmt,Zmv,Zmw,Zmx,Zmz,Zm2,Zm5,Zm7,Zna,Znb,Zne,Zns,Znt,Znv,Znw,Zn5,Zok,Zol,Zom,Zor,Zos,Zot,Zo3,Zo4,Zo7,Zo8,Zo9,Zpc,Zpi,Zqf,Zqg,Zqh,Zqm,Zqs,Zqw,eq_self,true_and,and_true,not_false_eq_true]
  · have hab : ¬ a = b := fun e => hl (by rw [e])
    sym =>
    simp [Zaa,Zab,Zac,Zad,Zae,Zaf,Zag,Zah,Zai,Zak,Zal,Zam,Zan,Zao,Zap,Zaq,Zar,Zav,Zaw,Zax,Zay,Zaz,Za0,Za1,Za2,Za3,Za4,Za5,Za9,Zba,Zbb,Zbc,Zbf,Zbi,Zbu,Zb2,Zcn,Zc7,Zc8,Zdo,Zdp,Zdt,Zdu,Zdv,Zdw,Zdx,Zdy,Zd0,Zd1,Zd2,Zd3,Zeb,Zee,Zen,Zer,Zes,Zev,Zew,Zez,Ze0,Ze2,Ze5,Zfd,Zfe,Zfh,Zfn,Zfq,Zf0,Zf1,Zga,Zgc,Zgr,Zgu,Zg4,Zg6,Zho,Zh6,Zh7,Zmt,Zmv,Zmw,Zmx,Zmz,Zm2,Zm5,Zm7,Zna,Znb,Zne,Zns,Znt,Znv,Znw,Zn5,Zok,Zol,Zom,Zor,Zos,Zot,Zo3,Zo4,Zo7,Zo8,Zo9,Zpc,Zpi,Zqf,Zqg,Zqh,Zqm,Zqs,Zqw,eq_self,true_and,and_true,not_false_eq_true,hl]
    tactic =>
    refine endA ?_
    sym =>
    simp [Zaa,Zab,Zac,Zad,Zae,Zaf,Zag,Zah,Zai,Zak,Zal,Zam,Zan,Zao,Zap,Zaq,Zar,Zav,Zaw,Zax,Zay,Zaz,Za0,Za1,Za2,Za3,Za4,Za5,Za9,Zba,Zbb,Zbc,Zbf,Zbi,Zbu,Zb2,Zcn,Zc7,Zc8,Zdo,Zdp,Zdt,Zdu,Zdv,Zdw,Zdx,Zdy,Zd0,Zd1,Zd2,Zd3,Zeb,Zee,Zen,Zer,Zes,Zev,Zew,Zez,Ze0,Ze2,Ze5,Zfd,Zfe,Zfh,Zfn,Zfq,Zf0,Zf1,Zga,Zgc,Zgr,Zgu,Zg4,Zg6,Zho,Zh6,Zh7,Zmt,Zmv,Zmw,Zmx,Zmz,Zm2,Zm5,Zm7,Zna,Znb,Zne,Zns,Znt,Znv,Znw,Zn5,Zok,Zol,Zom,Zor,Zos,Zot,Zo3,Zo4,Zo7,Zo8,Zo9,Zpc,Zpi,Zqf,Zqg,Zqh,Zqm,Zqs,Zqw,eq_self,true_and,and_true,not_false_eq_true]
    tactic =>
    simp [hab]
end Go.Proofs.Ytnfgnafphfddhaa.SpnD
