import Derived.Test.YtdjjibmjinllnaaDelA
namespace Go.Proofs.Ytdjjibmjinllnaa.DelB
open Go Go.Sim Go.Sim.E Go.RowKit Go.Proofs Go.Proofs.Ytdjjibmjinllnaa.Cod Go.Proofs.Ytdjjibmjinllnaa.Tab Go.Proofs.Ytdjjibmjinllnaa.Bse Go.Proofs.Ytdjjibmjinllnaa.DelA
set_option linter.unusedVariables false
set_option linter.unusedSimpArgs false
set_option maxRecDepth 100000
set_option maxHeartbeats 4000000
def j32 (old fresh : List Int) (at' : Nat) (v : AV) (hp : List (Nat × Ob)) (nx : Nat) (k : Nat) (s : St) : Prop := ∃ i : Nat, i + k = old.length ∧ s = ⟨[(0, fB old), (1, fB fresh), (5, v), (6, I (IN at')), (7, I (IN (bst old (fresh.drop at') i).1)), (8, I (IN (bst old (fresh.drop at') i).2)), (9, I (IN i))], hp, nx⟩
abbrev rC (old fresh : List Int) (at' : Nat) (P : List Pc) : St := ⟨[(0, fB old), (1, fB fresh), (5, .lv 0 0 P.length), (6, I (IN at'))], [(0, ⟨cP P, 3, 0⟩)], 1⟩
abbrev rO (old fresh : List Int) (at' : Nat) (P : List Pc) (q : List Int) : St := ⟨[(0, fB old), (1, fB fresh), (5, .lv 0 0 (P.length + 1)), (6, I (IN at'))], [(0, ⟨cP P ++ [I 0, I 0, .lv 1 0 q.length], 3, 0⟩), (1, ⟨cB q, 1, 0⟩)], 2⟩
def i32 (old fresh : List Int) (R : List Pc) (k : Nat) (s : St) : Prop := ∃ P q at' n, mkR old n P q (fresh.drop at') = R ∧ fresh.length - at' ≤ n ∧ at' ≤ fresh.length ∧ k = fresh.length - at' ∧ clo P ∧ P.length + q.length + (fresh.length - at') ≤ fresh.length ∧ ((q = [] ∨ at' = fresh.length) ∧ s = rC old fresh at' (fin P q) ∨ q ≠ [] ∧ at' < fresh.length ∧ s = rO old fresh at' P q)
theorem rmake_con (old fresh : List Int) (ho : old.length ≤ 1000000) (hf : fresh.length ≤ 1000000) : Con Try.prog 32 [] [fB old, fB fresh] [] (fP (mkF old fresh)) := by
  refine con_j b32 rfl ?_
  sym =>
  simp [Zaa,Zab,Zac,Zad,Zae,Zaf,Zag,Zah,Zai,Zak,Zal,Zam,Zan,Zap,Zaq,Zav,Zaw,Zay,Zaz,Za0,Za1,Za2,Za3,Za4,Za5,Za6,Za7,Za8,Za9,Zba,Zbb,Zbc,Zbd,Zbf,Zbg,Zbt,Zbu,Zbv,Zbw,Zb1,Zb2,Zb9,Zci,Zcn,Zcz,Zc0,Zc4,Zc5,Zc6,Zc7,Zc8,Zc9,Zdf,Zdg,Zdh,Zdj,Zdk,Ztk,Zdo,Zdp,Zdt,Zdu,Zdv,Zdw,Zdx,Zdy,Zdz,Zd0,Zd1,Zd2,Zd5,Zeb,Zee,Zeh,Zek,Zeq,Zet,Zev,Zew,Zex,Zez,Ze0,Ze1,Ze2,Ze3,Ze4,Ze5,Ze8,Zfb,Zfc,Zfd,Zfe,Zff,Zfg,Zfh,Zfi,Zfk,Zfl,Zfn,Zfq,Zfr,Zf1,Zf3,Zf4,Zgr,Zgs,Zgt,Zgu,Zgv,Zgw,Zgx,Zg4,Zg5,Zg6,Zhd,Zhe,Zhf,Zhg,Zhh,Zhm,Zhn,Zho,Zhs,Zht,Zhu,Zh6,Zh7,Zh9,Ziq,Zir,Ziu,Ziv,Ziw,Zix,Ztm,Ztn,Ziy,Ziz,Zi0,Zi2,Zi3,Zi6,Zi7,Zje,Zjg,Zjh,Zji,Zjj,Zjk,Zjl,Zjm,Zjn,Zjo,Zjp,Zjr,Zj3,Zkl,Zla,Zlb,Zle,Zll,Zlz,Zmt,Zmv,Zmw,Zmx,Zmz,Zm2,Zm6,Zna,Znb,Znc,Znd,Zne,Znf,Zng,Znh,Znl,Znm,Znn,Zno,Znp,Znr,Zns,Znt,Znu,Znw,Znx,Zn1,Zn5,Zod,Zof,Zog,Zoh,Zos,Zot,Zou,Zo7,Zo8,Zo9,Zpa,Zpc,Zpi,Zpm,Zpo,Zpr,Zpv,Zpy,Zp0,Zp1,Zp2,Zp3,Zqb,Zqc,Zqf,Zqg,Zqh,Zqi,Zqj,Zqk,Zql,Zqm,Zqn,Zqo,Zqr,List.append_assoc,List.length_append,List.length_drop,eq_self,true_and,and_true,and_false,not_false_eq_true,Nat.zero_add,Nat.mul_one]
  tactic =>
  refine lpA (i32 old fresh (mkF old fresh)) fresh.length [] _ ⟨[], [], 0, fresh.length, rfl, by omega, Nat.zero_le _, by omega, .inl rfl, by simp, .inl ⟨.inl rfl, rfl⟩⟩ (wkA ?_) ?_
  · sym =>
    simp [Zaa,Zab,Zac,Zad,Zae,Zaf,Zag,Zah,Zai,Zak,Zal,Zam,Zan,Zap,Zaq,Zav,Zaw,Zay,Zaz,Za0,Za1,Za2,Za3,Za4,Za5,Za6,Za7,Za8,Za9,Zba,Zbb,Zbc,Zbd,Zbf,Zbg,Zbt,Zbu,Zbv,Zbw,Zb1,Zb2,Zb9,Zci,Zcn,Zcz,Zc0,Zc4,Zc5,Zc6,Zc7,Zc8,Zc9,Zdf,Zdg,Zdh,Zdj,Zdk,Ztk,Zdo,Zdp,Zdt,Zdu,Zdv,Zdw,Zdx,Zdy,Zdz,Zd0,Zd1,Zd2,Zd5,Zeb,Zee,Zeh,Zek,Zeq,Zet,Zev,Zew,Zex,Zez,Ze0,Ze1,Ze2,Ze3,Ze4,Ze5,Ze8,Zfb,Zfc,Zfd,Zfe,Zff,Zfg,Zfh,Zfi,Zfk,Zfl,Zfn,Zfq,Zfr,Zf1,Zf3,Zf4,Zgr,Zgs,Zgt,Zgu,Zgv,Zgw,Zgx,Zg4,Zg5,Zg6,Zhd,Zhe,Zhf,Zhg,Zhh,Zhm,Zhn,Zho,Zhs,Zht,Zhu,Zh6,Zh7,Zh9,Ziq,Zir,Ziu,Ziv,Ziw,Zix,Ztm,Ztn,Ziy,Ziz,Zi0,Zi2,Zi3,Zi6,Zi7,Zje,Zjg,Zjh,Zji,Zjj,Zjk,Zjl,Zjm,Zjn,Zjo,Zjp,Zjr,Zj3,Zkl,Zla,Zlb,Zle,Zll,Zlz,Zmt,Zmv,Zmw,Zmx,Zmz,Zm2,Zm6,Zna,Znb,Znc,Znd,Zne,Znf,Zng,Znh,Znl,Znm,Znn,Zno,Znp,Znr,Zns,Znt,Znu,Znw,Znx,Zn1,Zn5,Zod,Zof,Zog,Zoh,Zos,Zot,Zou,Zo7,Zo8,Zo9,Zpa,Zpc,Zpi,Zpm,Zpo,Zpr,Zpv,Zpy,Zp0,Zp1,Zp2,Zp3,Zqb,Zqc,Zqf,Zqg,Zqh,Zqi,Zqj,Zqk,Zql,Zqm,Zqn,Zqo,Zqr,List.append_assoc,List.length_append,List.length_drop,eq_self,true_and,and_true,and_false,not_false_eq_true,Nat.zero_add,Nat.mul_one]
    tactic =>
    exact ⟨rfl, rfl⟩
  obtain ⟨R, hR⟩ : ∃ R, R = mkF old fresh := ⟨_, rfl⟩
  rw [← hR]
  rintro k s ⟨P, q, at', n, hm, hn, hat, hk, hc, hb, hs⟩
  by_cases hlt : at' < fresh.length
  · obtain ⟨rs, hrs⟩ : ∃ rs, rs = fresh.drop at' := ⟨_, rfl⟩
    have hrl : rs.length = fresh.length - at' := by rw [hrs, List.length_drop]
    have hdr : List.take (fresh.length - at') (List.drop at' (cB fresh)) = cB rs := by
      rw [hrs, cB_drop]; exact List.take_of_length_le (by rw [List.length_drop, cB_length]; exact Nat.le_refl _)
    have hcons : rs = fresh.getD at' 0 :: fresh.drop (at' + 1) := by rw [hrs]; exact drop_stepD fresh at' hlt
    have gx := cB_get fresh at' hlt
    obtain ⟨x, hx⟩ : ∃ x, x = fresh.getD at' 0 := ⟨_, rfl⟩
    rw [← hx] at hcons gx
    obtain ⟨m, rfl⟩ : ∃ m, n = m + 1 := by cases n with | zero => omega | succ n => exact ⟨n, rfl⟩
    rw [← hrs, hcons, mkR, ← hcons] at hm
    have hbl := bst_le old rs old.length
    obtain ⟨b, hbb⟩ : ∃ b, b = bst old rs old.length := ⟨_, rfl⟩
    rw [← hbb] at hm hbl
    have hdd : rs.drop b.2 = fresh.drop (at' + b.2) := by rw [hrs, List.drop_drop]
    have hwA : IntKind.i64.wrap (IN (at' + b.2)) = IN (at' + b.2) := by simp only [IN]; exact w64 _ (by omega)
    have hwa := w64s at' (by omega)
    have hwP : IntKind.i64.wrap (IN (P.length + 1) - (1 : Int)) = IN P.length := w64m _ _ 1 rfl (by omega)
    have hg0 : ∀ Z, (cP P ++ [I 0, I 0, Z]).getD (P.length * 3) .un = I 0 := fun Z => ap_get P _ 0
    have hg1 : ∀ Z, (cP P ++ [I 0, I 0, Z]).getD (P.length * 3 + 1) .un = I 0 := fun Z => ap_get P _ 1
    have hg2 : ∀ Z, (cP P ++ [I 0, I 0, Z]).getD (P.length * 3 + 2) .un = Z := fun Z => ap_get P _ 2
    have hst : ∀ Z W, (cP P ++ [I 0, I 0, Z]).set (P.length * 3 + 2) W = cP P ++ [I 0, I 0, W] := fun Z W => ap_set P _ _ Z W
    have hPl := cP_length P
    have hBf := cB_length fresh
    rcases hs with ⟨hq, rfl⟩ | ⟨hq, _, rfl⟩
    · obtain rfl : q = [] := hq.resolve_right (by omega)
      have hfin : fin P [] = P := rfl
      rw [hfin] at hm ⊢
      simp only [List.length_nil] at hb
      sym =>
      simp [Zaa,Zab,Zac,Zad,Zae,Zaf,Zag,Zah,Zai,Zak,Zal,Zam,Zan,Zap,Zaq,Zav,Zaw,Zay,Zaz,Za0,Za1,Za2,Za3,Za4,Za5,Za6,Za7,Za8,Za9,Zba,Zbb,Zbc,Zbd,Zbf,Zbg,Zbt,Zbu,Zbv,Zbw,Zb1,Zb2,Zb9,Zci,Zcn,Zcz,Zc0,Zc4,Zc5,Zc6,Zc7,Zc8,Zc9,Zdf,Zdg,Zdh,Zdj,Zdk,Ztk,Zdo,Zdp,Zdt,Zdu,Zdv,Zdw,Zdx,Zdy,Zdz,Zd0,Zd1,Zd2,Zd5,Zeb,Zee,Zeh,Zek,Zeq,Zet,Zev,Zew,Zex,Zez,Ze0,Ze1,Ze2,Ze3,Ze4,Ze5,Ze8,Zfb,Zfc,Zfd,Zfe,Zff,Zfg,Zfh,Zfi,Zfk,Zfl,Zfn,Zfq,Zfr,Zf1,Zf3,Zf4,Zgr,Zgs,Zgt,Zgu,Zgv,Zgw,Zgx,Zg4,Zg5,Zg6,Zhd,Zhe,Zhf,Zhg,Zhh,Zhm,Zhn,Zho,Zhs,Zht,Zhu,Zh6,Zh7,Zh9,Ziq,Zir,Ziu,Ziv,Ziw,Zix,Ztm,Ztn,Ziy,Ziz,Zi0,Zi2,Zi3,Zi6,Zi7,Zje,Zjg,Zjh,Zji,Zjj,Zjk,Zjl,Zjm,Zjn,Zjo,Zjp,Zjr,Zj3,Zkl,Zla,Zlb,Zle,Zll,Zlz,Zmt,Zmv,Zmw,Zmx,Zmz,Zm2,Zm6,Zna,Znb,Znc,Znd,Zne,Znf,Zng,Znh,Znl,Znm,Znn,Zno,Znp,Znr,Zns,Znt,Znu,Znw,Znx,Zn1,Zn5,Zod,Zof,Zog,Zoh,Zos,Zot,Zou,Zo7,Zo8,Zo9,Zpa,Zpc,Zpi,Zpm,Zpo,Zpr,Zpv,Zpy,Zp0,Zp1,Zp2,Zp3,Zqb,Zqc,Zqf,Zqg,Zqh,Zqi,Zqj,Zqk,Zql,Zqm,Zqn,Zqo,Zqr,List.append_assoc,List.length_append,List.length_drop,eq_self,true_and,and_true,and_false,not_false_eq_true,Nat.zero_add,Nat.mul_one,hlt]
      tactic =>
      refine lpA (j32 old fresh at' (.lv 0 0 P.length) [(0, ⟨cP P, 3, 0⟩)] 1) old.length [(0, 0)] _ ⟨0, by omega, rfl⟩ (wkA ?_) ?_
      · sym =>
        simp [Zaa,Zab,Zac,Zad,Zae,Zaf,Zag,Zah,Zai,Zak,Zal,Zam,Zan,Zap,Zaq,Zav,Zaw,Zay,Zaz,Za0,Za1,Za2,Za3,Za4,Za5,Za6,Za7,Za8,Za9,Zba,Zbb,Zbc,Zbd,Zbf,Zbg,Zbt,Zbu,Zbv,Zbw,Zb1,Zb2,Zb9,Zci,Zcn,Zcz,Zc0,Zc4,Zc5,Zc6,Zc7,Zc8,Zc9,Zdf,Zdg,Zdh,Zdj,Zdk,Ztk,Zdo,Zdp,Zdt,Zdu,Zdv,Zdw,Zdx,Zdy,Zdz,Zd0,Zd1,Zd2,Zd5,Zeb,Zee,Zeh,Zek,Zeq,Zet,Zev,Zew,Zex,Zez,Ze0,Ze1,Ze2,Ze3,Ze4,Ze5,Ze8,Zfb,Zfc,Zfd,Zfe,Zff,Zfg,Zfh,Zfi,Zfk,Zfl,Zfn,Zfq,Zfr,Zf1,Zf3,Zf4,Zgr,Zgs,Zgt,Zgu,Zgv,Zgw,Zgx,Zg4,Zg5,Zg6,Zhd,Zhe,Zhf,Zhg,Zhh,Zhm,Zhn,Zho,Zhs,Zht,Zhu,Zh6,Zh7,Zh9,Ziq,Zir,Ziu,Ziv,Ziw,Zix,Ztm,Ztn,Ziy,Ziz,Zi0,Zi2,Zi3,Zi6,Zi7,Zje,Zjg,Zjh,Zji,Zjj,Zjk,Zjl,Zjm,Zjn,Zjo,Zjp,Zjr,Zj3,Zkl,Zla,Zlb,Zle,Zll,Zlz,Zmt,Zmv,Zmw,Zmx,Zmz,Zm2,Zm6,Zna,Znb,Znc,Znd,Zne,Znf,Zng,Znh,Znl,Znm,Znn,Zno,Znp,Znr,Zns,Znt,Znu,Znw,Znx,Zn1,Zn5,Zod,Zof,Zog,Zoh,Zos,Zot,Zou,Zo7,Zo8,Zo9,Zpa,Zpc,Zpi,Zpm,Zpo,Zpr,Zpv,Zpy,Zp0,Zp1,Zp2,Zp3,Zqb,Zqc,Zqf,Zqg,Zqh,Zqi,Zqj,Zqk,Zql,Zqm,Zqn,Zqo,Zqr,List.append_assoc,List.length_append,List.length_drop,eq_self,true_and,and_true,and_false,not_false_eq_true,Nat.zero_add,Nat.mul_one]
        tactic =>
        exact ⟨⟨rfl, rfl⟩, rs_self (cP_okI P)⟩
      rintro k2 s ⟨i, hi, rfl⟩
      have hstep : bst old rs (i + 1) = if (bst old rs i).2 < alk (old.drop i) rs then (i, alk (old.drop i) rs) else bst old rs i := rfl
      rw [← hrs]
      obtain ⟨c, hc0⟩ : ∃ c, c = bst old rs i := ⟨_, rfl⟩
      rw [← hc0] at hstep ⊢
      by_cases hio : i < old.length
      · have hw := w64s i (by omega)
        obtain ⟨D, hD⟩ : ∃ D, D = old.drop i := ⟨_, rfl⟩
        have hDl : D.length = old.length - i := by rw [hD, List.length_drop]
        have hdt : List.take (old.length - i) (List.drop i (cB old)) = cB D := by
          rw [hD, cB_drop]; exact List.take_of_length_le (by rw [List.length_drop, cB_length]; exact Nat.le_refl _)
        have hcc := ralike_con D rs (by omega)
        simp only [fB, hDl, hrl] at hcc
        rw [← hD] at hstep
        obtain ⟨n, hn0⟩ : ∃ n, n = alk D rs := ⟨_, rfl⟩
        rw [← hn0] at hcc hstep
        sym =>
        simp [Zaa,Zab,Zac,Zad,Zae,Zaf,Zag,Zah,Zai,Zak,Zal,Zam,Zan,Zap,Zaq,Zav,Zaw,Zay,Zaz,Za0,Za1,Za2,Za3,Za4,Za5,Za6,Za7,Za8,Za9,Zba,Zbb,Zbc,Zbd,Zbf,Zbg,Zbt,Zbu,Zbv,Zbw,Zb1,Zb2,Zb9,Zci,Zcn,Zcz,Zc0,Zc4,Zc5,Zc6,Zc7,Zc8,Zc9,Zdf,Zdg,Zdh,Zdj,Zdk,Ztk,Zdo,Zdp,Zdt,Zdu,Zdv,Zdw,Zdx,Zdy,Zdz,Zd0,Zd1,Zd2,Zd5,Zeb,Zee,Zeh,Zek,Zeq,Zet,Zev,Zew,Zex,Zez,Ze0,Ze1,Ze2,Ze3,Ze4,Ze5,Ze8,Zfb,Zfc,Zfd,Zfe,Zff,Zfg,Zfh,Zfi,Zfk,Zfl,Zfn,Zfq,Zfr,Zf1,Zf3,Zf4,Zgr,Zgs,Zgt,Zgu,Zgv,Zgw,Zgx,Zg4,Zg5,Zg6,Zhd,Zhe,Zhf,Zhg,Zhh,Zhm,Zhn,Zho,Zhs,Zht,Zhu,Zh6,Zh7,Zh9,Ziq,Zir,Ziu,Ziv,Ziw,Zix,Ztm,Ztn,Ziy,Ziz,Zi0,Zi2,Zi3,Zi6,Zi7,Zje,Zjg,Zjh,Zji,Zjj,Zjk,Zjl,Zjm,Zjn,Zjo,Zjp,Zjr,Zj3,Zkl,Zla,Zlb,Zle,Zll,Zlz,Zmt,Zmv,Zmw,Zmx,Zmz,Zm2,Zm6,Zna,Znb,Znc,Znd,Zne,Znf,Zng,Znh,Znl,Znm,Znn,Zno,Znp,Znr,Zns,Znt,Znu,Znw,Znx,Zn1,Zn5,Zod,Zof,Zog,Zoh,Zos,Zot,Zou,Zo7,Zo8,Zo9,Zpa,Zpc,Zpi,Zpm,Zpo,Zpr,Zpv,Zpy,Zp0,Zp1,Zp2,Zp3,Zqb,Zqc,Zqf,Zqg,Zqh,Zqi,Zqj,Zqk,Zql,Zqm,Zqn,Zqo,Zqr,List.append_assoc,List.length_append,List.length_drop,eq_self,true_and,and_true,and_false,not_false_eq_true,Nat.zero_add,Nat.mul_one,hio,hw,hdt,hdr,callable_61]
        tactic =>
        and_intros <;> try (first | omega | rfl | assumption)
        refine cl none (hcc) trivial ?_
        by_cases h2 : c.2 < n
        · rw [if_pos h2] at hstep
          sym =>
          simp [Zaa,Zab,Zac,Zad,Zae,Zaf,Zag,Zah,Zai,Zak,Zal,Zam,Zan,Zap,Zaq,Zav,Zaw,Zay,Zaz,Za0,Za1,Za2,Za3,Za4,Za5,Za6,Za7,Za8,Za9,Zba,Zbb,Zbc,Zbd,Zbf,Zbg,Zbt,Zbu,Zbv,Zbw,Zb1,Zb2,Zb9,Zci,Zcn,Zcz,Zc0,Zc4,Zc5,Zc6,Zc7,Zc8,Zc9,Zdf,Zdg,Zdh,Zdj,Zdk,Ztk,Zdo,Zdp,Zdt,Zdu,Zdv,Zdw,Zdx,Zdy,Zdz,Zd0,Zd1,Zd2,Zd5,Zeb,Zee,Zeh,Zek,Zeq,Zet,Zev,Zew,Zex,Zez,Ze0,Ze1,Ze2,Ze3,Ze4,Ze5,Ze8,Zfb,Zfc,Zfd,Zfe,Zff,Zfg,Zfh,Zfi,Zfk,Zfl,Zfn,Zfq,Zfr,Zf1,Zf3,Zf4,Zgr,Zgs,Zgt,Zgu,Zgv,Zgw,Zgx,Zg4,Zg5,Zg6,Zhd,Zhe,Zhf,Zhg,Zhh,Zhm,Zhn,Zho,Zhs,Zht,Zhu,Zh6,Zh7,Zh9,Ziq,Zir,Ziu,Ziv,Ziw,Zix,Ztm,Ztn,Ziy,Ziz,Zi0,Zi2,Zi3,Zi6,Zi7,Zje,Zjg,Zjh,Zji,Zjj,Zjk,Zjl,Zjm,Zjn,Zjo,Zjp,Zjr,Zj3,Zkl,Zla,Zlb,Zle,Zll,Zlz,Zmt,Zmv,Zmw,Zmx,Zmz,Zm2,Zm6,Zna,Znb,Znc,Znd,Zne,Znf,Zng,Znh,Znl,Znm,Znn,Zno,Znp,Znr,Zns,Znt,Znu,Znw,Znx,Zn1,Zn5,Zod,Zof,Zog,Zoh,Zos,Zot,Zou,Zo7,Zo8,Zo9,Zpa,Zpc,Zpi,Zpm,Zpo,Zpr,Zpv,Zpy,Zp0,Zp1,Zp2,Zp3,Zqb,Zqc,Zqf,Zqg,Zqh,Zqi,Zqj,Zqk,Zql,Zqm,Zqn,Zqo,Zqr,List.append_assoc,List.length_append,List.length_drop,eq_self,true_and,and_true,and_false,not_false_eq_true,Nat.zero_add,Nat.mul_one,h2,hw]
          tactic =>
          unfold NextL; refine ⟨(k2 - 1), [(0, 0)], _, by omega, ⟨i + 1, by omega, rfl⟩, wkA ?_⟩
          rw [← hrs, hstep]
          sym =>
          simp [Zaa,Zab,Zac,Zad,Zae,Zaf,Zag,Zah,Zai,Zak,Zal,Zam,Zan,Zap,Zaq,Zav,Zaw,Zay,Zaz,Za0,Za1,Za2,Za3,Za4,Za5,Za6,Za7,Za8,Za9,Zba,Zbb,Zbc,Zbd,Zbf,Zbg,Zbt,Zbu,Zbv,Zbw,Zb1,Zb2,Zb9,Zci,Zcn,Zcz,Zc0,Zc4,Zc5,Zc6,Zc7,Zc8,Zc9,Zdf,Zdg,Zdh,Zdj,Zdk,Ztk,Zdo,Zdp,Zdt,Zdu,Zdv,Zdw,Zdx,Zdy,Zdz,Zd0,Zd1,Zd2,Zd5,Zeb,Zee,Zeh,Zek,Zeq,Zet,Zev,Zew,Zex,Zez,Ze0,Ze1,Ze2,Ze3,Ze4,Ze5,Ze8,Zfb,Zfc,Zfd,Zfe,Zff,Zfg,Zfh,Zfi,Zfk,Zfl,Zfn,Zfq,Zfr,Zf1,Zf3,Zf4,Zgr,Zgs,Zgt,Zgu,Zgv,Zgw,Zgx,Zg4,Zg5,Zg6,Zhd,Zhe,Zhf,Zhg,Zhh,Zhm,Zhn,Zho,Zhs,Zht,Zhu,Zh6,Zh7,Zh9,Ziq,Zir,Ziu,Ziv,Ziw,Zix,Ztm,Ztn,Ziy,Ziz,Zi0,Zi2,Zi3,Zi6,Zi7,Zje,Zjg,Zjh,Zji,Zjj,Zjk,Zjl,Zjm,Zjn,Zjo,Zjp,Zjr,Zj3,Zkl,Zla,Zlb,Zle,Zll,Zlz,Zmt,Zmv,Zmw,Zmx,Zmz,Zm2,Zm6,Zna,Znb,Znc,Znd,Zne,Znf,Zng,Znh,Znl,Znm,Znn,Zno,Znp,Znr,Zns,Znt,Znu,Znw,Znx,Zn1,Zn5,Zod,Zof,Zog,Zoh,Zos,Zot,Zou,Zo7,Zo8,Zo9,Zpa,Zpc,Zpi,Zpm,Zpo,Zpr,Zpv,Zpy,Zp0,Zp1,Zp2,Zp3,Zqb,Zqc,Zqf,Zqg,Zqh,Zqi,Zqj,Zqk,Zql,Zqm,Zqn,Zqo,Zqr,List.append_assoc,List.length_append,List.length_drop,eq_self,true_and,and_true,and_false,not_false_eq_true,Nat.zero_add,Nat.mul_one]
          tactic =>
          exact rs_self (cP_okI P)
        · rw [if_neg h2] at hstep
          sym =>
          simp [Zaa,Zab,Zac,Zad,Zae,Zaf,Zag,Zah,Zai,Zak,Zal,Zam,Zan,Zap,Zaq,Zav,Zaw,Zay,Zaz,Za0,Za1,Za2,Za3,Za4,Za5,Za6,Za7,Za8,Za9,Zba,Zbb,Zbc,Zbd,Zbf,Zbg,Zbt,Zbu,Zbv,Zbw,Zb1,Zb2,Zb9,Zci,Zcn,Zcz,Zc0,Zc4,Zc5,Zc6,Zc7,Zc8,Zc9,Zdf,Zdg,Zdh,Zdj,Zdk,Ztk,Zdo,Zdp,Zdt,Zdu,Zdv,Zdw,Zdx,Zdy,Zdz,Zd0,Zd1,Zd2,Zd5,Zeb,Zee,Zeh,Zek,Zeq,Zet,Zev,Zew,Zex,Zez,Ze0,Ze1,Ze2,Ze3,Ze4,Ze5,Ze8,Zfb,Zfc,Zfd,Zfe,Zff,Zfg,Zfh,Zfi,Zfk,Zfl,Zfn,Zfq,Zfr,Zf1,Zf3,Zf4,Zgr,Zgs,Zgt,Zgu,Zgv,Zgw,Zgx,Zg4,Zg5,Zg6,Zhd,Zhe,Zhf,Zhg,Zhh,Zhm,Zhn,Zho,Zhs,Zht,Zhu,Zh6,Zh7,Zh9,Ziq,Zir,Ziu,Ziv,Ziw,Zix,Ztm,Ztn,Ziy,Ziz,Zi0,Zi2,Zi3,Zi6,Zi7,Zje,Zjg,Zjh,Zji,Zjj,Zjk,Zjl,Zjm,Zjn,Zjo,Zjp,Zjr,Zj3,Zkl,Zla,Zlb,Zle,Zll,Zlz,Zmt,Zmv,Zmw,Zmx,Zmz,Zm2,Zm6,Zna,Znb,Znc,Znd,Zne,Znf,Zng,Znh,Znl,Znm,Znn,Zno,Znp,Znr,Zns,Znt,Znu,Znw,Znx,Zn1,Zn5,Zod,Zof,Zog,Zoh,Zos,Zot,Zou,Zo7,Zo8,Zo9,Zpa,Zpc,Zpi,Zpm,Zpo,Zpr,Zpv,Zpy,Zp0,Zp1,Zp2,Zp3,Zqb,Zqc,Zqf,Zqg,Zqh,Zqi,Zqj,Zqk,Zql,Zqm,Zqn,Zqo,Zqr,List.append_assoc,List.length_append,List.length_drop,eq_self,true_and,and_true,and_false,not_false_eq_true,Nat.zero_add,Nat.mul_one,h2,hw]
          tactic =>
          unfold NextL; refine ⟨(k2 - 1), [(0, 0)], _, by omega, ⟨i + 1, by omega, rfl⟩, wkA ?_⟩
          rw [← hrs, hstep]
          sym =>
          simp [Zaa,Zab,Zac,Zad,Zae,Zaf,Zag,Zah,Zai,Zak,Zal,Zam,Zan,Zap,Zaq,Zav,Zaw,Zay,Zaz,Za0,Za1,Za2,Za3,Za4,Za5,Za6,Za7,Za8,Za9,Zba,Zbb,Zbc,Zbd,Zbf,Zbg,Zbt,Zbu,Zbv,Zbw,Zb1,Zb2,Zb9,Zci,Zcn,Zcz,Zc0,Zc4,Zc5,Zc6,Zc7,Zc8,Zc9,Zdf,Zdg,Zdh,Zdj,Zdk,Ztk,Zdo,Zdp,Zdt,Zdu,Zdv,Zdw,Zdx,Zdy,Zdz,Zd0,Zd1,Zd2,Zd5,Zeb,Zee,Zeh,Zek,Zeq,Zet,Zev,Zew,Zex,Zez,Ze0,Ze1,Ze2,Ze3,Ze4,Ze5,Ze8,Zfb,Zfc,Zfd,Zfe,Zff,Zfg,Zfh,Zfi,Zfk,Zfl,Zfn,Zfq,Zfr,Zf1,Zf3,Zf4,Zgr,Zgs,Zgt,Zgu,Zgv,Zgw,Zgx,Zg4,Zg5,Zg6,Zhd,Zhe,Zhf,Zhg,Zhh,Zhm,Zhn,Zho,Zhs,Zht,Zhu,Zh6,Zh7,Zh9,Ziq,Zir,Ziu,Ziv,Ziw,Zix,Ztm,Ztn,Ziy,Ziz,Zi0,Zi2,Zi3,Zi6,Zi7,Zje,Zjg,Zjh,Zji,Zjj,Zjk,Zjl,Zjm,Zjn,Zjo,Zjp,Zjr,Zj3,Zkl,Zla,Zlb,Zle,Zll,Zlz,Zmt,Zmv,Zmw,Zmx,Zmz,Zm2,Zm6,Zna,Znb,Znc,Znd,Zne,Znf,Zng,Znh,Znl,Znm,Znn,Zno,Znp,Znr,Zns,Znt,Znu,Znw,Znx,Zn1,Zn5,Zod,Zof,Zog,Zoh,Zos,Zot,Zou,Zo7,Zo8,Zo9,Zpa,Zpc,Zpi,Zpm,Zpo,Zpr,Zpv,Zpy,Zp0,Zp1,Zp2,Zp3,Zqb,Zqc,Zqf,Zqg,Zqh,Zqi,Zqj,Zqk,Zql,Zqm,Zqn,Zqo,Zqr,List.append_assoc,List.length_append,List.length_drop,eq_self,true_and,and_true,and_false,not_false_eq_true,Nat.zero_add,Nat.mul_one]
          tactic =>
          exact rs_self (cP_okI P)
      have ei : i = old.length := by omega
      rw [ei] at hc0
      rw [← hbb] at hc0
      rw [hc0]
      clear hc0 hstep
      sym =>
      simp [Zaa,Zab,Zac,Zad,Zae,Zaf,Zag,Zah,Zai,Zak,Zal,Zam,Zan,Zap,Zaq,Zav,Zaw,Zay,Zaz,Za0,Za1,Za2,Za3,Za4,Za5,Za6,Za7,Za8,Za9,Zba,Zbb,Zbc,Zbd,Zbf,Zbg,Zbt,Zbu,Zbv,Zbw,Zb1,Zb2,Zb9,Zci,Zcn,Zcz,Zc0,Zc4,Zc5,Zc6,Zc7,Zc8,Zc9,Zdf,Zdg,Zdh,Zdj,Zdk,Ztk,Zdo,Zdp,Zdt,Zdu,Zdv,Zdw,Zdx,Zdy,Zdz,Zd0,Zd1,Zd2,Zd5,Zeb,Zee,Zeh,Zek,Zeq,Zet,Zev,Zew,Zex,Zez,Ze0,Ze1,Ze2,Ze3,Ze4,Ze5,Ze8,Zfb,Zfc,Zfd,Zfe,Zff,Zfg,Zfh,Zfi,Zfk,Zfl,Zfn,Zfq,Zfr,Zf1,Zf3,Zf4,Zgr,Zgs,Zgt,Zgu,Zgv,Zgw,Zgx,Zg4,Zg5,Zg6,Zhd,Zhe,Zhf,Zhg,Zhh,Zhm,Zhn,Zho,Zhs,Zht,Zhu,Zh6,Zh7,Zh9,Ziq,Zir,Ziu,Ziv,Ziw,Zix,Ztm,Ztn,Ziy,Ziz,Zi0,Zi2,Zi3,Zi6,Zi7,Zje,Zjg,Zjh,Zji,Zjj,Zjk,Zjl,Zjm,Zjn,Zjo,Zjp,Zjr,Zj3,Zkl,Zla,Zlb,Zle,Zll,Zlz,Zmt,Zmv,Zmw,Zmx,Zmz,Zm2,Zm6,Zna,Znb,Znc,Znd,Zne,Znf,Zng,Znh,Znl,Znm,Znn,Zno,Znp,Znr,Zns,Znt,Znu,Znw,Znx,Zn1,Zn5,Zod,Zof,Zog,Zoh,Zos,Zot,Zou,Zo7,Zo8,Zo9,Zpa,Zpc,Zpi,Zpm,Zpo,Zpr,Zpv,Zpy,Zp0,Zp1,Zp2,Zp3,Zqb,Zqc,Zqf,Zqg,Zqh,Zqi,Zqj,Zqk,Zql,Zqm,Zqn,Zqo,Zqr,List.append_assoc,List.length_append,List.length_drop,eq_self,true_and,and_true,and_false,not_false_eq_true,Nat.zero_add,Nat.mul_one,hio]
      tactic =>
      by_cases h8 : 8 ≤ b.2
      · rw [if_pos h8] at hm
        have h8' : IN b.2 ≥ (8 : Int) := by simp only [IN]; omega
        sym =>
        simp [Zaa,Zab,Zac,Zad,Zae,Zaf,Zag,Zah,Zai,Zak,Zal,Zam,Zan,Zap,Zaq,Zav,Zaw,Zay,Zaz,Za0,Za1,Za2,Za3,Za4,Za5,Za6,Za7,Za8,Za9,Zba,Zbb,Zbc,Zbd,Zbf,Zbg,Zbt,Zbu,Zbv,Zbw,Zb1,Zb2,Zb9,Zci,Zcn,Zcz,Zc0,Zc4,Zc5,Zc6,Zc7,Zc8,Zc9,Zdf,Zdg,Zdh,Zdj,Zdk,Ztk,Zdo,Zdp,Zdt,Zdu,Zdv,Zdw,Zdx,Zdy,Zdz,Zd0,Zd1,Zd2,Zd5,Zeb,Zee,Zeh,Zek,Zeq,Zet,Zev,Zew,Zex,Zez,Ze0,Ze1,Ze2,Ze3,Ze4,Ze5,Ze8,Zfb,Zfc,Zfd,Zfe,Zff,Zfg,Zfh,Zfi,Zfk,Zfl,Zfn,Zfq,Zfr,Zf1,Zf3,Zf4,Zgr,Zgs,Zgt,Zgu,Zgv,Zgw,Zgx,Zg4,Zg5,Zg6,Zhd,Zhe,Zhf,Zhg,Zhh,Zhm,Zhn,Zho,Zhs,Zht,Zhu,Zh6,Zh7,Zh9,Ziq,Zir,Ziu,Ziv,Ziw,Zix,Ztm,Ztn,Ziy,Ziz,Zi0,Zi2,Zi3,Zi6,Zi7,Zje,Zjg,Zjh,Zji,Zjj,Zjk,Zjl,Zjm,Zjn,Zjo,Zjp,Zjr,Zj3,Zkl,Zla,Zlb,Zle,Zll,Zlz,Zmt,Zmv,Zmw,Zmx,Zmz,Zm2,Zm6,Zna,Znb,Znc,Znd,Zne,Znf,Zng,Znh,Znl,Znm,Znn,Zno,Znp,Znr,Zns,Znt,Znu,Znw,Znx,Zn1,Zn5,Zod,Zof,Zog,Zoh,Zos,Zot,Zou,Zo7,Zo8,Zo9,Zpa,Zpc,Zpi,Zpm,Zpo,Zpr,Zpv,Zpy,Zp0,Zp1,Zp2,Zp3,Zqb,Zqc,Zqf,Zqg,Zqh,Zqi,Zqj,Zqk,Zql,Zqm,Zqn,Zqo,Zqr,List.append_assoc,List.length_append,List.length_drop,eq_self,true_and,and_true,and_false,not_false_eq_true,Nat.zero_add,Nat.mul_one,h8',hwA]
        tactic =>
        and_intros <;> try (first | omega | rfl | assumption)
        rw [hdd] at hm
        unfold NextL; refine ⟨(fresh.length - at' - b.2), [(0, 12)], _, by omega, ⟨P ++ [(IN b.1, IN b.2, [])], [], at' + b.2, m, hm, by omega, by omega, by omega, .inr ⟨P, _, _, rfl⟩, by simp; omega, .inl ⟨.inl rfl, rfl⟩⟩, wkA ?_⟩
        have hfin2 : fin (P ++ [(IN b.1, IN b.2, [])]) [] = P ++ [(IN b.1, IN b.2, [])] := rfl
        rw [hfin2]
        sym =>
        simp [Zaa,Zab,Zac,Zad,Zae,Zaf,Zag,Zah,Zai,Zak,Zal,Zam,Zan,Zap,Zaq,Zav,Zaw,Zay,Zaz,Za0,Za1,Za2,Za3,Za4,Za5,Za6,Za7,Za8,Za9,Zba,Zbb,Zbc,Zbd,Zbf,Zbg,Zbt,Zbu,Zbv,Zbw,Zb1,Zb2,Zb9,Zci,Zcn,Zcz,Zc0,Zc4,Zc5,Zc6,Zc7,Zc8,Zc9,Zdf,Zdg,Zdh,Zdj,Zdk,Ztk,Zdo,Zdp,Zdt,Zdu,Zdv,Zdw,Zdx,Zdy,Zdz,Zd0,Zd1,Zd2,Zd5,Zeb,Zee,Zeh,Zek,Zeq,Zet,Zev,Zew,Zex,Zez,Ze0,Ze1,Ze2,Ze3,Ze4,Ze5,Ze8,Zfb,Zfc,Zfd,Zfe,Zff,Zfg,Zfh,Zfi,Zfk,Zfl,Zfn,Zfq,Zfr,Zf1,Zf3,Zf4,Zgr,Zgs,Zgt,Zgu,Zgv,Zgw,Zgx,Zg4,Zg5,Zg6,Zhd,Zhe,Zhf,Zhg,Zhh,Zhm,Zhn,Zho,Zhs,Zht,Zhu,Zh6,Zh7,Zh9,Ziq,Zir,Ziu,Ziv,Ziw,Zix,Ztm,Ztn,Ziy,Ziz,Zi0,Zi2,Zi3,Zi6,Zi7,Zje,Zjg,Zjh,Zji,Zjj,Zjk,Zjl,Zjm,Zjn,Zjo,Zjp,Zjr,Zj3,Zkl,Zla,Zlb,Zle,Zll,Zlz,Zmt,Zmv,Zmw,Zmx,Zmz,Zm2,Zm6,Zna,Znb,Znc,Znd,Zne,Znf,Zng,Znh,Znl,Znm,Znn,Zno,Znp,Znr,Zns,Znt,Znu,Znw,Znx,Zn1,Zn5,Zod,Zof,Zog,Zoh,Zos,Zot,Zou,Zo7,Zo8,Zo9,Zpa,Zpc,Zpi,Zpm,Zpo,Zpr,Zpv,Zpy,Zp0,Zp1,Zp2,Zp3,Zqb,Zqc,Zqf,Zqg,Zqh,Zqi,Zqj,Zqk,Zql,Zqm,Zqn,Zqo,Zqr,List.append_assoc,List.length_append,List.length_drop,eq_self,true_and,and_true,and_false,not_false_eq_true,Nat.zero_add,Nat.mul_one,List.length_append]
        tactic =>
        rw [cP_snoc]
        refine rs_app (rs_self (cP_okI P)) ?_
        show rv1s _ _ _ _ [I (IN b.1), I (IN b.2), .fz 0 []]
        sym =>
        simp [Zaa,Zab,Zac,Zad,Zae,Zaf,Zag,Zah,Zai,Zak,Zal,Zam,Zan,Zap,Zaq,Zav,Zaw,Zay,Zaz,Za0,Za1,Za2,Za3,Za4,Za5,Za6,Za7,Za8,Za9,Zba,Zbb,Zbc,Zbd,Zbf,Zbg,Zbt,Zbu,Zbv,Zbw,Zb1,Zb2,Zb9,Zci,Zcn,Zcz,Zc0,Zc4,Zc5,Zc6,Zc7,Zc8,Zc9,Zdf,Zdg,Zdh,Zdj,Zdk,Ztk,Zdo,Zdp,Zdt,Zdu,Zdv,Zdw,Zdx,Zdy,Zdz,Zd0,Zd1,Zd2,Zd5,Zeb,Zee,Zeh,Zek,Zeq,Zet,Zev,Zew,Zex,Zez,Ze0,Ze1,Ze2,Ze3,Ze4,Ze5,Ze8,Zfb,Zfc,Zfd,Zfe,Zff,Zfg,Zfh,Zfi,Zfk,Zfl,Zfn,Zfq,Zfr,Zf1,Zf3,Zf4,Zgr,Zgs,Zgt,Zgu,Zgv,Zgw,Zgx,Zg4,Zg5,Zg6,Zhd,Zhe,Zhf,Zhg,Zhh,Zhm,Zhn,Zho,Zhs,Zht,Zhu,Zh6,Zh7,Zh9,Ziq,Zir,Ziu,Ziv,Ziw,Zix,Ztm,Ztn,Ziy,Ziz,Zi0,Zi2,Zi3,Zi6,Zi7,Zje,Zjg,Zjh,Zji,Zjj,Zjk,Zjl,Zjm,Zjn,Zjo,Zjp,Zjr,Zj3,Zkl,Zla,Zlb,Zle,Zll,Zlz,Zmt,Zmv,Zmw,Zmx,Zmz,Zm2,Zm6,Zna,Znb,Znc,Znd,Zne,Znf,Zng,Znh,Znl,Znm,Znn,Zno,Znp,Znr,Zns,Znt,Znu,Znw,Znx,Zn1,Zn5,Zod,Zof,Zog,Zoh,Zos,Zot,Zou,Zo7,Zo8,Zo9,Zpa,Zpc,Zpi,Zpm,Zpo,Zpr,Zpv,Zpy,Zp0,Zp1,Zp2,Zp3,Zqb,Zqc,Zqf,Zqg,Zqh,Zqi,Zqj,Zqk,Zql,Zqm,Zqn,Zqo,Zqr,List.append_assoc,List.length_append,List.length_drop,eq_self,true_and,and_true,and_false,not_false_eq_true,Nat.zero_add,Nat.mul_one]
      · rw [if_neg h8] at hm
        have h8' : ¬ IN b.2 ≥ (8 : Int) := by simp only [IN]; omega
        by_cases hz : P.length = 0
        · have hzt : ¬ (0 < P.length) := by omega
          sym =>
          simp [Zaa,Zab,Zac,Zad,Zae,Zaf,Zag,Zah,Zai,Zak,Zal,Zam,Zan,Zap,Zaq,Zav,Zaw,Zay,Zaz,Za0,Za1,Za2,Za3,Za4,Za5,Za6,Za7,Za8,Za9,Zba,Zbb,Zbc,Zbd,Zbf,Zbg,Zbt,Zbu,Zbv,Zbw,Zb1,Zb2,Zb9,Zci,Zcn,Zcz,Zc0,Zc4,Zc5,Zc6,Zc7,Zc8,Zc9,Zdf,Zdg,Zdh,Zdj,Zdk,Ztk,Zdo,Zdp,Zdt,Zdu,Zdv,Zdw,Zdx,Zdy,Zdz,Zd0,Zd1,Zd2,Zd5,Zeb,Zee,Zeh,Zek,Zeq,Zet,Zev,Zew,Zex,Zez,Ze0,Ze1,Ze2,Ze3,Ze4,Ze5,Ze8,Zfb,Zfc,Zfd,Zfe,Zff,Zfg,Zfh,Zfi,Zfk,Zfl,Zfn,Zfq,Zfr,Zf1,Zf3,Zf4,Zgr,Zgs,Zgt,Zgu,Zgv,Zgw,Zgx,Zg4,Zg5,Zg6,Zhd,Zhe,Zhf,Zhg,Zhh,Zhm,Zhn,Zho,Zhs,Zht,Zhu,Zh6,Zh7,Zh9,Ziq,Zir,Ziu,Ziv,Ziw,Zix,Ztm,Ztn,Ziy,Ziz,Zi0,Zi2,Zi3,Zi6,Zi7,Zje,Zjg,Zjh,Zji,Zjj,Zjk,Zjl,Zjm,Zjn,Zjo,Zjp,Zjr,Zj3,Zkl,Zla,Zlb,Zle,Zll,Zlz,Zmt,Zmv,Zmw,Zmx,Zmz,Zm2,Zm6,Zna,Znb,Znc,Znd,Zne,Znf,Zng,Znh,Znl,Znm,Znn,Zno,Znp,Znr,Zns,Znt,Znu,Znw,Znx,Zn1,Zn5,Zod,Zof,Zog,Zoh,Zos,Zot,Zou,Zo7,Zo8,Zo9,Zpa,Zpc,Zpi,Zpm,Zpo,Zpr,Zpv,Zpy,Zp0,Zp1,Zp2,Zp3,Zqb,Zqc,Zqf,Zqg,Zqh,Zqi,Zqj,Zqk,Zql,Zqm,Zqn,Zqo,Zqr,List.append_assoc,List.length_append,List.length_drop,eq_self,true_and,and_true,and_false,not_false_eq_true,Nat.zero_add,Nat.mul_one,h8',hzt,hwa,gx,hlt]
          tactic =>
          and_intros <;> try (first | omega | rfl | assumption)
          by_cases he : at' + 1 = fresh.length
          · unfold NextL; refine ⟨0, [(0, 30)], _, by omega, ⟨P, [x], at' + 1, m, hm, by omega, by omega, by omega, hc, by simp only [List.length_append, List.length_cons, List.length_nil] at hb ⊢; omega, .inl ⟨.inr he, rfl⟩⟩, wkA ?_⟩
            have hfin2 : fin P ([x]) = P ++ [(0, 0, [x])] := by rw [fin, if_neg (by simp)]
            rw [hfin2]
            sym =>
            simp [Zaa,Zab,Zac,Zad,Zae,Zaf,Zag,Zah,Zai,Zak,Zal,Zam,Zan,Zap,Zaq,Zav,Zaw,Zay,Zaz,Za0,Za1,Za2,Za3,Za4,Za5,Za6,Za7,Za8,Za9,Zba,Zbb,Zbc,Zbd,Zbf,Zbg,Zbt,Zbu,Zbv,Zbw,Zb1,Zb2,Zb9,Zci,Zcn,Zcz,Zc0,Zc4,Zc5,Zc6,Zc7,Zc8,Zc9,Zdf,Zdg,Zdh,Zdj,Zdk,Ztk,Zdo,Zdp,Zdt,Zdu,Zdv,Zdw,Zdx,Zdy,Zdz,Zd0,Zd1,Zd2,Zd5,Zeb,Zee,Zeh,Zek,Zeq,Zet,Zev,Zew,Zex,Zez,Ze0,Ze1,Ze2,Ze3,Ze4,Ze5,Ze8,Zfb,Zfc,Zfd,Zfe,Zff,Zfg,Zfh,Zfi,Zfk,Zfl,Zfn,Zfq,Zfr,Zf1,Zf3,Zf4,Zgr,Zgs,Zgt,Zgu,Zgv,Zgw,Zgx,Zg4,Zg5,Zg6,Zhd,Zhe,Zhf,Zhg,Zhh,Zhm,Zhn,Zho,Zhs,Zht,Zhu,Zh6,Zh7,Zh9,Ziq,Zir,Ziu,Ziv,Ziw,Zix,Ztm,Ztn,Ziy,Ziz,Zi0,Zi2,Zi3,Zi6,Zi7,Zje,Zjg,Zjh,Zji,Zjj,Zjk,Zjl,Zjm,Zjn,Zjo,Zjp,Zjr,Zj3,Zkl,Zla,Zlb,Zle,Zll,Zlz,Zmt,Zmv,Zmw,Zmx,Zmz,Zm2,Zm6,Zna,Znb,Znc,Znd,Zne,Znf,Zng,Znh,Znl,Znm,Znn,Zno,Znp,Znr,Zns,Znt,Znu,Znw,Znx,Zn1,Zn5,Zod,Zof,Zog,Zoh,Zos,Zot,Zou,Zo7,Zo8,Zo9,Zpa,Zpc,Zpi,Zpm,Zpo,Zpr,Zpv,Zpy,Zp0,Zp1,Zp2,Zp3,Zqb,Zqc,Zqf,Zqg,Zqh,Zqi,Zqj,Zqk,Zql,Zqm,Zqn,Zqo,Zqr,List.append_assoc,List.length_append,List.length_drop,eq_self,true_and,and_true,and_false,not_false_eq_true,Nat.zero_add,Nat.mul_one,List.length_append]
            tactic =>
            rw [cP_append]
            refine rs_app (rs_self (cP_okI P)) ?_
            show rv1s _ _ _ _ [I 0, I 0, fB ([x])]
            sym =>
            simp [Zaa,Zab,Zac,Zad,Zae,Zaf,Zag,Zah,Zai,Zak,Zal,Zam,Zan,Zap,Zaq,Zav,Zaw,Zay,Zaz,Za0,Za1,Za2,Za3,Za4,Za5,Za6,Za7,Za8,Za9,Zba,Zbb,Zbc,Zbd,Zbf,Zbg,Zbt,Zbu,Zbv,Zbw,Zb1,Zb2,Zb9,Zci,Zcn,Zcz,Zc0,Zc4,Zc5,Zc6,Zc7,Zc8,Zc9,Zdf,Zdg,Zdh,Zdj,Zdk,Ztk,Zdo,Zdp,Zdt,Zdu,Zdv,Zdw,Zdx,Zdy,Zdz,Zd0,Zd1,Zd2,Zd5,Zeb,Zee,Zeh,Zek,Zeq,Zet,Zev,Zew,Zex,Zez,Ze0,Ze1,Ze2,Ze3,Ze4,Ze5,Ze8,Zfb,Zfc,Zfd,Zfe,Zff,Zfg,Zfh,Zfi,Zfk,Zfl,Zfn,Zfq,Zfr,Zf1,Zf3,Zf4,Zgr,Zgs,Zgt,Zgu,Zgv,Zgw,Zgx,Zg4,Zg5,Zg6,Zhd,Zhe,Zhf,Zhg,Zhh,Zhm,Zhn,Zho,Zhs,Zht,Zhu,Zh6,Zh7,Zh9,Ziq,Zir,Ziu,Ziv,Ziw,Zix,Ztm,Ztn,Ziy,Ziz,Zi0,Zi2,Zi3,Zi6,Zi7,Zje,Zjg,Zjh,Zji,Zjj,Zjk,Zjl,Zjm,Zjn,Zjo,Zjp,Zjr,Zj3,Zkl,Zla,Zlb,Zle,Zll,Zlz,Zmt,Zmv,Zmw,Zmx,Zmz,Zm2,Zm6,Zna,Znb,Znc,Znd,Zne,Znf,Zng,Znh,Znl,Znm,Znn,Zno,Znp,Znr,Zns,Znt,Znu,Znw,Znx,Zn1,Zn5,Zod,Zof,Zog,Zoh,Zos,Zot,Zou,Zo7,Zo8,Zo9,Zpa,Zpc,Zpi,Zpm,Zpo,Zpr,Zpv,Zpy,Zp0,Zp1,Zp2,Zp3,Zqb,Zqc,Zqf,Zqg,Zqh,Zqi,Zqj,Zqk,Zql,Zqm,Zqn,Zqo,Zqr,List.append_assoc,List.length_append,List.length_drop,eq_self,true_and,and_true,and_false,not_false_eq_true,Nat.zero_add,Nat.mul_one,List.length_append]
            tactic =>
            exact rfl
          · unfold NextL
            refine ⟨fresh.length - (at' + 1), [(0, 30), (1, 27)], _, by omega, ⟨P, [x], at' + 1, m, hm, by omega, by omega, rfl, hc, by simp only [List.length_append, List.length_cons, List.length_nil] at hb ⊢; omega, .inr ⟨by simp, by omega, rfl⟩⟩, wkA ?_⟩
            sym =>
            simp [Zaa,Zab,Zac,Zad,Zae,Zaf,Zag,Zah,Zai,Zak,Zal,Zam,Zan,Zap,Zaq,Zav,Zaw,Zay,Zaz,Za0,Za1,Za2,Za3,Za4,Za5,Za6,Za7,Za8,Za9,Zba,Zbb,Zbc,Zbd,Zbf,Zbg,Zbt,Zbu,Zbv,Zbw,Zb1,Zb2,Zb9,Zci,Zcn,Zcz,Zc0,Zc4,Zc5,Zc6,Zc7,Zc8,Zc9,Zdf,Zdg,Zdh,Zdj,Zdk,Ztk,Zdo,Zdp,Zdt,Zdu,Zdv,Zdw,Zdx,Zdy,Zdz,Zd0,Zd1,Zd2,Zd5,Zeb,Zee,Zeh,Zek,Zeq,Zet,Zev,Zew,Zex,Zez,Ze0,Ze1,Ze2,Ze3,Ze4,Ze5,Ze8,Zfb,Zfc,Zfd,Zfe,Zff,Zfg,Zfh,Zfi,Zfk,Zfl,Zfn,Zfq,Zfr,Zf1,Zf3,Zf4,Zgr,Zgs,Zgt,Zgu,Zgv,Zgw,Zgx,Zg4,Zg5,Zg6,Zhd,Zhe,Zhf,Zhg,Zhh,Zhm,Zhn,Zho,Zhs,Zht,Zhu,Zh6,Zh7,Zh9,Ziq,Zir,Ziu,Ziv,Ziw,Zix,Ztm,Ztn,Ziy,Ziz,Zi0,Zi2,Zi3,Zi6,Zi7,Zje,Zjg,Zjh,Zji,Zjj,Zjk,Zjl,Zjm,Zjn,Zjo,Zjp,Zjr,Zj3,Zkl,Zla,Zlb,Zle,Zll,Zlz,Zmt,Zmv,Zmw,Zmx,Zmz,Zm2,Zm6,Zna,Znb,Znc,Znd,Zne,Znf,Zng,Znh,Znl,Znm,Znn,Zno,Znp,Znr,Zns,Znt,Znu,Znw,Znx,Zn1,Zn5,Zod,Zof,Zog,Zoh,Zos,Zot,Zou,Zo7,Zo8,Zo9,Zpa,Zpc,Zpi,Zpm,Zpo,Zpr,Zpv,Zpy,Zp0,Zp1,Zp2,Zp3,Zqb,Zqc,Zqf,Zqg,Zqh,Zqi,Zqj,Zqk,Zql,Zqm,Zqn,Zqo,Zqr,List.append_assoc,List.length_append,List.length_drop,eq_self,true_and,and_true,and_false,not_false_eq_true,Nat.zero_add,Nat.mul_one,List.length_append]
            tactic =>
            refine ⟨rs_app (rs_self (cP_okI P)) ?_, ?_⟩
            · sym =>
              simp [Zaa,Zab,Zac,Zad,Zae,Zaf,Zag,Zah,Zai,Zak,Zal,Zam,Zan,Zap,Zaq,Zav,Zaw,Zay,Zaz,Za0,Za1,Za2,Za3,Za4,Za5,Za6,Za7,Za8,Za9,Zba,Zbb,Zbc,Zbd,Zbf,Zbg,Zbt,Zbu,Zbv,Zbw,Zb1,Zb2,Zb9,Zci,Zcn,Zcz,Zc0,Zc4,Zc5,Zc6,Zc7,Zc8,Zc9,Zdf,Zdg,Zdh,Zdj,Zdk,Ztk,Zdo,Zdp,Zdt,Zdu,Zdv,Zdw,Zdx,Zdy,Zdz,Zd0,Zd1,Zd2,Zd5,Zeb,Zee,Zeh,Zek,Zeq,Zet,Zev,Zew,Zex,Zez,Ze0,Ze1,Ze2,Ze3,Ze4,Ze5,Ze8,Zfb,Zfc,Zfd,Zfe,Zff,Zfg,Zfh,Zfi,Zfk,Zfl,Zfn,Zfq,Zfr,Zf1,Zf3,Zf4,Zgr,Zgs,Zgt,Zgu,Zgv,Zgw,Zgx,Zg4,Zg5,Zg6,Zhd,Zhe,Zhf,Zhg,Zhh,Zhm,Zhn,Zho,Zhs,Zht,Zhu,Zh6,Zh7,Zh9,Ziq,Zir,Ziu,Ziv,Ziw,Zix,Ztm,Ztn,Ziy,Ziz,Zi0,Zi2,Zi3,Zi6,Zi7,Zje,Zjg,Zjh,Zji,Zjj,Zjk,Zjl,Zjm,Zjn,Zjo,Zjp,Zjr,Zj3,Zkl,Zla,Zlb,Zle,Zll,Zlz,Zmt,Zmv,Zmw,Zmx,Zmz,Zm2,Zm6,Zna,Znb,Znc,Znd,Zne,Znf,Zng,Znh,Znl,Znm,Znn,Zno,Znp,Znr,Zns,Znt,Znu,Znw,Znx,Zn1,Zn5,Zod,Zof,Zog,Zoh,Zos,Zot,Zou,Zo7,Zo8,Zo9,Zpa,Zpc,Zpi,Zpm,Zpo,Zpr,Zpv,Zpy,Zp0,Zp1,Zp2,Zp3,Zqb,Zqc,Zqf,Zqg,Zqh,Zqi,Zqj,Zqk,Zql,Zqm,Zqn,Zqo,Zqr,List.append_assoc,List.length_append,List.length_drop,eq_self,true_and,and_true,and_false,not_false_eq_true,Nat.zero_add,Nat.mul_one,List.length_append]
            · exact cB_rs _ _ _ _ _ rfl
        · obtain ⟨a', b', ga, gb, gc⟩ := clo_last hc hz
          have hwP1 : IntKind.i64.wrap (IN P.length - (1 : Int)) = IN (P.length - 1) := w64m _ _ 1 (by omega) (by omega)
          have hzt : 0 < P.length := by omega
          sym =>
          simp [Zaa,Zab,Zac,Zad,Zae,Zaf,Zag,Zah,Zai,Zak,Zal,Zam,Zan,Zap,Zaq,Zav,Zaw,Zay,Zaz,Za0,Za1,Za2,Za3,Za4,Za5,Za6,Za7,Za8,Za9,Zba,Zbb,Zbc,Zbd,Zbf,Zbg,Zbt,Zbu,Zbv,Zbw,Zb1,Zb2,Zb9,Zci,Zcn,Zcz,Zc0,Zc4,Zc5,Zc6,Zc7,Zc8,Zc9,Zdf,Zdg,Zdh,Zdj,Zdk,Ztk,Zdo,Zdp,Zdt,Zdu,Zdv,Zdw,Zdx,Zdy,Zdz,Zd0,Zd1,Zd2,Zd5,Zeb,Zee,Zeh,Zek,Zeq,Zet,Zev,Zew,Zex,Zez,Ze0,Ze1,Ze2,Ze3,Ze4,Ze5,Ze8,Zfb,Zfc,Zfd,Zfe,Zff,Zfg,Zfh,Zfi,Zfk,Zfl,Zfn,Zfq,Zfr,Zf1,Zf3,Zf4,Zgr,Zgs,Zgt,Zgu,Zgv,Zgw,Zgx,Zg4,Zg5,Zg6,Zhd,Zhe,Zhf,Zhg,Zhh,Zhm,Zhn,Zho,Zhs,Zht,Zhu,Zh6,Zh7,Zh9,Ziq,Zir,Ziu,Ziv,Ziw,Zix,Ztm,Ztn,Ziy,Ziz,Zi0,Zi2,Zi3,Zi6,Zi7,Zje,Zjg,Zjh,Zji,Zjj,Zjk,Zjl,Zjm,Zjn,Zjo,Zjp,Zjr,Zj3,Zkl,Zla,Zlb,Zle,Zll,Zlz,Zmt,Zmv,Zmw,Zmx,Zmz,Zm2,Zm6,Zna,Znb,Znc,Znd,Zne,Znf,Zng,Znh,Znl,Znm,Znn,Zno,Znp,Znr,Zns,Znt,Znu,Znw,Znx,Zn1,Zn5,Zod,Zof,Zog,Zoh,Zos,Zot,Zou,Zo7,Zo8,Zo9,Zpa,Zpc,Zpi,Zpm,Zpo,Zpr,Zpv,Zpy,Zp0,Zp1,Zp2,Zp3,Zqb,Zqc,Zqf,Zqg,Zqh,Zqi,Zqj,Zqk,Zql,Zqm,Zqn,Zqo,Zqr,List.append_assoc,List.length_append,List.length_drop,eq_self,true_and,and_true,and_false,not_false_eq_true,Nat.zero_add,Nat.mul_one,h8',hzt,hwP1,ga,gb,gc,hwa,gx,hlt]
          tactic =>
          and_intros <;> try (first | omega | rfl | assumption)
          by_cases he : at' + 1 = fresh.length
          · unfold NextL; refine ⟨0, [(0, 30)], _, by omega, ⟨P, [x], at' + 1, m, hm, by omega, by omega, by omega, hc, by simp only [List.length_append, List.length_cons, List.length_nil] at hb ⊢; omega, .inl ⟨.inr he, rfl⟩⟩, wkA ?_⟩
            have hfin2 : fin P ([x]) = P ++ [(0, 0, [x])] := by rw [fin, if_neg (by simp)]
            rw [hfin2]
            sym =>
            simp [Zaa,Zab,Zac,Zad,Zae,Zaf,Zag,Zah,Zai,Zak,Zal,Zam,Zan,Zap,Zaq,Zav,Zaw,Zay,Zaz,Za0,Za1,Za2,Za3,Za4,Za5,Za6,Za7,Za8,Za9,Zba,Zbb,Zbc,Zbd,Zbf,Zbg,Zbt,Zbu,Zbv,Zbw,Zb1,Zb2,Zb9,Zci,Zcn,Zcz,Zc0,Zc4,Zc5,Zc6,Zc7,Zc8,Zc9,Zdf,Zdg,Zdh,Zdj,Zdk,Ztk,Zdo,Zdp,Zdt,Zdu,Zdv,Zdw,Zdx,Zdy,Zdz,Zd0,Zd1,Zd2,Zd5,Zeb,Zee,Zeh,Zek,Zeq,Zet,Zev,Zew,Zex,Zez,Ze0,Ze1,Ze2,Ze3,Ze4,Ze5,Ze8,Zfb,Zfc,Zfd,Zfe,Zff,Zfg,Zfh,Zfi,Zfk,Zfl,Zfn,Zfq,Zfr,Zf1,Zf3,Zf4,Zgr,Zgs,Zgt,Zgu,Zgv,Zgw,Zgx,Zg4,Zg5,Zg6,Zhd,Zhe,Zhf,Zhg,Zhh,Zhm,Zhn,Zho,Zhs,Zht,Zhu,Zh6,Zh7,Zh9,Ziq,Zir,Ziu,Ziv,Ziw,Zix,Ztm,Ztn,Ziy,Ziz,Zi0,Zi2,Zi3,Zi6,Zi7,Zje,Zjg,Zjh,Zji,Zjj,Zjk,Zjl,Zjm,Zjn,Zjo,Zjp,Zjr,Zj3,Zkl,Zla,Zlb,Zle,Zll,Zlz,Zmt,Zmv,Zmw,Zmx,Zmz,Zm2,Zm6,Zna,Znb,Znc,Znd,Zne,Znf,Zng,Znh,Znl,Znm,Znn,Zno,Znp,Znr,Zns,Znt,Znu,Znw,Znx,Zn1,Zn5,Zod,Zof,Zog,Zoh,Zos,Zot,Zou,Zo7,Zo8,Zo9,Zpa,Zpc,Zpi,Zpm,Zpo,Zpr,Zpv,Zpy,Zp0,Zp1,Zp2,Zp3,Zqb,Zqc,Zqf,Zqg,Zqh,Zqi,Zqj,Zqk,Zql,Zqm,Zqn,Zqo,Zqr,List.append_assoc,List.length_append,List.length_drop,eq_self,true_and,and_true,and_false,not_false_eq_true,Nat.zero_add,Nat.mul_one,List.length_append]
            tactic =>
            rw [cP_append]
            refine rs_app (rs_self (cP_okI P)) ?_
            show rv1s _ _ _ _ [I 0, I 0, fB ([x])]
            sym =>
            simp [Zaa,Zab,Zac,Zad,Zae,Zaf,Zag,Zah,Zai,Zak,Zal,Zam,Zan,Zap,Zaq,Zav,Zaw,Zay,Zaz,Za0,Za1,Za2,Za3,Za4,Za5,Za6,Za7,Za8,Za9,Zba,Zbb,Zbc,Zbd,Zbf,Zbg,Zbt,Zbu,Zbv,Zbw,Zb1,Zb2,Zb9,Zci,Zcn,Zcz,Zc0,Zc4,Zc5,Zc6,Zc7,Zc8,Zc9,Zdf,Zdg,Zdh,Zdj,Zdk,Ztk,Zdo,Zdp,Zdt,Zdu,Zdv,Zdw,Zdx,Zdy,Zdz,Zd0,Zd1,Zd2,Zd5,Zeb,Zee,Zeh,Zek,Zeq,Zet,Zev,Zew,Zex,Zez,Ze0,Ze1,Ze2,Ze3,Ze4,Ze5,Ze8,Zfb,Zfc,Zfd,Zfe,Zff,Zfg,Zfh,Zfi,Zfk,Zfl,Zfn,Zfq,Zfr,Zf1,Zf3,Zf4,Zgr,Zgs,Zgt,Zgu,Zgv,Zgw,Zgx,Zg4,Zg5,Zg6,Zhd,Zhe,Zhf,Zhg,Zhh,Zhm,Zhn,Zho,Zhs,Zht,Zhu,Zh6,Zh7,Zh9,Ziq,Zir,Ziu,Ziv,Ziw,Zix,Ztm,Ztn,Ziy,Ziz,Zi0,Zi2,Zi3,Zi6,Zi7,Zje,Zjg,Zjh,Zji,Zjj,Zjk,Zjl,Zjm,Zjn,Zjo,Zjp,Zjr,Zj3,Zkl,Zla,Zlb,Zle,Zll,Zlz,Zmt,Zmv,Zmw,Zmx,Zmz,Zm2,Zm6,Zna,Znb,Znc,Znd,Zne,Znf,Zng,Znh,Znl,Znm,Znn,Zno,Znp,Znr,Zns,Znt,Znu,Znw,Znx,Zn1,Zn5,Zod,Zof,Zog,Zoh,Zos,Zot,Zou,Zo7,Zo8,Zo9,Zpa,Zpc,Zpi,Zpm,Zpo,Zpr,Zpv,Zpy,Zp0,Zp1,Zp2,Zp3,Zqb,Zqc,Zqf,Zqg,Zqh,Zqi,Zqj,Zqk,Zql,Zqm,Zqn,Zqo,Zqr,List.append_assoc,List.length_append,List.length_drop,eq_self,true_and,and_true,and_false,not_false_eq_true,Nat.zero_add,Nat.mul_one,List.length_append]
            tactic =>
            exact rfl
          · unfold NextL
            refine ⟨fresh.length - (at' + 1), [(0, 30), (1, 27)], _, by omega, ⟨P, [x], at' + 1, m, hm, by omega, by omega, rfl, hc, by simp only [List.length_append, List.length_cons, List.length_nil] at hb ⊢; omega, .inr ⟨by simp, by omega, rfl⟩⟩, wkA ?_⟩
            sym =>
            simp [Zaa,Zab,Zac,Zad,Zae,Zaf,Zag,Zah,Zai,Zak,Zal,Zam,Zan,Zap,Zaq,Zav,Zaw,Zay,Zaz,Za0,Za1,Za2,Za3,Za4,Za5,Za6,Za7,Za8,Za9,Zba,Zbb,Zbc,Zbd,Zbf,Zbg,Zbt,Zbu,Zbv,Zbw,Zb1,Zb2,Zb9,Zci,Zcn,Zcz,Zc0,Zc4,Zc5,Zc6,Zc7,Zc8,Zc9,Zdf,Zdg,Zdh,Zdj,Zdk,Ztk,Zdo,Zdp,Zdt,Zdu,Zdv,Zdw,Zdx,Zdy,Zdz,Zd0,Zd1,Zd2,Zd5,Zeb,Zee,Zeh,Zek,Zeq,Zet,Zev,Zew,Zex,Zez,Ze0,Ze1,Ze2,Ze3,Ze4,Ze5,Ze8,Zfb,Zfc,Zfd,Zfe,Zff,Zfg,Zfh,Zfi,Zfk,Zfl,Zfn,Zfq,Zfr,Zf1,Zf3,Zf4,Zgr,Zgs,Zgt,Zgu,Zgv,Zgw,Zgx,Zg4,Zg5,Zg6,Zhd,Zhe,Zhf,Zhg,Zhh,Zhm,Zhn,Zho,Zhs,Zht,Zhu,Zh6,Zh7,Zh9,Ziq,Zir,Ziu,Ziv,Ziw,Zix,Ztm,Ztn,Ziy,Ziz,Zi0,Zi2,Zi3,Zi6,Zi7,Zje,Zjg,Zjh,Zji,Zjj,Zjk,Zjl,Zjm,Zjn,Zjo,Zjp,Zjr,Zj3,Zkl,Zla,Zlb,Zle,Zll,Zlz,Zmt,Zmv,Zmw,Zmx,Zmz,Zm2,Zm6,Zna,Znb,Znc,Znd,Zne,Znf,Zng,Znh,Znl,Znm,Znn,Zno,Znp,Znr,Zns,Znt,Znu,Znw,Znx,Zn1,Zn5,Zod,Zof,Zog,Zoh,Zos,Zot,Zou,Zo7,Zo8,Zo9,Zpa,Zpc,Zpi,Zpm,Zpo,Zpr,Zpv,Zpy,Zp0,Zp1,Zp2,Zp3,Zqb,Zqc,Zqf,Zqg,Zqh,Zqi,Zqj,Zqk,Zql,Zqm,Zqn,Zqo,Zqr,List.append_assoc,List.length_append,List.length_drop,eq_self,true_and,and_true,and_false,not_false_eq_true,Nat.zero_add,Nat.mul_one,List.length_append]
            tactic =>
            refine ⟨rs_app (rs_self (cP_okI P)) ?_, ?_⟩
            · sym =>
              simp [Zaa,Zab,Zac,Zad,Zae,Zaf,Zag,Zah,Zai,Zak,Zal,Zam,Zan,Zap,Zaq,Zav,Zaw,Zay,Zaz,Za0,Za1,Za2,Za3,Za4,Za5,Za6,Za7,Za8,Za9,Zba,Zbb,Zbc,Zbd,Zbf,Zbg,Zbt,Zbu,Zbv,Zbw,Zb1,Zb2,Zb9,Zci,Zcn,Zcz,Zc0,Zc4,Zc5,Zc6,Zc7,Zc8,Zc9,Zdf,Zdg,Zdh,Zdj,Zdk,Ztk,Zdo,Zdp,Zdt,Zdu,Zdv,Zdw,Zdx,Zdy,Zdz,Zd0,Zd1,Zd2,Zd5,Zeb,Zee,Zeh,Zek,Zeq,Zet,Zev,Zew,Zex,Zez,Ze0,Ze1,Ze2,Ze3,Ze4,Ze5,Ze8,Zfb,Zfc,Zfd,Zfe,Zff,Zfg,Zfh,Zfi,Zfk,Zfl,Zfn,Zfq,Zfr,Zf1,Zf3,Zf4,Zgr,Zgs,Zgt,Zgu,Zgv,Zgw,Zgx,Zg4,Zg5,Zg6,Zhd,Zhe,Zhf,Zhg,Zhh,Zhm,Zhn,Zho,Zhs,Zht,Zhu,Zh6,Zh7,Zh9,Ziq,Zir,Ziu,Ziv,Ziw,Zix,Ztm,Ztn,Ziy,Ziz,Zi0,Zi2,Zi3,Zi6,Zi7,Zje,Zjg,Zjh,Zji,Zjj,Zjk,Zjl,Zjm,Zjn,Zjo,Zjp,Zjr,Zj3,Zkl,Zla,Zlb,Zle,Zll,Zlz,Zmt,Zmv,Zmw,Zmx,Zmz,Zm2,Zm6,Zna,Znb,Znc,Znd,Zne,Znf,Zng,Znh,Znl,Znm,Znn,Zno,Znp,Znr,Zns,Znt,Znu,Znw,Znx,Zn1,Zn5,Zod,Zof,Zog,Zoh,Zos,Zot,Zou,Zo7,Zo8,Zo9,Zpa,Zpc,Zpi,Zpm,Zpo,Zpr,Zpv,Zpy,Zp0,Zp1,Zp2,Zp3,Zqb,Zqc,Zqf,Zqg,Zqh,Zqi,Zqj,Zqk,Zql,Zqm,Zqn,Zqo,Zqr,List.append_assoc,List.length_append,List.length_drop,eq_self,true_and,and_true,and_false,not_false_eq_true,Nat.zero_add,Nat.mul_one,List.length_append]
            · exact cB_rs _ _ _ _ _ rfl
    · sym =>
      simp [Zaa,Zab,Zac,Zad,Zae,Zaf,Zag,Zah,Zai,Zak,Zal,Zam,Zan,Zap,Zaq,Zav,Zaw,Zay,Zaz,Za0,Za1,Za2,Za3,Za4,Za5,Za6,Za7,Za8,Za9,Zba,Zbb,Zbc,Zbd,Zbf,Zbg,Zbt,Zbu,Zbv,Zbw,Zb1,Zb2,Zb9,Zci,Zcn,Zcz,Zc0,Zc4,Zc5,Zc6,Zc7,Zc8,Zc9,Zdf,Zdg,Zdh,Zdj,Zdk,Ztk,Zdo,Zdp,Zdt,Zdu,Zdv,Zdw,Zdx,Zdy,Zdz,Zd0,Zd1,Zd2,Zd5,Zeb,Zee,Zeh,Zek,Zeq,Zet,Zev,Zew,Zex,Zez,Ze0,Ze1,Ze2,Ze3,Ze4,Ze5,Ze8,Zfb,Zfc,Zfd,Zfe,Zff,Zfg,Zfh,Zfi,Zfk,Zfl,Zfn,Zfq,Zfr,Zf1,Zf3,Zf4,Zgr,Zgs,Zgt,Zgu,Zgv,Zgw,Zgx,Zg4,Zg5,Zg6,Zhd,Zhe,Zhf,Zhg,Zhh,Zhm,Zhn,Zho,Zhs,Zht,Zhu,Zh6,Zh7,Zh9,Ziq,Zir,Ziu,Ziv,Ziw,Zix,Ztm,Ztn,Ziy,Ziz,Zi0,Zi2,Zi3,Zi6,Zi7,Zje,Zjg,Zjh,Zji,Zjj,Zjk,Zjl,Zjm,Zjn,Zjo,Zjp,Zjr,Zj3,Zkl,Zla,Zlb,Zle,Zll,Zlz,Zmt,Zmv,Zmw,Zmx,Zmz,Zm2,Zm6,Zna,Znb,Znc,Znd,Zne,Znf,Zng,Znh,Znl,Znm,Znn,Zno,Znp,Znr,Zns,Znt,Znu,Znw,Znx,Zn1,Zn5,Zod,Zof,Zog,Zoh,Zos,Zot,Zou,Zo7,Zo8,Zo9,Zpa,Zpc,Zpi,Zpm,Zpo,Zpr,Zpv,Zpy,Zp0,Zp1,Zp2,Zp3,Zqb,Zqc,Zqf,Zqg,Zqh,Zqi,Zqj,Zqk,Zql,Zqm,Zqn,Zqo,Zqr,List.append_assoc,List.length_append,List.length_drop,eq_self,true_and,and_true,and_false,not_false_eq_true,Nat.zero_add,Nat.mul_one,hlt]
      tactic =>
      refine lpA (j32 old fresh at' (.lv 0 0 (P.length + 1)) [(0, ⟨cP P ++ [I 0, I 0, .lv 1 0 q.length], 3, 0⟩), (1, ⟨cB q, 1, 0⟩)] 2) old.length [(0, 0), (1, 1)] _ ⟨0, by omega, rfl⟩ (wkA ?_) ?_
      · sym =>
        simp [Zaa,Zab,Zac,Zad,Zae,Zaf,Zag,Zah,Zai,Zak,Zal,Zam,Zan,Zap,Zaq,Zav,Zaw,Zay,Zaz,Za0,Za1,Za2,Za3,Za4,Za5,Za6,Za7,Za8,Za9,Zba,Zbb,Zbc,Zbd,Zbf,Zbg,Zbt,Zbu,Zbv,Zbw,Zb1,Zb2,Zb9,Zci,Zcn,Zcz,Zc0,Zc4,Zc5,Zc6,Zc7,Zc8,Zc9,Zdf,Zdg,Zdh,Zdj,Zdk,Ztk,Zdo,Zdp,Zdt,Zdu,Zdv,Zdw,Zdx,Zdy,Zdz,Zd0,Zd1,Zd2,Zd5,Zeb,Zee,Zeh,Zek,Zeq,Zet,Zev,Zew,Zex,Zez,Ze0,Ze1,Ze2,Ze3,Ze4,Ze5,Ze8,Zfb,Zfc,Zfd,Zfe,Zff,Zfg,Zfh,Zfi,Zfk,Zfl,Zfn,Zfq,Zfr,Zf1,Zf3,Zf4,Zgr,Zgs,Zgt,Zgu,Zgv,Zgw,Zgx,Zg4,Zg5,Zg6,Zhd,Zhe,Zhf,Zhg,Zhh,Zhm,Zhn,Zho,Zhs,Zht,Zhu,Zh6,Zh7,Zh9,Ziq,Zir,Ziu,Ziv,Ziw,Zix,Ztm,Ztn,Ziy,Ziz,Zi0,Zi2,Zi3,Zi6,Zi7,Zje,Zjg,Zjh,Zji,Zjj,Zjk,Zjl,Zjm,Zjn,Zjo,Zjp,Zjr,Zj3,Zkl,Zla,Zlb,Zle,Zll,Zlz,Zmt,Zmv,Zmw,Zmx,Zmz,Zm2,Zm6,Zna,Znb,Znc,Znd,Zne,Znf,Zng,Znh,Znl,Znm,Znn,Zno,Znp,Znr,Zns,Znt,Znu,Znw,Znx,Zn1,Zn5,Zod,Zof,Zog,Zoh,Zos,Zot,Zou,Zo7,Zo8,Zo9,Zpa,Zpc,Zpi,Zpm,Zpo,Zpr,Zpv,Zpy,Zp0,Zp1,Zp2,Zp3,Zqb,Zqc,Zqf,Zqg,Zqh,Zqi,Zqj,Zqk,Zql,Zqm,Zqn,Zqo,Zqr,List.append_assoc,List.length_append,List.length_drop,eq_self,true_and,and_true,and_false,not_false_eq_true,Nat.zero_add,Nat.mul_one]
        tactic =>
        refine ⟨⟨rfl, rfl⟩, rs_app (rs_self (cP_okI P)) ?_, cB_rs _ _ _ _ _ rfl⟩
        sym =>
        simp [Zaa,Zab,Zac,Zad,Zae,Zaf,Zag,Zah,Zai,Zak,Zal,Zam,Zan,Zap,Zaq,Zav,Zaw,Zay,Zaz,Za0,Za1,Za2,Za3,Za4,Za5,Za6,Za7,Za8,Za9,Zba,Zbb,Zbc,Zbd,Zbf,Zbg,Zbt,Zbu,Zbv,Zbw,Zb1,Zb2,Zb9,Zci,Zcn,Zcz,Zc0,Zc4,Zc5,Zc6,Zc7,Zc8,Zc9,Zdf,Zdg,Zdh,Zdj,Zdk,Ztk,Zdo,Zdp,Zdt,Zdu,Zdv,Zdw,Zdx,Zdy,Zdz,Zd0,Zd1,Zd2,Zd5,Zeb,Zee,Zeh,Zek,Zeq,Zet,Zev,Zew,Zex,Zez,Ze0,Ze1,Ze2,Ze3,Ze4,Ze5,Ze8,Zfb,Zfc,Zfd,Zfe,Zff,Zfg,Zfh,Zfi,Zfk,Zfl,Zfn,Zfq,Zfr,Zf1,Zf3,Zf4,Zgr,Zgs,Zgt,Zgu,Zgv,Zgw,Zgx,Zg4,Zg5,Zg6,Zhd,Zhe,Zhf,Zhg,Zhh,Zhm,Zhn,Zho,Zhs,Zht,Zhu,Zh6,Zh7,Zh9,Ziq,Zir,Ziu,Ziv,Ziw,Zix,Ztm,Ztn,Ziy,Ziz,Zi0,Zi2,Zi3,Zi6,Zi7,Zje,Zjg,Zjh,Zji,Zjj,Zjk,Zjl,Zjm,Zjn,Zjo,Zjp,Zjr,Zj3,Zkl,Zla,Zlb,Zle,Zll,Zlz,Zmt,Zmv,Zmw,Zmx,Zmz,Zm2,Zm6,Zna,Znb,Znc,Znd,Zne,Znf,Zng,Znh,Znl,Znm,Znn,Zno,Znp,Znr,Zns,Znt,Znu,Znw,Znx,Zn1,Zn5,Zod,Zof,Zog,Zoh,Zos,Zot,Zou,Zo7,Zo8,Zo9,Zpa,Zpc,Zpi,Zpm,Zpo,Zpr,Zpv,Zpy,Zp0,Zp1,Zp2,Zp3,Zqb,Zqc,Zqf,Zqg,Zqh,Zqi,Zqj,Zqk,Zql,Zqm,Zqn,Zqo,Zqr,List.append_assoc,List.length_append,List.length_drop,eq_self,true_and,and_true,and_false,not_false_eq_true,Nat.zero_add,Nat.mul_one]
      rintro k2 s ⟨i, hi, rfl⟩
      have hstep : bst old rs (i + 1) = if (bst old rs i).2 < alk (old.drop i) rs then (i, alk (old.drop i) rs) else bst old rs i := rfl
      rw [← hrs]
      obtain ⟨c, hc0⟩ : ∃ c, c = bst old rs i := ⟨_, rfl⟩
      rw [← hc0] at hstep ⊢
      by_cases hio : i < old.length
      · have hw := w64s i (by omega)
        obtain ⟨D, hD⟩ : ∃ D, D = old.drop i := ⟨_, rfl⟩
        have hDl : D.length = old.length - i := by rw [hD, List.length_drop]
        have hdt : List.take (old.length - i) (List.drop i (cB old)) = cB D := by
          rw [hD, cB_drop]; exact List.take_of_length_le (by rw [List.length_drop, cB_length]; exact Nat.le_refl _)
        have hcc := ralike_con D rs (by omega)
        simp only [fB, hDl, hrl] at hcc
        rw [← hD] at hstep
        obtain ⟨n, hn0⟩ : ∃ n, n = alk D rs := ⟨_, rfl⟩
        rw [← hn0] at hcc hstep
        sym =>
        simp [Zaa,Zab,Zac,Zad,Zae,Zaf,Zag,Zah,Zai,Zak,Zal,Zam,Zan,Zap,Zaq,Zav,Zaw,Zay,Zaz,Za0,Za1,Za2,Za3,Za4,Za5,Za6,Za7,Za8,Za9,Zba,Zbb,Zbc,Zbd,Zbf,Zbg,Zbt,Zbu,Zbv,Zbw,Zb1,Zb2,Zb9,Zci,Zcn,Zcz,Zc0,Zc4,Zc5,Zc6,Zc7,Zc8,Zc9,Zdf,Zdg,Zdh,Zdj,Zdk,Ztk,Zdo,Zdp,Zdt,Zdu,Zdv,Zdw,Zdx,Zdy,Zdz,Zd0,Zd1,Zd2,Zd5,Zeb,Zee,Zeh,Zek,Zeq,Zet,Zev,Zew,Zex,Zez,Ze0,Ze1,Ze2,Ze3,Ze4,Ze5,Ze8,Zfb,Zfc,Zfd,Zfe,Zff,Zfg,Zfh,Zfi,Zfk,Zfl,Zfn,Zfq,Zfr,Zf1,Zf3,Zf4,Zgr,Zgs,Zgt,Zgu,Zgv,Zgw,Zgx,Zg4,Zg5,Zg6,Zhd,Zhe,Zhf,Zhg,Zhh,Zhm,Zhn,Zho,Zhs,Zht,Zhu,Zh6,Zh7,Zh9,Ziq,Zir,Ziu,Ziv,Ziw,Zix,Ztm,Ztn,Ziy,Ziz,Zi0,Zi2,Zi3,Zi6,Zi7,Zje,Zjg,Zjh,Zji,Zjj,Zjk,Zjl,Zjm,Zjn,Zjo,Zjp,Zjr,Zj3,Zkl,Zla,Zlb,Zle,Zll,Zlz,Zmt,Zmv,Zmw,Zmx,Zmz,Zm2,Zm6,Zna,Znb,Znc,Znd,Zne,Znf,Zng,Znh,Znl,Znm,Znn,Zno,Znp,Znr,Zns,Znt,Znu,Znw,Znx,Zn1,Zn5,Zod,Zof,Zog,Zoh,Zos,Zot,Zou,Zo7,Zo8,Zo9,Zpa,Zpc,Zpi,Zpm,Zpo,Zpr,Zpv,Zpy,Zp0,Zp1,Zp2,Zp3,Zqb,Zqc,Zqf,Zqg,Zqh,Zqi,Zqj,Zqk,Zql,Zqm,Zqn,Zqo,Zqr,List.append_assoc,List.length_append,List.length_drop,eq_self,true_and,and_true,and_false,not_false_eq_true,Nat.zero_add,Nat.mul_one,hio,hw,hdt,hdr,callable_61]
        tactic =>
        and_intros <;> try (first | omega | rfl | assumption)
        refine cl none (hcc) trivial ?_
        by_cases h2 : c.2 < n
        · rw [if_pos h2] at hstep
          sym =>
          simp [Zaa,Zab,Zac,Zad,Zae,Zaf,Zag,Zah,Zai,Zak,Zal,Zam,Zan,Zap,Zaq,Zav,Zaw,Zay,Zaz,Za0,Za1,Za2,Za3,Za4,Za5,Za6,Za7,Za8,Za9,Zba,Zbb,Zbc,Zbd,Zbf,Zbg,Zbt,Zbu,Zbv,Zbw,Zb1,Zb2,Zb9,Zci,Zcn,Zcz,Zc0,Zc4,Zc5,Zc6,Zc7,Zc8,Zc9,Zdf,Zdg,Zdh,Zdj,Zdk,Ztk,Zdo,Zdp,Zdt,Zdu,Zdv,Zdw,Zdx,Zdy,Zdz,Zd0,Zd1,Zd2,Zd5,Zeb,Zee,Zeh,Zek,Zeq,Zet,Zev,Zew,Zex,Zez,Ze0,Ze1,Ze2,Ze3,Ze4,Ze5,Ze8,Zfb,Zfc,Zfd,Zfe,Zff,Zfg,Zfh,Zfi,Zfk,Zfl,Zfn,Zfq,Zfr,Zf1,Zf3,Zf4,Zgr,Zgs,Zgt,Zgu,Zgv,Zgw,Zgx,Zg4,Zg5,Zg6,Zhd,Zhe,Zhf,Zhg,Zhh,Zhm,Zhn,Zho,Zhs,Zht,Zhu,Zh6,Zh7,Zh9,Ziq,Zir,Ziu,Ziv,Ziw,Zix,Ztm,Ztn,Ziy,Ziz,Zi0,Zi2,Zi3,Zi6,Zi7,Zje,Zjg,Zjh,Zji,Zjj,Zjk,Zjl,Zjm,Zjn,Zjo,Zjp,Zjr,Zj3,Zkl,Zla,Zlb,Zle,Zll,Zlz,Zmt,Zmv,Zmw,Zmx,Zmz,Zm2,Zm6,Zna,Znb,Znc,Znd,Zne,Znf,Zng,Znh,Znl,Znm,Znn,Zno,Znp,Znr,Zns,Znt,Znu,Znw,Znx,Zn1,Zn5,Zod,Zof,Zog,Zoh,Zos,Zot,Zou,Zo7,Zo8,Zo9,Zpa,Zpc,Zpi,Zpm,Zpo,Zpr,Zpv,Zpy,Zp0,Zp1,Zp2,Zp3,Zqb,Zqc,Zqf,Zqg,Zqh,Zqi,Zqj,Zqk,Zql,Zqm,Zqn,Zqo,Zqr,List.append_assoc,List.length_append,List.length_drop,eq_self,true_and,and_true,and_false,not_false_eq_true,Nat.zero_add,Nat.mul_one,h2,hw]
          tactic =>
          unfold NextL; refine ⟨(k2 - 1), [(0, 0), (1, 1)], _, by omega, ⟨i + 1, by omega, rfl⟩, wkA ?_⟩
          rw [← hrs, hstep]
          sym =>
          simp [Zaa,Zab,Zac,Zad,Zae,Zaf,Zag,Zah,Zai,Zak,Zal,Zam,Zan,Zap,Zaq,Zav,Zaw,Zay,Zaz,Za0,Za1,Za2,Za3,Za4,Za5,Za6,Za7,Za8,Za9,Zba,Zbb,Zbc,Zbd,Zbf,Zbg,Zbt,Zbu,Zbv,Zbw,Zb1,Zb2,Zb9,Zci,Zcn,Zcz,Zc0,Zc4,Zc5,Zc6,Zc7,Zc8,Zc9,Zdf,Zdg,Zdh,Zdj,Zdk,Ztk,Zdo,Zdp,Zdt,Zdu,Zdv,Zdw,Zdx,Zdy,Zdz,Zd0,Zd1,Zd2,Zd5,Zeb,Zee,Zeh,Zek,Zeq,Zet,Zev,Zew,Zex,Zez,Ze0,Ze1,Ze2,Ze3,Ze4,Ze5,Ze8,Zfb,Zfc,Zfd,Zfe,Zff,Zfg,Zfh,Zfi,Zfk,Zfl,Zfn,Zfq,Zfr,Zf1,Zf3,Zf4,Zgr,Zgs,Zgt,Zgu,Zgv,Zgw,Zgx,Zg4,Zg5,Zg6,Zhd,Zhe,Zhf,Zhg,Zhh,Zhm,Zhn,Zho,Zhs,Zht,Zhu,Zh6,Zh7,Zh9,Ziq,Zir,Ziu,Ziv,Ziw,Zix,Ztm,Ztn,Ziy,Ziz,Zi0,Zi2,Zi3,Zi6,Zi7,Zje,Zjg,Zjh,Zji,Zjj,Zjk,Zjl,Zjm,Zjn,Zjo,Zjp,Zjr,Zj3,Zkl,Zla,Zlb,Zle,Zll,Zlz,Zmt,Zmv,Zmw,Zmx,Zmz,Zm2,Zm6,Zna,Znb,Znc,Znd,Zne,Znf,Zng,Znh,Znl,Znm,Znn,Zno,Znp,Znr,Zns,Znt,Znu,Znw,Znx,Zn1,Zn5,Zod,Zof,Zog,Zoh,Zos,Zot,Zou,Zo7,Zo8,Zo9,Zpa,Zpc,Zpi,Zpm,Zpo,Zpr,Zpv,Zpy,Zp0,Zp1,Zp2,Zp3,Zqb,Zqc,Zqf,Zqg,Zqh,Zqi,Zqj,Zqk,Zql,Zqm,Zqn,Zqo,Zqr,List.append_assoc,List.length_append,List.length_drop,eq_self,true_and,and_true,and_false,not_false_eq_true,Nat.zero_add,Nat.mul_one]
          tactic =>
          refine ⟨rs_app (rs_self (cP_okI P)) ?_, cB_rs _ _ _ _ _ rfl⟩
          sym =>
          simp [Zaa,Zab,Zac,Zad,Zae,Zaf,Zag,Zah,Zai,Zak,Zal,Zam,Zan,Zap,Zaq,Zav,Zaw,Zay,Zaz,Za0,Za1,Za2,Za3,Za4,Za5,Za6,Za7,Za8,Za9,Zba,Zbb,Zbc,Zbd,Zbf,Zbg,Zbt,Zbu,Zbv,Zbw,Zb1,Zb2,Zb9,Zci,Zcn,Zcz,Zc0,Zc4,Zc5,Zc6,Zc7,Zc8,Zc9,Zdf,Zdg,Zdh,Zdj,Zdk,Ztk,Zdo,Zdp,Zdt,Zdu,Zdv,Zdw,Zdx,Zdy,Zdz,Zd0,Zd1,Zd2,Zd5,Zeb,Zee,Zeh,Zek,Zeq,Zet,Zev,Zew,Zex,Zez,Ze0,Ze1,Ze2,Ze3,Ze4,Ze5,Ze8,Zfb,Zfc,Zfd,Zfe,Zff,Zfg,Zfh,Zfi,Zfk,Zfl,Zfn,Zfq,Zfr,Zf1,Zf3,Zf4,Zgr,Zgs,Zgt,Zgu,Zgv,Zgw,Zgx,Zg4,Zg5,Zg6,Zhd,Zhe,Zhf,Zhg,Zhh,Zhm,Zhn,Zho,Zhs,Zht,Zhu,Zh6,Zh7,Zh9,Ziq,Zir,Ziu,Ziv,Ziw,Zix,Ztm,Ztn,Ziy,Ziz,Zi0,Zi2,Zi3,Zi6,Zi7,Zje,Zjg,Zjh,Zji,Zjj,Zjk,Zjl,Zjm,Zjn,Zjo,Zjp,Zjr,Zj3,Zkl,Zla,Zlb,Zle,Zll,Zlz,Zmt,Zmv,Zmw,Zmx,Zmz,Zm2,Zm6,Zna,Znb,Znc,Znd,Zne,Znf,Zng,Znh,Znl,Znm,Znn,Zno,Znp,Znr,Zns,Znt,Znu,Znw,Znx,Zn1,Zn5,Zod,Zof,Zog,Zoh,Zos,Zot,Zou,Zo7,Zo8,Zo9,Zpa,Zpc,Zpi,Zpm,Zpo,Zpr,Zpv,Zpy,Zp0,Zp1,Zp2,Zp3,Zqb,Zqc,Zqf,Zqg,Zqh,Zqi,Zqj,Zqk,Zql,Zqm,Zqn,Zqo,Zqr,List.append_assoc,List.length_append,List.length_drop,eq_self,true_and,and_true,and_false,not_false_eq_true,Nat.zero_add,Nat.mul_one]
        · rw [if_neg h2] at hstep
          sym =>
          simp [Zaa,Zab,Zac,Zad,Zae,Zaf,Zag,Zah,Zai,Zak,Zal,Zam,Zan,Zap,Zaq,Zav,Zaw,Zay,Zaz,Za0,Za1,Za2,Za3,Za4,Za5,Za6,Za7,Za8,Za9,Zba,Zbb,Zbc,Zbd,Zbf,Zbg,Zbt,Zbu,Zbv,Zbw,Zb1,Zb2,Zb9,Zci,Zcn,Zcz,Zc0,Zc4,Zc5,Zc6,Zc7,Zc8,Zc9,Zdf,Zdg,Zdh,Zdj,Zdk,Ztk,Zdo,Zdp,Zdt,Zdu,Zdv,Zdw,Zdx,Zdy,Zdz,Zd0,Zd1,Zd2,Zd5,Zeb,Zee,Zeh,Zek,Zeq,Zet,Zev,Zew,Zex,Zez,Ze0,Ze1,Ze2,Ze3,Ze4,Ze5,Ze8,Zfb,Zfc,Zfd,Zfe,Zff,Zfg,Zfh,Zfi,Zfk,Zfl,Zfn,Zfq,Zfr,Zf1,Zf3,Zf4,Zgr,Zgs,Zgt,Zgu,Zgv,Zgw,Zgx,Zg4,Zg5,Zg6,Zhd,Zhe,Zhf,Zhg,Zhh,Zhm,Zhn,Zho,Zhs,Zht,Zhu,Zh6,Zh7,Zh9,Ziq,Zir,Ziu,Ziv,Ziw,Zix,Ztm,Ztn,Ziy,Ziz,Zi0,Zi2,Zi3,Zi6,Zi7,Zje,Zjg,Zjh,Zji,Zjj,Zjk,Zjl,Zjm,Zjn,Zjo,Zjp,Zjr,Zj3,Zkl,Zla,Zlb,Zle,Zll,Zlz,Zmt,Zmv,Zmw,Zmx,Zmz,Zm2,Zm6,Zna,Znb,Znc,Znd,Zne,Znf,Zng,Znh,Znl,Znm,Znn,Zno,Znp,Znr,Zns,Znt,Znu,Znw,Znx,Zn1,Zn5,Zod,Zof,Zog,Zoh,Zos,Zot,Zou,Zo7,Zo8,Zo9,Zpa,Zpc,Zpi,Zpm,Zpo,Zpr,Zpv,Zpy,Zp0,Zp1,Zp2,Zp3,Zqb,Zqc,Zqf,Zqg,Zqh,Zqi,Zqj,Zqk,Zql,Zqm,Zqn,Zqo,Zqr,List.append_assoc,List.length_append,List.length_drop,eq_self,true_and,and_true,and_false,not_false_eq_true,Nat.zero_add,Nat.mul_one,h2,hw]
          tactic =>
          unfold NextL; refine ⟨(k2 - 1), [(0, 0), (1, 1)], _, by omega, ⟨i + 1, by omega, rfl⟩, wkA ?_⟩
          rw [← hrs, hstep]
          sym =>
          simp [Zaa,Zab,Zac,Zad,Zae,Zaf,Zag,Zah,Zai,Zak,Zal,Zam,Zan,Zap,Zaq,Zav,Zaw,Zay,Zaz,Za0,Za1,Za2,Za3,Za4,Za5,Za6,Za7,Za8,Za9,Zba,Zbb,Zbc,Zbd,Zbf,Zbg,Zbt,Zbu,Zbv,Zbw,Zb1,Zb2,Zb9,Zci,Zcn,Zcz,Zc0,Zc4,Zc5,Zc6,Zc7,Zc8,Zc9,Zdf,Zdg,Zdh,Zdj,Zdk,Ztk,Zdo,Zdp,Zdt,Zdu,Zdv,Zdw,Zdx,Zdy,Zdz,Zd0,Zd1,Zd2,Zd5,Zeb,Zee,Zeh,Zek,Zeq,Zet,Zev,Zew,Zex,Zez,Ze0,Ze1,Ze2,Ze3,Ze4,Ze5,Ze8,Zfb,Zfc,Zfd,Zfe,Zff,Zfg,Zfh,Zfi,Zfk,Zfl,Zfn,Zfq,Zfr,Zf1,Zf3,Zf4,Zgr,Zgs,Zgt,Zgu,Zgv,Zgw,Zgx,Zg4,Zg5,Zg6,Zhd,Zhe,Zhf,Zhg,Zhh,Zhm,Zhn,Zho,Zhs,Zht,Zhu,Zh6,Zh7,Zh9,Ziq,Zir,Ziu,Ziv,Ziw,Zix,Ztm,Ztn,Ziy,Ziz,Zi0,Zi2,Zi3,Zi6,Zi7,Zje,Zjg,Zjh,Zji,Zjj,Zjk,Zjl,Zjm,Zjn,Zjo,Zjp,Zjr,Zj3,Zkl,Zla,Zlb,Zle,Zll,Zlz,Zmt,Zmv,Zmw,Zmx,Zmz,Zm2,Zm6,Zna,Znb,Znc,Znd,Zne,Znf,Zng,Znh,Znl,Znm,Znn,Zno,Znp,Znr,Zns,Znt,Znu,Znw,Znx,Zn1,Zn5,Zod,Zof,Zog,Zoh,Zos,Zot,Zou,Zo7,Zo8,Zo9,Zpa,Zpc,Zpi,Zpm,Zpo,Zpr,Zpv,Zpy,Zp0,Zp1,Zp2,Zp3,Zqb,Zqc,Zqf,Zqg,Zqh,Zqi,Zqj,Zqk,Zql,Zqm,Zqn,Zqo,Zqr,List.append_assoc,List.length_append,List.length_drop,eq_self,true_and,and_true,and_false,not_false_eq_true,Nat.zero_add,Nat.mul_one]
          tactic =>
          refine ⟨rs_app (rs_self (cP_okI P)) ?_, cB_rs _ _ _ _ _ rfl⟩
          sym =>
          simp [Zaa,Zab,Zac,Zad,Zae,Zaf,Zag,Zah,Zai,Zak,Zal,Zam,Zan,Zap,Zaq,Zav,Zaw,Zay,Zaz,Za0,Za1,Za2,Za3,Za4,Za5,Za6,Za7,Za8,Za9,Zba,Zbb,Zbc,Zbd,Zbf,Zbg,Zbt,Zbu,Zbv,Zbw,Zb1,Zb2,Zb9,Zci,Zcn,Zcz,Zc0,Zc4,Zc5,Zc6,Zc7,Zc8,Zc9,Zdf,Zdg,Zdh,Zdj,Zdk,Ztk,Zdo,Zdp,Zdt,Zdu,Zdv,Zdw,Zdx,Zdy,Zdz,Zd0,Zd1,Zd2,Zd5,Zeb,Zee,Zeh,Zek,Zeq,Zet,Zev,Zew,Zex,Zez,Ze0,Ze1,Ze2,Ze3,Ze4,Ze5,Ze8,Zfb,Zfc,Zfd,Zfe,Zff,Zfg,Zfh,Zfi,Zfk,Zfl,Zfn,Zfq,Zfr,Zf1,Zf3,Zf4,Zgr,Zgs,Zgt,Zgu,Zgv,Zgw,Zgx,Zg4,Zg5,Zg6,Zhd,Zhe,Zhf,Zhg,Zhh,Zhm,Zhn,Zho,Zhs,Zht,Zhu,Zh6,Zh7,Zh9,Ziq,Zir,Ziu,Ziv,Ziw,Zix,Ztm,Ztn,Ziy,Ziz,Zi0,Zi2,Zi3,Zi6,Zi7,Zje,Zjg,Zjh,Zji,Zjj,Zjk,Zjl,Zjm,Zjn,Zjo,Zjp,Zjr,Zj3,Zkl,Zla,Zlb,Zle,Zll,Zlz,Zmt,Zmv,Zmw,Zmx,Zmz,Zm2,Zm6,Zna,Znb,Znc,Znd,Zne,Znf,Zng,Znh,Znl,Znm,Znn,Zno,Znp,Znr,Zns,Znt,Znu,Znw,Znx,Zn1,Zn5,Zod,Zof,Zog,Zoh,Zos,Zot,Zou,Zo7,Zo8,Zo9,Zpa,Zpc,Zpi,Zpm,Zpo,Zpr,Zpv,Zpy,Zp0,Zp1,Zp2,Zp3,Zqb,Zqc,Zqf,Zqg,Zqh,Zqi,Zqj,Zqk,Zql,Zqm,Zqn,Zqo,Zqr,List.append_assoc,List.length_append,List.length_drop,eq_self,true_and,and_true,and_false,not_false_eq_true,Nat.zero_add,Nat.mul_one]
      have ei : i = old.length := by omega
      rw [ei] at hc0
      rw [← hbb] at hc0
      rw [hc0]
      clear hc0 hstep
      sym =>
      simp [Zaa,Zab,Zac,Zad,Zae,Zaf,Zag,Zah,Zai,Zak,Zal,Zam,Zan,Zap,Zaq,Zav,Zaw,Zay,Zaz,Za0,Za1,Za2,Za3,Za4,Za5,Za6,Za7,Za8,Za9,Zba,Zbb,Zbc,Zbd,Zbf,Zbg,Zbt,Zbu,Zbv,Zbw,Zb1,Zb2,Zb9,Zci,Zcn,Zcz,Zc0,Zc4,Zc5,Zc6,Zc7,Zc8,Zc9,Zdf,Zdg,Zdh,Zdj,Zdk,Ztk,Zdo,Zdp,Zdt,Zdu,Zdv,Zdw,Zdx,Zdy,Zdz,Zd0,Zd1,Zd2,Zd5,Zeb,Zee,Zeh,Zek,Zeq,Zet,Zev,Zew,Zex,Zez,Ze0,Ze1,Ze2,Ze3,Ze4,Ze5,Ze8,Zfb,Zfc,Zfd,Zfe,Zff,Zfg,Zfh,Zfi,Zfk,Zfl,Zfn,Zfq,Zfr,Zf1,Zf3,Zf4,Zgr,Zgs,Zgt,Zgu,Zgv,Zgw,Zgx,Zg4,Zg5,Zg6,Zhd,Zhe,Zhf,Zhg,Zhh,Zhm,Zhn,Zho,Zhs,Zht,Zhu,Zh6,Zh7,Zh9,Ziq,Zir,Ziu,Ziv,Ziw,Zix,Ztm,Ztn,Ziy,Ziz,Zi0,Zi2,Zi3,Zi6,Zi7,Zje,Zjg,Zjh,Zji,Zjj,Zjk,Zjl,Zjm,Zjn,Zjo,Zjp,Zjr,Zj3,Zkl,Zla,Zlb,Zle,Zll,Zlz,Zmt,Zmv,Zmw,Zmx,Zmz,Zm2,Zm6,Zna,Znb,Znc,Znd,Zne,Znf,Zng,Znh,Znl,Znm,Znn,Zno,Znp,Znr,Zns,Znt,Znu,Znw,Znx,Zn1,Zn5,Zod,Zof,Zog,Zoh,Zos,Zot,Zou,Zo7,Zo8,Zo9,Zpa,Zpc,Zpi,Zpm,Zpo,Zpr,Zpv,Zpy,Zp0,Zp1,Zp2,Zp3,Zqb,Zqc,Zqf,Zqg,Zqh,Zqi,Zqj,Zqk,Zql,Zqm,Zqn,Zqo,Zqr,List.append_assoc,List.length_append,List.length_drop,eq_self,true_and,and_true,and_false,not_false_eq_true,Nat.zero_add,Nat.mul_one,hio]
      tactic =>
      have hqa := cB_all q
      have hq0 : 0 < q.length := by
        cases q with
        | nil => exact absurd rfl hq
        | cons a q => simp
      have hqI := cB_okI q
      have hqF := cB_okF q
      have hql := cB_length q
      by_cases h8 : 8 ≤ b.2
      · rw [if_pos h8] at hm
        have h8' : IN b.2 ≥ (8 : Int) := by simp only [IN]; omega
        sym =>
        simp [Zaa,Zab,Zac,Zad,Zae,Zaf,Zag,Zah,Zai,Zak,Zal,Zam,Zan,Zap,Zaq,Zav,Zaw,Zay,Zaz,Za0,Za1,Za2,Za3,Za4,Za5,Za6,Za7,Za8,Za9,Zba,Zbb,Zbc,Zbd,Zbf,Zbg,Zbt,Zbu,Zbv,Zbw,Zb1,Zb2,Zb9,Zci,Zcn,Zcz,Zc0,Zc4,Zc5,Zc6,Zc7,Zc8,Zc9,Zdf,Zdg,Zdh,Zdj,Zdk,Ztk,Zdo,Zdp,Zdt,Zdu,Zdv,Zdw,Zdx,Zdy,Zdz,Zd0,Zd1,Zd2,Zd5,Zeb,Zee,Zeh,Zek,Zeq,Zet,Zev,Zew,Zex,Zez,Ze0,Ze1,Ze2,Ze3,Ze4,Ze5,Ze8,Zfb,Zfc,Zfd,Zfe,Zff,Zfg,Zfh,Zfi,Zfk,Zfl,Zfn,Zfq,Zfr,Zf1,Zf3,Zf4,Zgr,Zgs,Zgt,Zgu,Zgv,Zgw,Zgx,Zg4,Zg5,Zg6,Zhd,Zhe,Zhf,Zhg,Zhh,Zhm,Zhn,Zho,Zhs,Zht,Zhu,Zh6,Zh7,Zh9,Ziq,Zir,Ziu,Ziv,Ziw,Zix,Ztm,Ztn,Ziy,Ziz,Zi0,Zi2,Zi3,Zi6,Zi7,Zje,Zjg,Zjh,Zji,Zjj,Zjk,Zjl,Zjm,Zjn,Zjo,Zjp,Zjr,Zj3,Zkl,Zla,Zlb,Zle,Zll,Zlz,Zmt,Zmv,Zmw,Zmx,Zmz,Zm2,Zm6,Zna,Znb,Znc,Znd,Zne,Znf,Zng,Znh,Znl,Znm,Znn,Zno,Znp,Znr,Zns,Znt,Znu,Znw,Znx,Zn1,Zn5,Zod,Zof,Zog,Zoh,Zos,Zot,Zou,Zo7,Zo8,Zo9,Zpa,Zpc,Zpi,Zpm,Zpo,Zpr,Zpv,Zpy,Zp0,Zp1,Zp2,Zp3,Zqb,Zqc,Zqf,Zqg,Zqh,Zqi,Zqj,Zqk,Zql,Zqm,Zqn,Zqo,Zqr,List.append_assoc,List.length_append,List.length_drop,eq_self,true_and,and_true,and_false,not_false_eq_true,Nat.zero_add,Nat.mul_one,h8',hwA]
        tactic =>
        and_intros <;> try (first | omega | rfl | assumption)
        rw [hdd] at hm
        have hfq : fin P q = P ++ [(0, 0, q)] := by rw [fin, if_neg hq]
        unfold NextL; refine ⟨(fresh.length - at' - b.2), [(0, 13)], _, by omega, ⟨fin P q ++ [(IN b.1, IN b.2, [])], [], at' + b.2, m, hm, by omega, by omega, by omega, .inr ⟨fin P q, _, _, rfl⟩, by rw [hfq]; simp; omega, .inl ⟨.inl rfl, rfl⟩⟩, wkA ?_⟩
        have hfin2 : fin (fin P q ++ [(IN b.1, IN b.2, [])]) [] = fin P q ++ [(IN b.1, IN b.2, [])] := rfl
        rw [hfin2, hfq]
        sym =>
        simp [Zaa,Zab,Zac,Zad,Zae,Zaf,Zag,Zah,Zai,Zak,Zal,Zam,Zan,Zap,Zaq,Zav,Zaw,Zay,Zaz,Za0,Za1,Za2,Za3,Za4,Za5,Za6,Za7,Za8,Za9,Zba,Zbb,Zbc,Zbd,Zbf,Zbg,Zbt,Zbu,Zbv,Zbw,Zb1,Zb2,Zb9,Zci,Zcn,Zcz,Zc0,Zc4,Zc5,Zc6,Zc7,Zc8,Zc9,Zdf,Zdg,Zdh,Zdj,Zdk,Ztk,Zdo,Zdp,Zdt,Zdu,Zdv,Zdw,Zdx,Zdy,Zdz,Zd0,Zd1,Zd2,Zd5,Zeb,Zee,Zeh,Zek,Zeq,Zet,Zev,Zew,Zex,Zez,Ze0,Ze1,Ze2,Ze3,Ze4,Ze5,Ze8,Zfb,Zfc,Zfd,Zfe,Zff,Zfg,Zfh,Zfi,Zfk,Zfl,Zfn,Zfq,Zfr,Zf1,Zf3,Zf4,Zgr,Zgs,Zgt,Zgu,Zgv,Zgw,Zgx,Zg4,Zg5,Zg6,Zhd,Zhe,Zhf,Zhg,Zhh,Zhm,Zhn,Zho,Zhs,Zht,Zhu,Zh6,Zh7,Zh9,Ziq,Zir,Ziu,Ziv,Ziw,Zix,Ztm,Ztn,Ziy,Ziz,Zi0,Zi2,Zi3,Zi6,Zi7,Zje,Zjg,Zjh,Zji,Zjj,Zjk,Zjl,Zjm,Zjn,Zjo,Zjp,Zjr,Zj3,Zkl,Zla,Zlb,Zle,Zll,Zlz,Zmt,Zmv,Zmw,Zmx,Zmz,Zm2,Zm6,Zna,Znb,Znc,Znd,Zne,Znf,Zng,Znh,Znl,Znm,Znn,Zno,Znp,Znr,Zns,Znt,Znu,Znw,Znx,Zn1,Zn5,Zod,Zof,Zog,Zoh,Zos,Zot,Zou,Zo7,Zo8,Zo9,Zpa,Zpc,Zpi,Zpm,Zpo,Zpr,Zpv,Zpy,Zp0,Zp1,Zp2,Zp3,Zqb,Zqc,Zqf,Zqg,Zqh,Zqi,Zqj,Zqk,Zql,Zqm,Zqn,Zqo,Zqr,List.append_assoc,List.length_append,List.length_drop,eq_self,true_and,and_true,and_false,not_false_eq_true,Nat.zero_add,Nat.mul_one,List.length_append]
        tactic =>
        refine ⟨by omega, ?_⟩
        rw [cP_append]
        refine rs_app (rs_self (cP_okI P)) ?_
        show rv1s _ _ _ _ [I 0, I 0, fB q, I (IN b.1), I (IN b.2), .fz 0 []]
        sym =>
        simp [Zaa,Zab,Zac,Zad,Zae,Zaf,Zag,Zah,Zai,Zak,Zal,Zam,Zan,Zap,Zaq,Zav,Zaw,Zay,Zaz,Za0,Za1,Za2,Za3,Za4,Za5,Za6,Za7,Za8,Za9,Zba,Zbb,Zbc,Zbd,Zbf,Zbg,Zbt,Zbu,Zbv,Zbw,Zb1,Zb2,Zb9,Zci,Zcn,Zcz,Zc0,Zc4,Zc5,Zc6,Zc7,Zc8,Zc9,Zdf,Zdg,Zdh,Zdj,Zdk,Ztk,Zdo,Zdp,Zdt,Zdu,Zdv,Zdw,Zdx,Zdy,Zdz,Zd0,Zd1,Zd2,Zd5,Zeb,Zee,Zeh,Zek,Zeq,Zet,Zev,Zew,Zex,Zez,Ze0,Ze1,Ze2,Ze3,Ze4,Ze5,Ze8,Zfb,Zfc,Zfd,Zfe,Zff,Zfg,Zfh,Zfi,Zfk,Zfl,Zfn,Zfq,Zfr,Zf1,Zf3,Zf4,Zgr,Zgs,Zgt,Zgu,Zgv,Zgw,Zgx,Zg4,Zg5,Zg6,Zhd,Zhe,Zhf,Zhg,Zhh,Zhm,Zhn,Zho,Zhs,Zht,Zhu,Zh6,Zh7,Zh9,Ziq,Zir,Ziu,Ziv,Ziw,Zix,Ztm,Ztn,Ziy,Ziz,Zi0,Zi2,Zi3,Zi6,Zi7,Zje,Zjg,Zjh,Zji,Zjj,Zjk,Zjl,Zjm,Zjn,Zjo,Zjp,Zjr,Zj3,Zkl,Zla,Zlb,Zle,Zll,Zlz,Zmt,Zmv,Zmw,Zmx,Zmz,Zm2,Zm6,Zna,Znb,Znc,Znd,Zne,Znf,Zng,Znh,Znl,Znm,Znn,Zno,Znp,Znr,Zns,Znt,Znu,Znw,Znx,Zn1,Zn5,Zod,Zof,Zog,Zoh,Zos,Zot,Zou,Zo7,Zo8,Zo9,Zpa,Zpc,Zpi,Zpm,Zpo,Zpr,Zpv,Zpy,Zp0,Zp1,Zp2,Zp3,Zqb,Zqc,Zqf,Zqg,Zqh,Zqi,Zqj,Zqk,Zql,Zqm,Zqn,Zqo,Zqr,List.append_assoc,List.length_append,List.length_drop,eq_self,true_and,and_true,and_false,not_false_eq_true,Nat.zero_add,Nat.mul_one,hqa,hqI,hql]
        tactic =>
        exact Nat.le_refl _
      · rw [if_neg h8] at hm
        have h8' : ¬ IN b.2 ≥ (8 : Int) := by simp only [IN]; omega
        sym =>
        simp [Zaa,Zab,Zac,Zad,Zae,Zaf,Zag,Zah,Zai,Zak,Zal,Zam,Zan,Zap,Zaq,Zav,Zaw,Zay,Zaz,Za0,Za1,Za2,Za3,Za4,Za5,Za6,Za7,Za8,Za9,Zba,Zbb,Zbc,Zbd,Zbf,Zbg,Zbt,Zbu,Zbv,Zbw,Zb1,Zb2,Zb9,Zci,Zcn,Zcz,Zc0,Zc4,Zc5,Zc6,Zc7,Zc8,Zc9,Zdf,Zdg,Zdh,Zdj,Zdk,Ztk,Zdo,Zdp,Zdt,Zdu,Zdv,Zdw,Zdx,Zdy,Zdz,Zd0,Zd1,Zd2,Zd5,Zeb,Zee,Zeh,Zek,Zeq,Zet,Zev,Zew,Zex,Zez,Ze0,Ze1,Ze2,Ze3,Ze4,Ze5,Ze8,Zfb,Zfc,Zfd,Zfe,Zff,Zfg,Zfh,Zfi,Zfk,Zfl,Zfn,Zfq,Zfr,Zf1,Zf3,Zf4,Zgr,Zgs,Zgt,Zgu,Zgv,Zgw,Zgx,Zg4,Zg5,Zg6,Zhd,Zhe,Zhf,Zhg,Zhh,Zhm,Zhn,Zho,Zhs,Zht,Zhu,Zh6,Zh7,Zh9,Ziq,Zir,Ziu,Ziv,Ziw,Zix,Ztm,Ztn,Ziy,Ziz,Zi0,Zi2,Zi3,Zi6,Zi7,Zje,Zjg,Zjh,Zji,Zjj,Zjk,Zjl,Zjm,Zjn,Zjo,Zjp,Zjr,Zj3,Zkl,Zla,Zlb,Zle,Zll,Zlz,Zmt,Zmv,Zmw,Zmx,Zmz,Zm2,Zm6,Zna,Znb,Znc,Znd,Zne,Znf,Zng,Znh,Znl,Znm,Znn,Zno,Znp,Znr,Zns,Znt,Znu,Znw,Znx,Zn1,Zn5,Zod,Zof,Zog,Zoh,Zos,Zot,Zou,Zo7,Zo8,Zo9,Zpa,Zpc,Zpi,Zpm,Zpo,Zpr,Zpv,Zpy,Zp0,Zp1,Zp2,Zp3,Zqb,Zqc,Zqf,Zqg,Zqh,Zqi,Zqj,Zqk,Zql,Zqm,Zqn,Zqo,Zqr,List.append_assoc,List.length_append,List.length_drop,eq_self,true_and,and_true,and_false,not_false_eq_true,Nat.zero_add,Nat.mul_one,h8',hwP,hg2,hst,hq0,hwa,gx,hlt,hqa]
        tactic =>
        and_intros <;> try (first | omega | rfl | assumption)
        by_cases he : at' + 1 = fresh.length
        · unfold NextL; refine ⟨0, [(0, 0)], _, by omega, ⟨P, q ++ [x], at' + 1, m, hm, by omega, by omega, by omega, hc, by simp only [List.length_append, List.length_cons, List.length_nil] at hb ⊢; omega, .inl ⟨.inr he, rfl⟩⟩, wkA ?_⟩
          have hfin2 : fin P (q ++ [x]) = P ++ [(0, 0, q ++ [x])] := by rw [fin, if_neg (by simp)]
          rw [hfin2]
          sym =>
          simp [Zaa,Zab,Zac,Zad,Zae,Zaf,Zag,Zah,Zai,Zak,Zal,Zam,Zan,Zap,Zaq,Zav,Zaw,Zay,Zaz,Za0,Za1,Za2,Za3,Za4,Za5,Za6,Za7,Za8,Za9,Zba,Zbb,Zbc,Zbd,Zbf,Zbg,Zbt,Zbu,Zbv,Zbw,Zb1,Zb2,Zb9,Zci,Zcn,Zcz,Zc0,Zc4,Zc5,Zc6,Zc7,Zc8,Zc9,Zdf,Zdg,Zdh,Zdj,Zdk,Ztk,Zdo,Zdp,Zdt,Zdu,Zdv,Zdw,Zdx,Zdy,Zdz,Zd0,Zd1,Zd2,Zd5,Zeb,Zee,Zeh,Zek,Zeq,Zet,Zev,Zew,Zex,Zez,Ze0,Ze1,Ze2,Ze3,Ze4,Ze5,Ze8,Zfb,Zfc,Zfd,Zfe,Zff,Zfg,Zfh,Zfi,Zfk,Zfl,Zfn,Zfq,Zfr,Zf1,Zf3,Zf4,Zgr,Zgs,Zgt,Zgu,Zgv,Zgw,Zgx,Zg4,Zg5,Zg6,Zhd,Zhe,Zhf,Zhg,Zhh,Zhm,Zhn,Zho,Zhs,Zht,Zhu,Zh6,Zh7,Zh9,Ziq,Zir,Ziu,Ziv,Ziw,Zix,Ztm,Ztn,Ziy,Ziz,Zi0,Zi2,Zi3,Zi6,Zi7,Zje,Zjg,Zjh,Zji,Zjj,Zjk,Zjl,Zjm,Zjn,Zjo,Zjp,Zjr,Zj3,Zkl,Zla,Zlb,Zle,Zll,Zlz,Zmt,Zmv,Zmw,Zmx,Zmz,Zm2,Zm6,Zna,Znb,Znc,Znd,Zne,Znf,Zng,Znh,Znl,Znm,Znn,Zno,Znp,Znr,Zns,Znt,Znu,Znw,Znx,Zn1,Zn5,Zod,Zof,Zog,Zoh,Zos,Zot,Zou,Zo7,Zo8,Zo9,Zpa,Zpc,Zpi,Zpm,Zpo,Zpr,Zpv,Zpy,Zp0,Zp1,Zp2,Zp3,Zqb,Zqc,Zqf,Zqg,Zqh,Zqi,Zqj,Zqk,Zql,Zqm,Zqn,Zqo,Zqr,List.append_assoc,List.length_append,List.length_drop,eq_self,true_and,and_true,and_false,not_false_eq_true,Nat.zero_add,Nat.mul_one,List.length_append]
          tactic =>
          rw [cP_append]
          refine rs_app (rs_self (cP_okI P)) ?_
          show rv1s _ _ _ _ [I 0, I 0, fB (q ++ [x])]
          sym =>
          simp [Zaa,Zab,Zac,Zad,Zae,Zaf,Zag,Zah,Zai,Zak,Zal,Zam,Zan,Zap,Zaq,Zav,Zaw,Zay,Zaz,Za0,Za1,Za2,Za3,Za4,Za5,Za6,Za7,Za8,Za9,Zba,Zbb,Zbc,Zbd,Zbf,Zbg,Zbt,Zbu,Zbv,Zbw,Zb1,Zb2,Zb9,Zci,Zcn,Zcz,Zc0,Zc4,Zc5,Zc6,Zc7,Zc8,Zc9,Zdf,Zdg,Zdh,Zdj,Zdk,Ztk,Zdo,Zdp,Zdt,Zdu,Zdv,Zdw,Zdx,Zdy,Zdz,Zd0,Zd1,Zd2,Zd5,Zeb,Zee,Zeh,Zek,Zeq,Zet,Zev,Zew,Zex,Zez,Ze0,Ze1,Ze2,Ze3,Ze4,Ze5,Ze8,Zfb,Zfc,Zfd,Zfe,Zff,Zfg,Zfh,Zfi,Zfk,Zfl,Zfn,Zfq,Zfr,Zf1,Zf3,Zf4,Zgr,Zgs,Zgt,Zgu,Zgv,Zgw,Zgx,Zg4,Zg5,Zg6,Zhd,Zhe,Zhf,Zhg,Zhh,Zhm,Zhn,Zho,Zhs,Zht,Zhu,Zh6,Zh7,Zh9,Ziq,Zir,Ziu,Ziv,Ziw,Zix,Ztm,Ztn,Ziy,Ziz,Zi0,Zi2,Zi3,Zi6,Zi7,Zje,Zjg,Zjh,Zji,Zjj,Zjk,Zjl,Zjm,Zjn,Zjo,Zjp,Zjr,Zj3,Zkl,Zla,Zlb,Zle,Zll,Zlz,Zmt,Zmv,Zmw,Zmx,Zmz,Zm2,Zm6,Zna,Znb,Znc,Znd,Zne,Znf,Zng,Znh,Znl,Znm,Znn,Zno,Znp,Znr,Zns,Znt,Znu,Znw,Znx,Zn1,Zn5,Zod,Zof,Zog,Zoh,Zos,Zot,Zou,Zo7,Zo8,Zo9,Zpa,Zpc,Zpi,Zpm,Zpo,Zpr,Zpv,Zpy,Zp0,Zp1,Zp2,Zp3,Zqb,Zqc,Zqf,Zqg,Zqh,Zqi,Zqj,Zqk,Zql,Zqm,Zqn,Zqo,Zqr,List.append_assoc,List.length_append,List.length_drop,eq_self,true_and,and_true,and_false,not_false_eq_true,Nat.zero_add,Nat.mul_one,List.length_append]
          tactic =>
          exact ⟨by rw [cB_append]; symm; exact List.take_of_length_le (by simp [cB_length]), by rw [cB_length]; exact Nat.le_refl _, hqI⟩
        · unfold NextL
          refine ⟨fresh.length - (at' + 1), [(0, 0), (1, 38)], _, by omega, ⟨P, q ++ [x], at' + 1, m, hm, by omega, by omega, rfl, hc, by simp only [List.length_append, List.length_cons, List.length_nil] at hb ⊢; omega, .inr ⟨by simp, by omega, rfl⟩⟩, wkA ?_⟩
          sym =>
          simp [Zaa,Zab,Zac,Zad,Zae,Zaf,Zag,Zah,Zai,Zak,Zal,Zam,Zan,Zap,Zaq,Zav,Zaw,Zay,Zaz,Za0,Za1,Za2,Za3,Za4,Za5,Za6,Za7,Za8,Za9,Zba,Zbb,Zbc,Zbd,Zbf,Zbg,Zbt,Zbu,Zbv,Zbw,Zb1,Zb2,Zb9,Zci,Zcn,Zcz,Zc0,Zc4,Zc5,Zc6,Zc7,Zc8,Zc9,Zdf,Zdg,Zdh,Zdj,Zdk,Ztk,Zdo,Zdp,Zdt,Zdu,Zdv,Zdw,Zdx,Zdy,Zdz,Zd0,Zd1,Zd2,Zd5,Zeb,Zee,Zeh,Zek,Zeq,Zet,Zev,Zew,Zex,Zez,Ze0,Ze1,Ze2,Ze3,Ze4,Ze5,Ze8,Zfb,Zfc,Zfd,Zfe,Zff,Zfg,Zfh,Zfi,Zfk,Zfl,Zfn,Zfq,Zfr,Zf1,Zf3,Zf4,Zgr,Zgs,Zgt,Zgu,Zgv,Zgw,Zgx,Zg4,Zg5,Zg6,Zhd,Zhe,Zhf,Zhg,Zhh,Zhm,Zhn,Zho,Zhs,Zht,Zhu,Zh6,Zh7,Zh9,Ziq,Zir,Ziu,Ziv,Ziw,Zix,Ztm,Ztn,Ziy,Ziz,Zi0,Zi2,Zi3,Zi6,Zi7,Zje,Zjg,Zjh,Zji,Zjj,Zjk,Zjl,Zjm,Zjn,Zjo,Zjp,Zjr,Zj3,Zkl,Zla,Zlb,Zle,Zll,Zlz,Zmt,Zmv,Zmw,Zmx,Zmz,Zm2,Zm6,Zna,Znb,Znc,Znd,Zne,Znf,Zng,Znh,Znl,Znm,Znn,Zno,Znp,Znr,Zns,Znt,Znu,Znw,Znx,Zn1,Zn5,Zod,Zof,Zog,Zoh,Zos,Zot,Zou,Zo7,Zo8,Zo9,Zpa,Zpc,Zpi,Zpm,Zpo,Zpr,Zpv,Zpy,Zp0,Zp1,Zp2,Zp3,Zqb,Zqc,Zqf,Zqg,Zqh,Zqi,Zqj,Zqk,Zql,Zqm,Zqn,Zqo,Zqr,List.append_assoc,List.length_append,List.length_drop,eq_self,true_and,and_true,and_false,not_false_eq_true,Nat.zero_add,Nat.mul_one,List.length_append]
          tactic =>
          refine ⟨rs_app (rs_self (cP_okI P)) ?_, ?_⟩
          · sym =>
            simp [Zaa,Zab,Zac,Zad,Zae,Zaf,Zag,Zah,Zai,Zak,Zal,Zam,Zan,Zap,Zaq,Zav,Zaw,Zay,Zaz,Za0,Za1,Za2,Za3,Za4,Za5,Za6,Za7,Za8,Za9,Zba,Zbb,Zbc,Zbd,Zbf,Zbg,Zbt,Zbu,Zbv,Zbw,Zb1,Zb2,Zb9,Zci,Zcn,Zcz,Zc0,Zc4,Zc5,Zc6,Zc7,Zc8,Zc9,Zdf,Zdg,Zdh,Zdj,Zdk,Ztk,Zdo,Zdp,Zdt,Zdu,Zdv,Zdw,Zdx,Zdy,Zdz,Zd0,Zd1,Zd2,Zd5,Zeb,Zee,Zeh,Zek,Zeq,Zet,Zev,Zew,Zex,Zez,Ze0,Ze1,Ze2,Ze3,Ze4,Ze5,Ze8,Zfb,Zfc,Zfd,Zfe,Zff,Zfg,Zfh,Zfi,Zfk,Zfl,Zfn,Zfq,Zfr,Zf1,Zf3,Zf4,Zgr,Zgs,Zgt,Zgu,Zgv,Zgw,Zgx,Zg4,Zg5,Zg6,Zhd,Zhe,Zhf,Zhg,Zhh,Zhm,Zhn,Zho,Zhs,Zht,Zhu,Zh6,Zh7,Zh9,Ziq,Zir,Ziu,Ziv,Ziw,Zix,Ztm,Ztn,Ziy,Ziz,Zi0,Zi2,Zi3,Zi6,Zi7,Zje,Zjg,Zjh,Zji,Zjj,Zjk,Zjl,Zjm,Zjn,Zjo,Zjp,Zjr,Zj3,Zkl,Zla,Zlb,Zle,Zll,Zlz,Zmt,Zmv,Zmw,Zmx,Zmz,Zm2,Zm6,Zna,Znb,Znc,Znd,Zne,Znf,Zng,Znh,Znl,Znm,Znn,Zno,Znp,Znr,Zns,Znt,Znu,Znw,Znx,Zn1,Zn5,Zod,Zof,Zog,Zoh,Zos,Zot,Zou,Zo7,Zo8,Zo9,Zpa,Zpc,Zpi,Zpm,Zpo,Zpr,Zpv,Zpy,Zp0,Zp1,Zp2,Zp3,Zqb,Zqc,Zqf,Zqg,Zqh,Zqi,Zqj,Zqk,Zql,Zqm,Zqn,Zqo,Zqr,List.append_assoc,List.length_append,List.length_drop,eq_self,true_and,and_true,and_false,not_false_eq_true,Nat.zero_add,Nat.mul_one,List.length_append]
          · exact cB_rs _ _ _ _ _ (by rw [cB_append]; rfl)
  · have hlt2 : at' = fresh.length := by omega
    have hfin : fin P q = R := by
      rw [← hm, hlt2, List.drop_length]; cases n <;> rfl
    rcases hs with ⟨hq, rfl⟩ | ⟨_, hq, rfl⟩
    · rw [hfin]
      sym =>
      simp [Zaa,Zab,Zac,Zad,Zae,Zaf,Zag,Zah,Zai,Zak,Zal,Zam,Zan,Zap,Zaq,Zav,Zaw,Zay,Zaz,Za0,Za1,Za2,Za3,Za4,Za5,Za6,Za7,Za8,Za9,Zba,Zbb,Zbc,Zbd,Zbf,Zbg,Zbt,Zbu,Zbv,Zbw,Zb1,Zb2,Zb9,Zci,Zcn,Zcz,Zc0,Zc4,Zc5,Zc6,Zc7,Zc8,Zc9,Zdf,Zdg,Zdh,Zdj,Zdk,Ztk,Zdo,Zdp,Zdt,Zdu,Zdv,Zdw,Zdx,Zdy,Zdz,Zd0,Zd1,Zd2,Zd5,Zeb,Zee,Zeh,Zek,Zeq,Zet,Zev,Zew,Zex,Zez,Ze0,Ze1,Ze2,Ze3,Ze4,Ze5,Ze8,Zfb,Zfc,Zfd,Zfe,Zff,Zfg,Zfh,Zfi,Zfk,Zfl,Zfn,Zfq,Zfr,Zf1,Zf3,Zf4,Zgr,Zgs,Zgt,Zgu,Zgv,Zgw,Zgx,Zg4,Zg5,Zg6,Zhd,Zhe,Zhf,Zhg,Zhh,Zhm,Zhn,Zho,Zhs,Zht,Zhu,Zh6,Zh7,Zh9,Ziq,Zir,Ziu,Ziv,Ziw,Zix,Ztm,Ztn,Ziy,Ziz,Zi0,Zi2,Zi3,Zi6,Zi7,Zje,Zjg,Zjh,Zji,Zjj,Zjk,Zjl,Zjm,Zjn,Zjo,Zjp,Zjr,Zj3,Zkl,Zla,Zlb,Zle,Zll,Zlz,Zmt,Zmv,Zmw,Zmx,Zmz,Zm2,Zm6,Zna,Znb,Znc,Znd,Zne,Znf,Zng,Znh,Znl,Znm,Znn,Zno,Znp,Znr,Zns,Znt,Znu,Znw,Znx,Zn1,Zn5,Zod,Zof,Zog,Zoh,Zos,Zot,Zou,Zo7,Zo8,Zo9,Zpa,Zpc,Zpi,Zpm,Zpo,Zpr,Zpv,Zpy,Zp0,Zp1,Zp2,Zp3,Zqb,Zqc,Zqf,Zqg,Zqh,Zqi,Zqj,Zqk,Zql,Zqm,Zqn,Zqo,Zqr,List.append_assoc,List.length_append,List.length_drop,eq_self,true_and,and_true,and_false,not_false_eq_true,Nat.zero_add,Nat.mul_one,hlt]
      tactic =>
      refine endA ?_
      sym =>
      simp [Zaa,Zab,Zac,Zad,Zae,Zaf,Zag,Zah,Zai,Zak,Zal,Zam,Zan,Zap,Zaq,Zav,Zaw,Zay,Zaz,Za0,Za1,Za2,Za3,Za4,Za5,Za6,Za7,Za8,Za9,Zba,Zbb,Zbc,Zbd,Zbf,Zbg,Zbt,Zbu,Zbv,Zbw,Zb1,Zb2,Zb9,Zci,Zcn,Zcz,Zc0,Zc4,Zc5,Zc6,Zc7,Zc8,Zc9,Zdf,Zdg,Zdh,Zdj,Zdk,Ztk,Zdo,Zdp,Zdt,Zdu,Zdv,Zdw,Zdx,Zdy,Zdz,Zd0,Zd1,Zd2,Zd5,Zeb,Zee,Zeh,Zek,Zeq,Zet,Zev,Zew,Zex,Zez,Ze0,Ze1,Ze2,Ze3,Ze4,Ze5,Ze8,Zfb,Zfc,Zfd,Zfe,Zff,Zfg,Zfh,Zfi,Zfk,Zfl,Zfn,Zfq,Zfr,Zf1,Zf3,Zf4,Zgr,Zgs,Zgt,Zgu,Zgv,Zgw,Zgx,Zg4,Zg5,Zg6,Zhd,Zhe,Zhf,Zhg,Zhh,Zhm,Zhn,Zho,Zhs,Zht,Zhu,Zh6,Zh7,Zh9,Ziq,Zir,Ziu,Ziv,Ziw,Zix,Ztm,Ztn,Ziy,Ziz,Zi0,Zi2,Zi3,Zi6,Zi7,Zje,Zjg,Zjh,Zji,Zjj,Zjk,Zjl,Zjm,Zjn,Zjo,Zjp,Zjr,Zj3,Zkl,Zla,Zlb,Zle,Zll,Zlz,Zmt,Zmv,Zmw,Zmx,Zmz,Zm2,Zm6,Zna,Znb,Znc,Znd,Zne,Znf,Zng,Znh,Znl,Znm,Znn,Zno,Znp,Znr,Zns,Znt,Znu,Znw,Znx,Zn1,Zn5,Zod,Zof,Zog,Zoh,Zos,Zot,Zou,Zo7,Zo8,Zo9,Zpa,Zpc,Zpi,Zpm,Zpo,Zpr,Zpv,Zpy,Zp0,Zp1,Zp2,Zp3,Zqb,Zqc,Zqf,Zqg,Zqh,Zqi,Zqj,Zqk,Zql,Zqm,Zqn,Zqo,Zqr,List.append_assoc,List.length_append,List.length_drop,eq_self,true_and,and_true,and_false,not_false_eq_true,Nat.zero_add,Nat.mul_one]
      tactic =>
      exact ⟨(cP_all R).symm, by rw [cP_length]; exact Nat.le_refl _, cP_okI R⟩
    · exact absurd hq hlt
end Go.Proofs.Ytdjjibmjinllnaa.DelB
