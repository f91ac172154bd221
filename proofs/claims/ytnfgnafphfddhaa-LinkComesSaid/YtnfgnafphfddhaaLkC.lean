import Derived.Test.YtnfgnafphfddhaaLkB
namespace Go.Proofs.Ytnfgnafphfddhaa.LkC
open Go Go.Sim Go.Sim.E Go.RowKit Go.Proofs Go.Proofs.Ytnfgnafphfddhaa.Cod Go.Proofs.Ytnfgnafphfddhaa.Tab Go.Proofs.Ytnfgnafphfddhaa.Bse Go.Proofs.Ytnfgnafphfddhaa.LkA Go.Proofs.Ytnfgnafphfddhaa.LkB
set_option linter.unusedVariables false
set_option linter.unusedSimpArgs false
set_option maxRecDepth 100000
set_option maxHeartbeats 4000000
theorem send4_con (room : Nat) (L : List (List Int)) (s lo : Int) (d : List Int) (at' b0 b1 b2 b3 : Int) (hr : room ≤ 1000) (hL : L.length ≤ room) (hd : d.length ≤ 1000) (ha : 0 ≤ at' ∧ at' < 65536) : ∃ L' s' lo', L'.length ≤ room ∧ (∀ e ∈ L', e ∈ L ∨ e.length = d.length) ∧ Con Try.prog 20 [] [lkA (IN room) L s lo, fB d, ftA 4 at' b0 b1 b2 b3] [] (lkA (IN room) L' s' lo') := by
  have hrl := cR_length L
  by_cases h : d.length < 4
  · refine ⟨L, IntKind.i64.wrap (s + 1), IntKind.i64.wrap (lo + 1), hL, fun e he => .inl he, ?_⟩
    have ht := turn_short d 4 at' b0 b1 b2 b3 h
    refine con_j b20 rfl ?_
    sym =>
    simp [Zaa,Zab,Zad,Zae,Zaf,Zag,Zak,Zal,Zam,Zao,Zap,Zar,Zaz,Za0,Za1,Za2,Za3,Za4,Za5,Za9,Zba,Zbb,Zbf,Zbj,Zbt,Zbv,Zb7,Zcv,Zcx,Zc3,Zdc,Zdd,Zde,Zdi,Zdm,Zrj,Zrl,Zrm,Zrn,Zro,Zrp,Zrq,Zrr,Zva,Zru,Zrx,Zry,Zrz,Zr5,Zr7,Zxa,Zxc,Zxd,Zsf,Zsh,Zsj,Zsm,Zsn,Zso,Zsr,Zs7,Zta,Zte,Zev,Zew,Zez,Ze0,Ze1,Ze2,Ze3,Ze5,Ze8,Zfc,Zfd,Zfe,Zfh,Zfn,Zfq,Zfz,Zgd,Zgg,Zgr,Zgs,Zgt,Zgv,Zgw,Zgx,Zhb,Zhc,Zin,Zio,Zip,Ziu,Ziv,Ziw,Zi6,Zi7,Zjh,Zji,Zjn,Zjp,Zj7,Zj9,Zka,Zky,Zk0,Zk4,Zla,Zlb,Zlc,Zld,Zle,Zlf,Zlh,Zlk,Zll,Zlm,Zlz,Zl2,Zmt,Zmv,Zmw,Zmy,Zm0,Zm1,Zm2,Zm5,Zm6,Zm7,Zm9,Zna,Znb,Zne,Znf,Zng,Znn,Zno,Znp,Zos,Zot,Zo3,Zo4,Zo7,Zo8,Zo9,Zpa,Zpg,Zp8,Zqb,Zqc,eq_self,true_and,and_true,Bool.and_true,callable_15]
    tactic =>
    refine cl none (ht) trivial ?_
    sym =>
    simp [Zaa,Zab,Zad,Zae,Zaf,Zag,Zak,Zal,Zam,Zao,Zap,Zar,Zaz,Za0,Za1,Za2,Za3,Za4,Za5,Za9,Zba,Zbb,Zbf,Zbj,Zbt,Zbv,Zb7,Zcv,Zcx,Zc3,Zdc,Zdd,Zde,Zdi,Zdm,Zrj,Zrl,Zrm,Zrn,Zro,Zrp,Zrq,Zrr,Zva,Zru,Zrx,Zry,Zrz,Zr5,Zr7,Zxa,Zxc,Zxd,Zsf,Zsh,Zsj,Zsm,Zsn,Zso,Zsr,Zs7,Zta,Zte,Zev,Zew,Zez,Ze0,Ze1,Ze2,Ze3,Ze5,Ze8,Zfc,Zfd,Zfe,Zfh,Zfn,Zfq,Zfz,Zgd,Zgg,Zgr,Zgs,Zgt,Zgv,Zgw,Zgx,Zhb,Zhc,Zin,Zio,Zip,Ziu,Ziv,Ziw,Zi6,Zi7,Zjh,Zji,Zjn,Zjp,Zj7,Zj9,Zka,Zky,Zk0,Zk4,Zla,Zlb,Zlc,Zld,Zle,Zlf,Zlh,Zlk,Zll,Zlm,Zlz,Zl2,Zmt,Zmv,Zmw,Zmy,Zm0,Zm1,Zm2,Zm5,Zm6,Zm7,Zm9,Zna,Znb,Zne,Znf,Zng,Znn,Zno,Znp,Zos,Zot,Zo3,Zo4,Zo7,Zo8,Zo9,Zpa,Zpg,Zp8,Zqb,Zqc,eq_self,true_and,and_true,Bool.and_true]
    tactic =>
    refine endA ?_
    sym =>
    simp [Zaa,Zab,Zad,Zae,Zaf,Zag,Zak,Zal,Zam,Zao,Zap,Zar,Zaz,Za0,Za1,Za2,Za3,Za4,Za5,Za9,Zba,Zbb,Zbf,Zbj,Zbt,Zbv,Zb7,Zcv,Zcx,Zc3,Zdc,Zdd,Zde,Zdi,Zdm,Zrj,Zrl,Zrm,Zrn,Zro,Zrp,Zrq,Zrr,Zva,Zru,Zrx,Zry,Zrz,Zr5,Zr7,Zxa,Zxc,Zxd,Zsf,Zsh,Zsj,Zsm,Zsn,Zso,Zsr,Zs7,Zta,Zte,Zev,Zew,Zez,Ze0,Ze1,Ze2,Ze3,Ze5,Ze8,Zfc,Zfd,Zfe,Zfh,Zfn,Zfq,Zfz,Zgd,Zgg,Zgr,Zgs,Zgt,Zgv,Zgw,Zgx,Zhb,Zhc,Zin,Zio,Zip,Ziu,Ziv,Ziw,Zi6,Zi7,Zjh,Zji,Zjn,Zjp,Zj7,Zj9,Zka,Zky,Zk0,Zk4,Zla,Zlb,Zlc,Zld,Zle,Zlf,Zlh,Zlk,Zll,Zlm,Zlz,Zl2,Zmt,Zmv,Zmw,Zmy,Zm0,Zm1,Zm2,Zm5,Zm6,Zm7,Zm9,Zna,Znb,Zne,Znf,Zng,Znn,Zno,Znp,Zos,Zot,Zo3,Zo4,Zo7,Zo8,Zo9,Zpa,Zpg,Zp8,Zqb,Zqc,eq_self,true_and,and_true,Bool.and_true]
  · have ht := turn_con d 4 at' b0 b1 b2 b3 (by omega) hd ha
    obtain ⟨t, hT⟩ : ∃ t, t = trF d at' b0 b1 b2 b3 := ⟨_, rfl⟩
    have htl : t.length = d.length := by rw [hT]; exact trK_length ..
    rw [← hT] at ht
    obtain ⟨l1, c1⟩ := put_con room L (IntKind.i64.wrap (s + 1)) lo t hr (by omega) (by omega)
    refine ⟨putL room L t, IntKind.i64.wrap (s + 1), l1, putL_len _ _ _ hL, fun e he => (putL_mem he).imp _root_.id (fun e => by rw [e, htl]), ?_⟩
    obtain ⟨M, hM⟩ : ∃ M, M = putL room L t := ⟨_, rfl⟩
    rw [← hM] at c1 ⊢
    refine con_j b20 rfl ?_
    sym =>
    simp [Zaa,Zab,Zad,Zae,Zaf,Zag,Zak,Zal,Zam,Zao,Zap,Zar,Zaz,Za0,Za1,Za2,Za3,Za4,Za5,Za9,Zba,Zbb,Zbf,Zbj,Zbt,Zbv,Zb7,Zcv,Zcx,Zc3,Zdc,Zdd,Zde,Zdi,Zdm,Zrj,Zrl,Zrm,Zrn,Zro,Zrp,Zrq,Zrr,Zva,Zru,Zrx,Zry,Zrz,Zr5,Zr7,Zxa,Zxc,Zxd,Zsf,Zsh,Zsj,Zsm,Zsn,Zso,Zsr,Zs7,Zta,Zte,Zev,Zew,Zez,Ze0,Ze1,Ze2,Ze3,Ze5,Ze8,Zfc,Zfd,Zfe,Zfh,Zfn,Zfq,Zfz,Zgd,Zgg,Zgr,Zgs,Zgt,Zgv,Zgw,Zgx,Zhb,Zhc,Zin,Zio,Zip,Ziu,Ziv,Ziw,Zi6,Zi7,Zjh,Zji,Zjn,Zjp,Zj7,Zj9,Zka,Zky,Zk0,Zk4,Zla,Zlb,Zlc,Zld,Zle,Zlf,Zlh,Zlk,Zll,Zlm,Zlz,Zl2,Zmt,Zmv,Zmw,Zmy,Zm0,Zm1,Zm2,Zm5,Zm6,Zm7,Zm9,Zna,Znb,Zne,Znf,Zng,Znn,Zno,Znp,Zos,Zot,Zo3,Zo4,Zo7,Zo8,Zo9,Zpa,Zpg,Zp8,Zqb,Zqc,eq_self,true_and,and_true,Bool.and_true,callable_15]
    tactic =>
    refine cl none (ht) trivial ?_
    sym =>
    simp [Zaa,Zab,Zad,Zae,Zaf,Zag,Zak,Zal,Zam,Zao,Zap,Zar,Zaz,Za0,Za1,Za2,Za3,Za4,Za5,Za9,Zba,Zbb,Zbf,Zbj,Zbt,Zbv,Zb7,Zcv,Zcx,Zc3,Zdc,Zdd,Zde,Zdi,Zdm,Zrj,Zrl,Zrm,Zrn,Zro,Zrp,Zrq,Zrr,Zva,Zru,Zrx,Zry,Zrz,Zr5,Zr7,Zxa,Zxc,Zxd,Zsf,Zsh,Zsj,Zsm,Zsn,Zso,Zsr,Zs7,Zta,Zte,Zev,Zew,Zez,Ze0,Ze1,Ze2,Ze3,Ze5,Ze8,Zfc,Zfd,Zfe,Zfh,Zfn,Zfq,Zfz,Zgd,Zgg,Zgr,Zgs,Zgt,Zgv,Zgw,Zgx,Zhb,Zhc,Zin,Zio,Zip,Ziu,Ziv,Ziw,Zi6,Zi7,Zjh,Zji,Zjn,Zjp,Zj7,Zj9,Zka,Zky,Zk0,Zk4,Zla,Zlb,Zlc,Zld,Zle,Zlf,Zlh,Zlk,Zll,Zlm,Zlz,Zl2,Zmt,Zmv,Zmw,Zmy,Zm0,Zm1,Zm2,Zm5,Zm6,Zm7,Zm9,Zna,Znb,Zne,Znf,Zng,Znn,Zno,Znp,Zos,Zot,Zo3,Zo4,Zo7,Zo8,Zo9,Zpa,Zpg,Zp8,Zqb,Zqc,eq_self,true_and,and_true,Bool.and_true,callable_63]
    tactic =>
    refine clG [] none c1 rfl ⟨trivial, trivial, rfl⟩ ?_
    sym =>
    simp [Zaa,Zab,Zad,Zae,Zaf,Zag,Zak,Zal,Zam,Zao,Zap,Zar,Zaz,Za0,Za1,Za2,Za3,Za4,Za5,Za9,Zba,Zbb,Zbf,Zbj,Zbt,Zbv,Zb7,Zcv,Zcx,Zc3,Zdc,Zdd,Zde,Zdi,Zdm,Zrj,Zrl,Zrm,Zrn,Zro,Zrp,Zrq,Zrr,Zva,Zru,Zrx,Zry,Zrz,Zr5,Zr7,Zxa,Zxc,Zxd,Zsf,Zsh,Zsj,Zsm,Zsn,Zso,Zsr,Zs7,Zta,Zte,Zev,Zew,Zez,Ze0,Ze1,Ze2,Ze3,Ze5,Ze8,Zfc,Zfd,Zfe,Zfh,Zfn,Zfq,Zfz,Zgd,Zgg,Zgr,Zgs,Zgt,Zgv,Zgw,Zgx,Zhb,Zhc,Zin,Zio,Zip,Ziu,Ziv,Ziw,Zi6,Zi7,Zjh,Zji,Zjn,Zjp,Zj7,Zj9,Zka,Zky,Zk0,Zk4,Zla,Zlb,Zlc,Zld,Zle,Zlf,Zlh,Zlk,Zll,Zlm,Zlz,Zl2,Zmt,Zmv,Zmw,Zmy,Zm0,Zm1,Zm2,Zm5,Zm6,Zm7,Zm9,Zna,Znb,Zne,Znf,Zng,Znn,Zno,Znp,Zos,Zot,Zo3,Zo4,Zo7,Zo8,Zo9,Zpa,Zpg,Zp8,Zqb,Zqc,eq_self,true_and,and_true,Bool.and_true]
    tactic =>
    refine endA ?_
    sym =>
    simp [Zaa,Zab,Zad,Zae,Zaf,Zag,Zak,Zal,Zam,Zao,Zap,Zar,Zaz,Za0,Za1,Za2,Za3,Za4,Za5,Za9,Zba,Zbb,Zbf,Zbj,Zbt,Zbv,Zb7,Zcv,Zcx,Zc3,Zdc,Zdd,Zde,Zdi,Zdm,Zrj,Zrl,Zrm,Zrn,Zro,Zrp,Zrq,Zrr,Zva,Zru,Zrx,Zry,Zrz,Zr5,Zr7,Zxa,Zxc,Zxd,Zsf,Zsh,Zsj,Zsm,Zsn,Zso,Zsr,Zs7,Zta,Zte,Zev,Zew,Zez,Ze0,Ze1,Ze2,Ze3,Ze5,Ze8,Zfc,Zfd,Zfe,Zfh,Zfn,Zfq,Zfz,Zgd,Zgg,Zgr,Zgs,Zgt,Zgv,Zgw,Zgx,Zhb,Zhc,Zin,Zio,Zip,Ziu,Ziv,Ziw,Zi6,Zi7,Zjh,Zji,Zjn,Zjp,Zj7,Zj9,Zka,Zky,Zk0,Zk4,Zla,Zlb,Zlc,Zld,Zle,Zlf,Zlh,Zlk,Zll,Zlm,Zlz,Zl2,Zmt,Zmv,Zmw,Zmy,Zm0,Zm1,Zm2,Zm5,Zm6,Zm7,Zm9,Zna,Znb,Zne,Znf,Zng,Znn,Zno,Znp,Zos,Zot,Zo3,Zo4,Zo7,Zo8,Zo9,Zpa,Zpg,Zp8,Zqb,Zqc,eq_self,true_and,and_true,Bool.and_true]
theorem next_con (room s lo : Int) (d : List Int) (L : List (List Int)) (hd : d.length ≤ 1000) : Con Try.prog 22 [] [lkA room (d :: L) s lo] [(0, ⟨cB d, 1, 0⟩)] (.tu [lkA room L s lo, .lv 0 0 d.length, Bo true]) := by
  have hc := bclone_con d (by omega)
  have hrl := cR_length L
  have hra := cR_all L
  obtain ⟨M, hM⟩ : ∃ M, M = d :: L := ⟨_, rfl⟩
  have hMl : M.length = L.length + 1 := by rw [hM]; rfl
  have hMg : (cR M).getD 0 .un = fB d := by rw [hM]; rfl
  have hMd : List.drop 1 (cR M) = cR L := by rw [hM]; rfl
  have hMq := cR_length M
  have h0 : ¬ M.length = 0 := by omega
  have h1 : 0 < M.length := by omega
  have h2 : 1 ≤ M.length := by omega
  have h3 : M.length - 1 = L.length := by omega
  rw [← hM]
  refine con_o b22 rfl ?_
  sym =>
  simp [Zaa,Zab,Zad,Zae,Zaf,Zak,Zal,Zam,Zaz,Za0,Za1,Za2,Za3,Za4,Za5,Za9,Zba,Zbb,Zbf,Zbt,Zbv,Zb1,Zch,Zcn,Zcv,Zcx,Zc3,Zdm,Zrj,Zrl,Zrm,Zrn,Zro,Zrp,Zrq,Zrr,Zva,Zru,Zrx,Zry,Zrz,Zr5,Zsf,Zsh,Zsj,Zsm,Zsn,Zso,Zss,Zsy,Zth,Zev,Zew,Zez,Ze0,Ze1,Ze2,Ze3,Ze5,Ze8,Zfc,Zfd,Zfe,Zfh,Zfn,Zfz,Zgr,Zgs,Zgt,Zgu,Zgv,Zgw,Zgx,Zg4,Zg6,Zhm,Zhn,Zho,Zhs,Zht,Zhu,Zh6,Zh7,Zin,Zio,Zip,Ziu,Ziv,Ziw,Zi6,Zjb,Zjh,Zji,Zjn,Zj7,Zll,Zl2,Zmt,Zmv,Zmw,Zmx,Zmy,Zmz,Zm0,Zm1,Zm3,Zm5,Zm6,Zm7,Zm9,Zna,Znb,Zne,Znf,Zng,Znn,Zno,Znp,Znr,Zns,Znu,Znx,Zny,Zrd,Zos,Zot,Zo7,Zo9,Zpa,Zpb,Zpg,Zpn,Zp7,Zp9,Zqb,Zqc,Zqd,Zqe,Zqh,Zqi,Zqk,Zql,Zqm,Zqn,eq_self,true_and,and_true,Nat.mul_one,h0,h1,h2,hMg,hMq,callable_62]
  tactic =>
  refine clG [] (some ⟨cB d, 1, 0⟩) hc rfl ⟨trivial, cB_okI _, rfl⟩ ?_
  sym =>
  simp [Zaa,Zab,Zad,Zae,Zaf,Zak,Zal,Zam,Zaz,Za0,Za1,Za2,Za3,Za4,Za5,Za9,Zba,Zbb,Zbf,Zbt,Zbv,Zb1,Zch,Zcn,Zcv,Zcx,Zc3,Zdm,Zrj,Zrl,Zrm,Zrn,Zro,Zrp,Zrq,Zrr,Zva,Zru,Zrx,Zry,Zrz,Zr5,Zsf,Zsh,Zsj,Zsm,Zsn,Zso,Zss,Zsy,Zth,Zev,Zew,Zez,Ze0,Ze1,Ze2,Ze3,Ze5,Ze8,Zfc,Zfd,Zfe,Zfh,Zfn,Zfz,Zgr,Zgs,Zgt,Zgu,Zgv,Zgw,Zgx,Zg4,Zg6,Zhm,Zhn,Zho,Zhs,Zht,Zhu,Zh6,Zh7,Zin,Zio,Zip,Ziu,Ziv,Ziw,Zi6,Zjb,Zjh,Zji,Zjn,Zj7,Zll,Zl2,Zmt,Zmv,Zmw,Zmx,Zmy,Zmz,Zm0,Zm1,Zm3,Zm5,Zm6,Zm7,Zm9,Zna,Znb,Zne,Znf,Zng,Znn,Zno,Znp,Znr,Zns,Znu,Znx,Zny,Zrd,Zos,Zot,Zo7,Zo9,Zpa,Zpb,Zpg,Zpn,Zp7,Zp9,Zqb,Zqc,Zqd,Zqe,Zqh,Zqi,Zqk,Zql,Zqm,Zqn,eq_self,true_and,and_true,Nat.mul_one,h2,h3,hMd,hra,hMq]
  tactic =>
  refine ⟨⟨by simp only [IN]; omega, Nat.le_refl _⟩, ?_⟩
  refine endO [(0, 12)] (nx := 13) ?_
  sym =>
  simp [Zaa,Zab,Zad,Zae,Zaf,Zak,Zal,Zam,Zaz,Za0,Za1,Za2,Za3,Za4,Za5,Za9,Zba,Zbb,Zbf,Zbt,Zbv,Zb1,Zch,Zcn,Zcv,Zcx,Zc3,Zdm,Zrj,Zrl,Zrm,Zrn,Zro,Zrp,Zrq,Zrr,Zva,Zru,Zrx,Zry,Zrz,Zr5,Zsf,Zsh,Zsj,Zsm,Zsn,Zso,Zss,Zsy,Zth,Zev,Zew,Zez,Ze0,Ze1,Ze2,Ze3,Ze5,Ze8,Zfc,Zfd,Zfe,Zfh,Zfn,Zfz,Zgr,Zgs,Zgt,Zgu,Zgv,Zgw,Zgx,Zg4,Zg6,Zhm,Zhn,Zho,Zhs,Zht,Zhu,Zh6,Zh7,Zin,Zio,Zip,Ziu,Ziv,Ziw,Zi6,Zjb,Zjh,Zji,Zjn,Zj7,Zll,Zl2,Zmt,Zmv,Zmw,Zmx,Zmy,Zmz,Zm0,Zm1,Zm3,Zm5,Zm6,Zm7,Zm9,Zna,Znb,Zne,Znf,Zng,Znn,Zno,Znp,Znr,Zns,Znu,Znx,Zny,Zrd,Zos,Zot,Zo7,Zo9,Zpa,Zpb,Zpg,Zpn,Zp7,Zp9,Zqb,Zqc,Zqd,Zqe,Zqh,Zqi,Zqk,Zql,Zqm,Zqn,eq_self,true_and,and_true,Nat.mul_one]
  tactic =>
  exact rs_self (cB_okI d)
theorem next_conF (room s lo : Int) (d : List Int) (L : List (List Int)) (hd : d.length ≤ 1000) : Con Try.prog 22 [] [lkA room (d :: L) s lo] [] (.tu [lkA room L s lo, fB d, Bo true]) := by
  have hc := clone_con d (by omega)
  have hrl := cR_length L
  have hra := cR_all L
  obtain ⟨M, hM⟩ : ∃ M, M = d :: L := ⟨_, rfl⟩
  have hMl : M.length = L.length + 1 := by rw [hM]; rfl
  have hMg : (cR M).getD 0 .un = fB d := by rw [hM]; rfl
  have hMd : List.drop 1 (cR M) = cR L := by rw [hM]; rfl
  have hMq := cR_length M
  have h0 : ¬ M.length = 0 := by omega
  have h1 : 0 < M.length := by omega
  have h2 : 1 ≤ M.length := by omega
  have h3 : M.length - 1 = L.length := by omega
  rw [← hM]
  refine con_j b22 rfl ?_
  sym =>
  simp [Zaa,Zab,Zad,Zae,Zaf,Zak,Zal,Zam,Zaz,Za0,Za1,Za2,Za3,Za4,Za5,Za9,Zba,Zbb,Zbf,Zbt,Zbv,Zb1,Zch,Zcn,Zcv,Zcx,Zc3,Zdm,Zrj,Zrl,Zrm,Zrn,Zro,Zrp,Zrq,Zrr,Zva,Zru,Zrx,Zry,Zrz,Zr5,Zsf,Zsh,Zsj,Zsm,Zsn,Zso,Zsr,Zsw,Zev,Zew,Zez,Ze0,Ze1,Ze2,Ze3,Ze5,Ze8,Zfc,Zfd,Zfe,Zfh,Zfn,Zfz,Zgr,Zgs,Zgt,Zgu,Zgv,Zgw,Zgx,Zg4,Zg6,Zhm,Zhn,Zho,Zhs,Zht,Zhu,Zh6,Zh7,Zin,Zio,Zip,Ziu,Ziv,Ziw,Zi6,Zjb,Zjh,Zji,Zjn,Zj7,Zll,Zl2,Zmt,Zmv,Zmw,Zmx,Zmy,Zmz,Zm0,Zm1,Zm3,Zm5,Zm6,Zm7,Zm9,Zna,Znb,Zne,Znf,Zng,Znn,Zno,Znp,Zns,Znu,Znx,Zny,Zrd,Zos,Zot,Zo7,Zo9,Zpa,Zpb,Zpg,Zph,Zp7,Zp9,Zqb,Zqc,Zqd,Zqe,eq_self,true_and,and_true,Nat.mul_one,h0,h1,h2,hMg,hMq,callable_62]
  tactic =>
  refine clG [] none hc rfl ⟨trivial, trivial, rfl⟩ ?_
  sym =>
  simp [Zaa,Zab,Zad,Zae,Zaf,Zak,Zal,Zam,Zaz,Za0,Za1,Za2,Za3,Za4,Za5,Za9,Zba,Zbb,Zbf,Zbt,Zbv,Zb1,Zch,Zcn,Zcv,Zcx,Zc3,Zdm,Zrj,Zrl,Zrm,Zrn,Zro,Zrp,Zrq,Zrr,Zva,Zru,Zrx,Zry,Zrz,Zr5,Zsf,Zsh,Zsj,Zsm,Zsn,Zso,Zsr,Zsw,Zev,Zew,Zez,Ze0,Ze1,Ze2,Ze3,Ze5,Ze8,Zfc,Zfd,Zfe,Zfh,Zfn,Zfz,Zgr,Zgs,Zgt,Zgu,Zgv,Zgw,Zgx,Zg4,Zg6,Zhm,Zhn,Zho,Zhs,Zht,Zhu,Zh6,Zh7,Zin,Zio,Zip,Ziu,Ziv,Ziw,Zi6,Zjb,Zjh,Zji,Zjn,Zj7,Zll,Zl2,Zmt,Zmv,Zmw,Zmx,Zmy,Zmz,Zm0,Zm1,Zm3,Zm5,Zm6,Zm7,Zm9,Zna,Znb,Zne,Znf,Zng,Znn,Zno,Znp,Zns,Znu,Znx,Zny,Zrd,Zos,Zot,Zo7,Zo9,Zpa,Zpb,Zpg,Zph,Zp7,Zp9,Zqb,Zqc,Zqd,Zqe,eq_self,true_and,and_true,Nat.mul_one,h2,h3,hMd,hra,hMq]
  tactic =>
  refine ⟨⟨by simp only [IN]; omega, Nat.le_refl _⟩, ?_⟩
  refine endA ?_
  sym =>
  simp [Zaa,Zab,Zad,Zae,Zaf,Zak,Zal,Zam,Zaz,Za0,Za1,Za2,Za3,Za4,Za5,Za9,Zba,Zbb,Zbf,Zbt,Zbv,Zb1,Zch,Zcn,Zcv,Zcx,Zc3,Zdm,Zrj,Zrl,Zrm,Zrn,Zro,Zrp,Zrq,Zrr,Zva,Zru,Zrx,Zry,Zrz,Zr5,Zsf,Zsh,Zsj,Zsm,Zsn,Zso,Zsr,Zsw,Zev,Zew,Zez,Ze0,Ze1,Ze2,Ze3,Ze5,Ze8,Zfc,Zfd,Zfe,Zfh,Zfn,Zfz,Zgr,Zgs,Zgt,Zgu,Zgv,Zgw,Zgx,Zg4,Zg6,Zhm,Zhn,Zho,Zhs,Zht,Zhu,Zh6,Zh7,Zin,Zio,Zip,Ziu,Ziv,Ziw,Zi6,Zjb,Zjh,Zji,Zjn,Zj7,Zll,Zl2,Zmt,Zmv,Zmw,Zmx,Zmy,Zmz,Zm0,Zm1,Zm3,Zm5,Zm6,Zm7,Zm9,Zna,Znb,Zne,Znf,Zng,Znn,Zno,Znp,Zns,Znu,Znx,Zny,Zrd,Zos,Zot,Zo7,Zo9,Zpa,Zpb,Zpg,Zph,Zp7,Zp9,Zqb,Zqc,Zqd,Zqe,eq_self,true_and,and_true,Nat.mul_one]
theorem next_none (room s lo : Int) : Con Try.prog 22 [] [lkA room [] s lo] [] (.tu [lkA room [] s lo, .nl, Bo false]) := by
  refine con_j b22 rfl ?_
  sym =>
  simp [Zab,Zad,Zae,Zaf,Zak,Zal,Zam,Zao,Zaz,Za0,Za1,Za2,Za3,Za4,Za5,Za9,Zba,Zbb,Zbf,Zbt,Zbv,Zcn,Zcv,Zcx,Zc3,Zev,Zew,Zez,Ze0,Ze1,Ze2,Ze3,Ze5,Ze8,Zfc,Zfd,Zfe,Zfh,Zfn,Zfz,Zgr,Zgs,Zgt,Zgv,Zgw,Zgx,Zh6,Zh7,Zin,Zio,Zip,Ziu,Ziv,Ziw,Zi6,Zjh,Zji,Zjn,Zj7,Zmt,Zmv,Zmw,Zmx,Zmy,Zmz,Zm0,Zm1,Zm3,Zm5,Zm6,Zm7,Zm9,Zna,Znb,Znn,Zno,Znp,Zn5,Zos,Zot,Zo7,Zo8,Zpa,Zpb,Zpe,Zpg,Zp7,Zp9,Zqb,Zqc,Zqd,Zqe,eq_self,true_and,and_true]
  tactic =>
  refine endA ?_
  sym =>
  simp [Zab,Zad,Zae,Zaf,Zak,Zal,Zam,Zao,Zaz,Za0,Za1,Za2,Za3,Za4,Za5,Za9,Zba,Zbb,Zbf,Zbt,Zbv,Zcn,Zcv,Zcx,Zc3,Zev,Zew,Zez,Ze0,Ze1,Ze2,Ze3,Ze5,Ze8,Zfc,Zfd,Zfe,Zfh,Zfn,Zfz,Zgr,Zgs,Zgt,Zgv,Zgw,Zgx,Zh6,Zh7,Zin,Zio,Zip,Ziu,Ziv,Ziw,Zi6,Zjh,Zji,Zjn,Zj7,Zmt,Zmv,Zmw,Zmx,Zmy,Zmz,Zm0,Zm1,Zm3,Zm5,Zm6,Zm7,Zm9,Zna,Znb,Znn,Zno,Znp,Zn5,Zos,Zot,Zo7,Zo8,Zpa,Zpb,Zpe,Zpg,Zp7,Zp9,Zqb,Zqc,Zqd,Zqe,eq_self,true_and,and_true]
theorem len_con (room s lo : Int) (L : List (List Int)) : Con Try.prog 23 [] [lkA room L s lo] [] (I (IN L.length)) := by
  refine con_j b23 rfl ?_
  sym =>
  simp [Zab,Zad,Zak,Zam,Zaz,Za0,Za1,Za2,Za3,Za4,Za5,Za9,Zba,Zbb,Zbt,Zbv,Zcn,Zcx,Zev,Zew,Zez,Ze0,Ze2,Ze3,Ze5,Ze8,Zfc,Zfd,Zfe,Zfh,Zgr,Zgs,Zgt,Zgv,Zgw,Zgx,Zh6,Zh7,Zio,Zip,Zi6,Zmt,Zmv,Zmw,Zmx,Zmz,Zm2,Zm6,Zm9,Zna,Znb,Zos,Zot,Zo7,Zpc,eq_self,true_and]
  tactic =>
  refine endA ?_
  sym =>
  simp [Zab,Zad,Zak,Zam,Zaz,Za0,Za1,Za2,Za3,Za4,Za5,Za9,Zba,Zbb,Zbt,Zbv,Zcn,Zcx,Zev,Zew,Zez,Ze0,Ze2,Ze3,Ze5,Ze8,Zfc,Zfd,Zfe,Zfh,Zgr,Zgs,Zgt,Zgv,Zgw,Zgx,Zh6,Zh7,Zio,Zip,Zi6,Zmt,Zmv,Zmw,Zmx,Zmz,Zm2,Zm6,Zm9,Zna,Znb,Zos,Zot,Zo7,Zpc,eq_self,true_and]
def i24 (L : List (List Int)) (k : Nat) (s : St) : Prop := ∃ i : Nat, i + k = L.length ∧ s = ⟨[(3, .lv 0 0 i), (7, fR L), (8, I (IN L.length)), (9, I (IN i))], [(0, ⟨cR (L.take i), 1, 0⟩)], 1⟩
theorem all_con (room s lo : Int) (L : List (List Int)) (hL : L.length ≤ 1000) (hl : ∀ e ∈ L, e.length ≤ 1000) : Con Try.prog 24 [] [lkA room L s lo] [] (fR L) := by
  have hrl := cR_length L
  have hra := cR_all L
  refine con_j b24 rfl ?_
  sym =>
  simp [Zaa,Zab,Zad,Zae,Zaf,Zag,Zah,Zai,Zak,Zal,Zam,Zan,Zap,Zaq,Zav,Zaw,Zay,Zaz,Za0,Za1,Za2,Za3,Za4,Za5,Za9,Zba,Zbb,Zbf,Zbt,Zbv,Zb1,Zcn,Zcx,Zcz,Zc5,Zdm,Zrj,Zrl,Zrm,Zrn,Zro,Zrp,Zrq,Zrr,Zva,Zru,Zrx,Zry,Zrz,Zr5,Zsf,Zsh,Zsj,Zsm,Zsn,Zso,Zsr,Zsw,Zev,Zew,Zez,Ze0,Ze2,Ze3,Ze4,Ze5,Ze8,Zfb,Zfc,Zfd,Zfe,Zff,Zfg,Zfh,Zfn,Zfq,Zf1,Zgr,Zgs,Zgt,Zgu,Zgv,Zgw,Zgx,Zg4,Zg6,Zhf,Zhg,Zhh,Zho,Zh6,Zh7,Zio,Zip,Ziq,Zir,Zix,Ziz,Zi0,Zi2,Zi3,Zi6,Zjb,Zjj,Zjk,Zj8,Zll,Zl2,Zmt,Zmv,Zmw,Zmx,Zmz,Zm2,Zm6,Zm9,Zna,Znb,Zne,Znf,Zng,Znh,Znl,Znm,Znn,Zno,Znp,Znr,Zns,Znt,Znw,Zn5,Zos,Zot,Zo7,Zo8,Zo9,Zpc,Zpi,Zpo,Zpr,Zp0,Zp1,Zp2,Zqf,Zqg,Zqh,Zqi,Zqj,Zqk,Zql,Zqm,Zqn,eq_self,true_and,and_true,Nat.zero_add,Nat.mul_one]
  tactic =>
  refine lpA (i24 L) L.length [] _ ⟨0, by omega, rfl⟩ (wkA ?_) ?_
  · sym =>
    simp [Zaa,Zab,Zad,Zae,Zaf,Zag,Zah,Zai,Zak,Zal,Zam,Zan,Zap,Zaq,Zav,Zaw,Zay,Zaz,Za0,Za1,Za2,Za3,Za4,Za5,Za9,Zba,Zbb,Zbf,Zbt,Zbv,Zb1,Zcn,Zcx,Zcz,Zc5,Zdm,Zrj,Zrl,Zrm,Zrn,Zro,Zrp,Zrq,Zrr,Zva,Zru,Zrx,Zry,Zrz,Zr5,Zsf,Zsh,Zsj,Zsm,Zsn,Zso,Zsr,Zsw,Zev,Zew,Zez,Ze0,Ze2,Ze3,Ze4,Ze5,Ze8,Zfb,Zfc,Zfd,Zfe,Zff,Zfg,Zfh,Zfn,Zfq,Zf1,Zgr,Zgs,Zgt,Zgu,Zgv,Zgw,Zgx,Zg4,Zg6,Zhf,Zhg,Zhh,Zho,Zh6,Zh7,Zio,Zip,Ziq,Zir,Zix,Ziz,Zi0,Zi2,Zi3,Zi6,Zjb,Zjj,Zjk,Zj8,Zll,Zl2,Zmt,Zmv,Zmw,Zmx,Zmz,Zm2,Zm6,Zm9,Zna,Znb,Zne,Znf,Zng,Znh,Znl,Znm,Znn,Zno,Znp,Znr,Zns,Znt,Znw,Zn5,Zos,Zot,Zo7,Zo8,Zo9,Zpc,Zpi,Zpo,Zpr,Zp0,Zp1,Zp2,Zqf,Zqg,Zqh,Zqi,Zqj,Zqk,Zql,Zqm,Zqn,eq_self,true_and,and_true,Nat.zero_add,Nat.mul_one]
    tactic =>
    rfl
  rintro k s ⟨i, hi, rfl⟩
  by_cases h : i < L.length
  · have hg := cR_get L i h
    have hw := w64s i (by omega)
    have hel : (L.getD i []).length ≤ 1000 := byt_mem hl i h
    obtain ⟨e, he⟩ : ∃ e, e = L.getD i [] := ⟨_, rfl⟩
    have hst : L.take (i + 1) = L.take i ++ [e] := by rw [he, List.take_add_one, List.getElem?_eq_getElem h, List.getD_eq_getElem?_getD, List.getElem?_eq_getElem h]; rfl
    rw [← he] at hel hg
    have hc := clone_con e (by omega)
    have htl : (L.take i).length = i := by rw [List.length_take]; omega
    have hcl := cR_length (L.take i)
    rw [htl] at hcl
    obtain ⟨t, ht⟩ : ∃ t, t = L.take i := ⟨_, rfl⟩
    rw [← ht] at hst hcl ⊢
    sym =>
    simp [Zaa,Zab,Zad,Zae,Zaf,Zag,Zah,Zai,Zak,Zal,Zam,Zan,Zap,Zaq,Zav,Zaw,Zay,Zaz,Za0,Za1,Za2,Za3,Za4,Za5,Za9,Zba,Zbb,Zbf,Zbt,Zbv,Zb1,Zcn,Zcx,Zcz,Zc5,Zdm,Zrj,Zrl,Zrm,Zrn,Zro,Zrp,Zrq,Zrr,Zva,Zru,Zrx,Zry,Zrz,Zr5,Zsf,Zsh,Zsj,Zsm,Zsn,Zso,Zsr,Zsw,Zev,Zew,Zez,Ze0,Ze2,Ze3,Ze4,Ze5,Ze8,Zfb,Zfc,Zfd,Zfe,Zff,Zfg,Zfh,Zfn,Zfq,Zf1,Zgr,Zgs,Zgt,Zgu,Zgv,Zgw,Zgx,Zg4,Zg6,Zhf,Zhg,Zhh,Zho,Zh6,Zh7,Zio,Zip,Ziq,Zir,Zix,Ziz,Zi0,Zi2,Zi3,Zi6,Zjb,Zjj,Zjk,Zj8,Zll,Zl2,Zmt,Zmv,Zmw,Zmx,Zmz,Zm2,Zm6,Zm9,Zna,Znb,Zne,Znf,Zng,Znh,Znl,Znm,Znn,Zno,Znp,Znr,Zns,Znt,Znw,Zn5,Zos,Zot,Zo7,Zo8,Zo9,Zpc,Zpi,Zpo,Zpr,Zp0,Zp1,Zp2,Zqf,Zqg,Zqh,Zqi,Zqj,Zqk,Zql,Zqm,Zqn,eq_self,true_and,and_true,Nat.zero_add,Nat.mul_one,h,hg,hrl,callable_62]
    tactic =>
    refine ⟨by omega, by omega, ?_⟩
    refine clG [] none hc rfl ⟨trivial, trivial, rfl⟩ ?_
    sym =>
    simp [Zaa,Zab,Zad,Zae,Zaf,Zag,Zah,Zai,Zak,Zal,Zam,Zan,Zap,Zaq,Zav,Zaw,Zay,Zaz,Za0,Za1,Za2,Za3,Za4,Za5,Za9,Zba,Zbb,Zbf,Zbt,Zbv,Zb1,Zcn,Zcx,Zcz,Zc5,Zdm,Zrj,Zrl,Zrm,Zrn,Zro,Zrp,Zrq,Zrr,Zva,Zru,Zrx,Zry,Zrz,Zr5,Zsf,Zsh,Zsj,Zsm,Zsn,Zso,Zsr,Zsw,Zev,Zew,Zez,Ze0,Ze2,Ze3,Ze4,Ze5,Ze8,Zfb,Zfc,Zfd,Zfe,Zff,Zfg,Zfh,Zfn,Zfq,Zf1,Zgr,Zgs,Zgt,Zgu,Zgv,Zgw,Zgx,Zg4,Zg6,Zhf,Zhg,Zhh,Zho,Zh6,Zh7,Zio,Zip,Ziq,Zir,Zix,Ziz,Zi0,Zi2,Zi3,Zi6,Zjb,Zjj,Zjk,Zj8,Zll,Zl2,Zmt,Zmv,Zmw,Zmx,Zmz,Zm2,Zm6,Zm9,Zna,Znb,Zne,Znf,Zng,Znh,Znl,Znm,Znn,Zno,Znp,Znr,Zns,Znt,Znw,Zn5,Zos,Zot,Zo7,Zo8,Zo9,Zpc,Zpi,Zpo,Zpr,Zp0,Zp1,Zp2,Zqf,Zqg,Zqh,Zqi,Zqj,Zqk,Zql,Zqm,Zqn,eq_self,true_and,and_true,Nat.zero_add,Nat.mul_one,hcl,hw]
    tactic =>
    refine ⟨⟨by omega, by omega, by omega⟩, ?_⟩
    unfold NextL; refine ⟨(k - 1), [(0, 9)], _, by omega, ⟨i + 1, by omega, rfl⟩, wkA ?_⟩
    sym =>
    simp [Zaa,Zab,Zad,Zae,Zaf,Zag,Zah,Zai,Zak,Zal,Zam,Zan,Zap,Zaq,Zav,Zaw,Zay,Zaz,Za0,Za1,Za2,Za3,Za4,Za5,Za9,Zba,Zbb,Zbf,Zbt,Zbv,Zb1,Zcn,Zcx,Zcz,Zc5,Zdm,Zrj,Zrl,Zrm,Zrn,Zro,Zrp,Zrq,Zrr,Zva,Zru,Zrx,Zry,Zrz,Zr5,Zsf,Zsh,Zsj,Zsm,Zsn,Zso,Zsr,Zsw,Zev,Zew,Zez,Ze0,Ze2,Ze3,Ze4,Ze5,Ze8,Zfb,Zfc,Zfd,Zfe,Zff,Zfg,Zfh,Zfn,Zfq,Zf1,Zgr,Zgs,Zgt,Zgu,Zgv,Zgw,Zgx,Zg4,Zg6,Zhf,Zhg,Zhh,Zho,Zh6,Zh7,Zio,Zip,Ziq,Zir,Zix,Ziz,Zi0,Zi2,Zi3,Zi6,Zjb,Zjj,Zjk,Zj8,Zll,Zl2,Zmt,Zmv,Zmw,Zmx,Zmz,Zm2,Zm6,Zm9,Zna,Znb,Zne,Znf,Zng,Znh,Znl,Znm,Znn,Zno,Znp,Znr,Zns,Znt,Znw,Zn5,Zos,Zot,Zo7,Zo8,Zo9,Zpc,Zpi,Zpo,Zpr,Zp0,Zp1,Zp2,Zqf,Zqg,Zqh,Zqi,Zqj,Zqk,Zql,Zqm,Zqn,eq_self,true_and,and_true,Nat.zero_add,Nat.mul_one]
    tactic =>
    refine cR_rs _ _ _ _ _ ?_
    rw [hst, cR_append]; rfl
  · have hle : L.take i = L := List.take_of_length_le (by omega)
    have hil : i = L.length := by omega
    rw [hle, hil]
    have hnl : ¬ L.length < L.length := by omega
    sym =>
    simp [Zaa,Zab,Zad,Zae,Zaf,Zag,Zah,Zai,Zak,Zal,Zam,Zan,Zap,Zaq,Zav,Zaw,Zay,Zaz,Za0,Za1,Za2,Za3,Za4,Za5,Za9,Zba,Zbb,Zbf,Zbt,Zbv,Zb1,Zcn,Zcx,Zcz,Zc5,Zdm,Zrj,Zrl,Zrm,Zrn,Zro,Zrp,Zrq,Zrr,Zva,Zru,Zrx,Zry,Zrz,Zr5,Zsf,Zsh,Zsj,Zsm,Zsn,Zso,Zsr,Zsw,Zev,Zew,Zez,Ze0,Ze2,Ze3,Ze4,Ze5,Ze8,Zfb,Zfc,Zfd,Zfe,Zff,Zfg,Zfh,Zfn,Zfq,Zf1,Zgr,Zgs,Zgt,Zgu,Zgv,Zgw,Zgx,Zg4,Zg6,Zhf,Zhg,Zhh,Zho,Zh6,Zh7,Zio,Zip,Ziq,Zir,Zix,Ziz,Zi0,Zi2,Zi3,Zi6,Zjb,Zjj,Zjk,Zj8,Zll,Zl2,Zmt,Zmv,Zmw,Zmx,Zmz,Zm2,Zm6,Zm9,Zna,Znb,Zne,Znf,Zng,Znh,Znl,Znm,Znn,Zno,Znp,Znr,Zns,Znt,Znw,Zn5,Zos,Zot,Zo7,Zo8,Zo9,Zpc,Zpi,Zpo,Zpr,Zp0,Zp1,Zp2,Zqf,Zqg,Zqh,Zqi,Zqj,Zqk,Zql,Zqm,Zqn,eq_self,true_and,and_true,Nat.zero_add,Nat.mul_one,hnl]
    tactic =>
    refine endA ?_
    sym =>
    simp [Zaa,Zab,Zad,Zae,Zaf,Zag,Zah,Zai,Zak,Zal,Zam,Zan,Zap,Zaq,Zav,Zaw,Zay,Zaz,Za0,Za1,Za2,Za3,Za4,Za5,Za9,Zba,Zbb,Zbf,Zbt,Zbv,Zb1,Zcn,Zcx,Zcz,Zc5,Zdm,Zrj,Zrl,Zrm,Zrn,Zro,Zrp,Zrq,Zrr,Zva,Zru,Zrx,Zry,Zrz,Zr5,Zsf,Zsh,Zsj,Zsm,Zsn,Zso,Zsr,Zsw,Zev,Zew,Zez,Ze0,Ze2,Ze3,Ze4,Ze5,Ze8,Zfb,Zfc,Zfd,Zfe,Zff,Zfg,Zfh,Zfn,Zfq,Zf1,Zgr,Zgs,Zgt,Zgu,Zgv,Zgw,Zgx,Zg4,Zg6,Zhf,Zhg,Zhh,Zho,Zh6,Zh7,Zio,Zip,Ziq,Zir,Zix,Ziz,Zi0,Zi2,Zi3,Zi6,Zjb,Zjj,Zjk,Zj8,Zll,Zl2,Zmt,Zmv,Zmw,Zmx,Zmz,Zm2,Zm6,Zm9,Zna,Znb,Zne,Znf,Zng,Znh,Znl,Znm,Znn,Zno,Znp,Znr,Zns,Znt,Znw,Zn5,Zos,Zot,Zo7,Zo8,Zo9,Zpc,Zpi,Zpo,Zpr,Zp0,Zp1,Zp2,Zqf,Zqg,Zqh,Zqi,Zqj,Zqk,Zql,Zqm,Zqn,eq_self,true_and,and_true,Nat.zero_add,Nat.mul_one,hrl]
    tactic =>
    exact ⟨hra.symm, Nat.le_refl _, cR_okI _⟩
theorem theirs_con (k at' b0 b1 b2 b3 : Int) : Con Try.prog 16 [] [ftA k at' b0 b1 b2 b3] [] (ftA k at' b0 b1 b2 b3) := by
  refine con_j b16 rfl ?_
  sym =>
  simp [Zab,Zad,Zak,Zam,Zaz,Za0,Za1,Za2,Za3,Za4,Za5,Za9,Zba,Zbt,Zbv,Zb9,Zcv,Zcx,Zc3,Zev,Zez,Ze0,Ze1,Ze2,Ze3,Ze5,Ze8,Zfc,Zfd,Zfe,Zgr,Zgs,Zgt,Zgv,Zgw,Zgx,Zhd,Zhe,Zhf,Zhg,Zhh,Zin,Zio,Zip,Ziu,Ziv,Ziw,Zi6,Zi7,Zjh,Zji,Zjn,Zmt,Zmv,Zmw,Zmy,Zm0,Zm1,Zm2,Zm5,Zm6,Zm7,Zm9,Zna,Znb,Znn,Zno,Znp,Zos,Zot,Zo7,Zpa,Zp8,Zqb,Zqc,eq_self,true_and,and_true]
  tactic =>
  refine endA ?_
  sym =>
  simp [Zab,Zad,Zak,Zam,Zaz,Za0,Za1,Za2,Za3,Za4,Za5,Za9,Zba,Zbt,Zbv,Zb9,Zcv,Zcx,Zc3,Zev,Zez,Ze0,Ze1,Ze2,Ze3,Ze5,Ze8,Zfc,Zfd,Zfe,Zgr,Zgs,Zgt,Zgv,Zgw,Zgx,Zhd,Zhe,Zhf,Zhg,Zhh,Zin,Zio,Zip,Ziu,Ziv,Ziw,Zi6,Zi7,Zjh,Zji,Zjn,Zmt,Zmv,Zmw,Zmy,Zm0,Zm1,Zm2,Zm5,Zm6,Zm7,Zm9,Zna,Znb,Znn,Zno,Znp,Zos,Zot,Zo7,Zpa,Zp8,Zqb,Zqc,eq_self,true_and,and_true]
theorem take_eq_step {a b : List Int} {i : Nat} (h : a.take i = b.take i) (ha : i < a.length) (hb : i < b.length) (e : a.getD i 0 = b.getD i 0) : a.take (i + 1) = b.take (i + 1) := by
  rw [take_stepD a i ha, take_stepD b i hb, h, e]
def i18 (a b : List Int) (k : Nat) (s : St) : Prop := ∃ i : Nat, i + k = a.length ∧ a.take i = b.take i ∧ s = ⟨[(0, fB a), (1, fB b), (5, I (IN i))], [], 0⟩
theorem nsame_con (a b : List Int) (ha : a.length < 4611686018427387904) : Con Try.prog 18 [] [fB a, fB b] [] (Bo (decide (a = b))) := by
  refine con_j b18 rfl ?_
  by_cases hl : a.length = b.length
  · have hl1 : IN a.length = IN b.length := by rw [hl]
    sym =>
    simp [Zaa,Zab,Zac,Zad,Zae,Zaf,Zag,Zah,Zai,Zak,Zal,Zam,Zan,Zao,Zap,Zaq,Zar,Zav,Zaw,Zax,Zay,Zaz,Za0,Za1,Za2,Za3,Za4,Za5,Za9,Zba,Zbb,Zbc,Zbf,Zbg,Zbu,Zb2,Zcn,Zc7,Zc8,Zdo,Zdp,Zdt,Zdu,Zdv,Zdw,Zdx,Zdy,Zd0,Zd1,Zd2,Zeb,Zee,Zev,Zew,Zez,Ze0,Ze2,Ze5,Zfd,Zfe,Zfh,Zfn,Zfq,Zf0,Zf1,Zgr,Zgu,Zg4,Zg6,Zho,Zh6,Zh7,Zmt,Zmv,Zmw,Zmx,Zmz,Zm2,Zm6,Zna,Znb,Zne,Zns,Znt,Znv,Znw,Zn5,Zos,Zot,Zo3,Zo4,Zo7,Zo8,Zo9,Zpc,Zpi,Zqf,Zqg,Zqh,Zqm,eq_self,true_and,and_true,Nat.mul_one,hl1]
    tactic =>
    refine lpA (i18 a b) a.length [] _ ⟨0, by omega, rfl, rfl⟩ (wkA ?_) ?_
    · sym =>
      simp [Zaa,Zab,Zac,Zad,Zae,Zaf,Zag,Zah,Zai,Zak,Zal,Zam,Zan,Zao,Zap,Zaq,Zar,Zav,Zaw,Zax,Zay,Zaz,Za0,Za1,Za2,Za3,Za4,Za5,Za9,Zba,Zbb,Zbc,Zbf,Zbg,Zbu,Zb2,Zcn,Zc7,Zc8,Zdo,Zdp,Zdt,Zdu,Zdv,Zdw,Zdx,Zdy,Zd0,Zd1,Zd2,Zeb,Zee,Zev,Zew,Zez,Ze0,Ze2,Ze5,Zfd,Zfe,Zfh,Zfn,Zfq,Zf0,Zf1,Zgr,Zgu,Zg4,Zg6,Zho,Zh6,Zh7,Zmt,Zmv,Zmw,Zmx,Zmz,Zm2,Zm6,Zna,Znb,Zne,Zns,Znt,Znv,Znw,Zn5,Zos,Zot,Zo3,Zo4,Zo7,Zo8,Zo9,Zpc,Zpi,Zqf,Zqg,Zqh,Zqm,eq_self,true_and,and_true,Nat.mul_one]
    rintro k s ⟨i, hi, ht, rfl⟩
    by_cases h : i < a.length
    · have hI : IN i < IN a.length := by simp only [IN]; omega
      have hI2 : IN i < IN b.length := by simp only [IN]; omega
      have hw := w64s i (by omega)
      have ga := cB_get a i h
      have gb := cB_get b i (by omega)
      have hb : i < b.length := by omega
      by_cases he : a.getD i 0 = b.getD i 0
      · sym =>
        simp [Zaa,Zab,Zac,Zad,Zae,Zaf,Zag,Zah,Zai,Zak,Zal,Zam,Zan,Zao,Zap,Zaq,Zar,Zav,Zaw,Zax,Zay,Zaz,Za0,Za1,Za2,Za3,Za4,Za5,Za9,Zba,Zbb,Zbc,Zbf,Zbg,Zbu,Zb2,Zcn,Zc7,Zc8,Zdo,Zdp,Zdt,Zdu,Zdv,Zdw,Zdx,Zdy,Zd0,Zd1,Zd2,Zeb,Zee,Zev,Zew,Zez,Ze0,Ze2,Ze5,Zfd,Zfe,Zfh,Zfn,Zfq,Zf0,Zf1,Zgr,Zgu,Zg4,Zg6,Zho,Zh6,Zh7,Zmt,Zmv,Zmw,Zmx,Zmz,Zm2,Zm6,Zna,Znb,Zne,Zns,Znt,Znv,Znw,Zn5,Zos,Zot,Zo3,Zo4,Zo7,Zo8,Zo9,Zpc,Zpi,Zqf,Zqg,Zqh,Zqm,eq_self,true_and,and_true,Nat.mul_one,h,hb,hw,ga,gb,he,cB_length]
        tactic =>
        and_intros <;> try (first | omega | rfl | assumption | simp only [IN]; omega)
        unfold NextL; refine ⟨(k - 1), [], _, by omega, ⟨i + 1, by omega, take_eq_step ht h (by omega) he, rfl⟩, wkA ?_⟩
        sym =>
        simp [Zaa,Zab,Zac,Zad,Zae,Zaf,Zag,Zah,Zai,Zak,Zal,Zam,Zan,Zao,Zap,Zaq,Zar,Zav,Zaw,Zax,Zay,Zaz,Za0,Za1,Za2,Za3,Za4,Za5,Za9,Zba,Zbb,Zbc,Zbf,Zbg,Zbu,Zb2,Zcn,Zc7,Zc8,Zdo,Zdp,Zdt,Zdu,Zdv,Zdw,Zdx,Zdy,Zd0,Zd1,Zd2,Zeb,Zee,Zev,Zew,Zez,Ze0,Ze2,Ze5,Zfd,Zfe,Zfh,Zfn,Zfq,Zf0,Zf1,Zgr,Zgu,Zg4,Zg6,Zho,Zh6,Zh7,Zmt,Zmv,Zmw,Zmx,Zmz,Zm2,Zm6,Zna,Znb,Zne,Zns,Znt,Znv,Znw,Zn5,Zos,Zot,Zo3,Zo4,Zo7,Zo8,Zo9,Zpc,Zpi,Zqf,Zqg,Zqh,Zqm,eq_self,true_and,and_true,Nat.mul_one]
      · have hab : ¬ a = b := fun e => he (by rw [e])
        sym =>
        simp [Zaa,Zab,Zac,Zad,Zae,Zaf,Zag,Zah,Zai,Zak,Zal,Zam,Zan,Zao,Zap,Zaq,Zar,Zav,Zaw,Zax,Zay,Zaz,Za0,Za1,Za2,Za3,Za4,Za5,Za9,Zba,Zbb,Zbc,Zbf,Zbg,Zbu,Zb2,Zcn,Zc7,Zc8,Zdo,Zdp,Zdt,Zdu,Zdv,Zdw,Zdx,Zdy,Zd0,Zd1,Zd2,Zeb,Zee,Zev,Zew,Zez,Ze0,Ze2,Ze5,Zfd,Zfe,Zfh,Zfn,Zfq,Zf0,Zf1,Zgr,Zgu,Zg4,Zg6,Zho,Zh6,Zh7,Zmt,Zmv,Zmw,Zmx,Zmz,Zm2,Zm6,Zna,Znb,Zne,Zns,Znt,Znv,Znw,Zn5,Zos,Zot,Zo3,Zo4,Zo7,Zo8,Zo9,Zpc,Zpi,Zqf,Zqg,Zqh,Zqm,eq_self,true_and,and_true,Nat.mul_one,h,hb,hw,ga,gb,he,cB_length]
        tactic =>
        and_intros <;> try (first | omega | rfl | assumption | simp only [IN]; omega)
        refine endA ?_
        sym =>
        simp [Zaa,Zab,Zac,Zad,Zae,Zaf,Zag,Zah,Zai,Zak,Zal,Zam,Zan,Zao,Zap,Zaq,Zar,Zav,Zaw,Zax,Zay,Zaz,Za0,Za1,Za2,Za3,Za4,Za5,Za9,Zba,Zbb,Zbc,Zbf,Zbg,Zbu,Zb2,Zcn,Zc7,Zc8,Zdo,Zdp,Zdt,Zdu,Zdv,Zdw,Zdx,Zdy,Zd0,Zd1,Zd2,Zeb,Zee,Zev,Zew,Zez,Ze0,Ze2,Ze5,Zfd,Zfe,Zfh,Zfn,Zfq,Zf0,Zf1,Zgr,Zgu,Zg4,Zg6,Zho,Zh6,Zh7,Zmt,Zmv,Zmw,Zmx,Zmz,Zm2,Zm6,Zna,Znb,Zne,Zns,Znt,Znv,Znw,Zn5,Zos,Zot,Zo3,Zo4,Zo7,Zo8,Zo9,Zpc,Zpi,Zqf,Zqg,Zqh,Zqm,eq_self,true_and,and_true,Nat.mul_one,hab]
    · have hab : a = b := by
        rw [List.take_of_length_le (by omega), List.take_of_length_le (by omega)] at ht
        exact ht
      sym =>
      simp [Zaa,Zab,Zac,Zad,Zae,Zaf,Zag,Zah,Zai,Zak,Zal,Zam,Zan,Zao,Zap,Zaq,Zar,Zav,Zaw,Zax,Zay,Zaz,Za0,Za1,Za2,Za3,Za4,Za5,Za9,Zba,Zbb,Zbc,Zbf,Zbg,Zbu,Zb2,Zcn,Zc7,Zc8,Zdo,Zdp,Zdt,Zdu,Zdv,Zdw,Zdx,Zdy,Zd0,Zd1,Zd2,Zeb,Zee,Zev,Zew,Zez,Ze0,Ze2,Ze5,Zfd,Zfe,Zfh,Zfn,Zfq,Zf0,Zf1,Zgr,Zgu,Zg4,Zg6,Zho,Zh6,Zh7,Zmt,Zmv,Zmw,Zmx,Zmz,Zm2,Zm6,Zna,Znb,Zne,Zns,Znt,Znv,Znw,Zn5,Zos,Zot,Zo3,Zo4,Zo7,Zo8,Zo9,Zpc,Zpi,Zqf,Zqg,Zqh,Zqm,eq_self,true_and,and_true,Nat.mul_one,h]
      tactic =>
      refine endA ?_
      sym =>
      simp [Zaa,Zab,Zac,Zad,Zae,Zaf,Zag,Zah,Zai,Zak,Zal,Zam,Zan,Zao,Zap,Zaq,Zar,Zav,Zaw,Zax,Zay,Zaz,Za0,Za1,Za2,Za3,Za4,Za5,Za9,Zba,Zbb,Zbc,Zbf,Zbg,Zbu,Zb2,Zcn,Zc7,Zc8,Zdo,Zdp,Zdt,Zdu,Zdv,Zdw,Zdx,Zdy,Zd0,Zd1,Zd2,Zeb,Zee,Zev,Zew,Zez,Ze0,Ze2,Ze5,Zfd,Zfe,Zfh,Zfn,Zfq,Zf0,Zf1,Zgr,Zgu,Zg4,Zg6,Zho,Zh6,Zh7,Zmt,Zmv,Zmw,Zmx,Zmz,Zm2,Zm6,Zna,Znb,Zne,Zns,Znt,Znv,Znw,Zn5,Zos,Zot,Zo3,Zo4,Zo7,Zo8,Zo9,Zpc,Zpi,Zqf,Zqg,Zqh,Zqm,eq_self,true_and,and_true,Nat.mul_one,hab]
  · have hl1 : ¬ IN a.length = IN b.length := by simp only [IN]; omega
    have hab : ¬ a = b := fun e => hl (by rw [e])
    sym =>
    simp [Zaa,Zab,Zac,Zad,Zae,Zaf,Zag,Zah,Zai,Zak,Zal,Zam,Zan,Zao,Zap,Zaq,Zar,Zav,Zaw,Zax,Zay,Zaz,Za0,Za1,Za2,Za3,Za4,Za5,Za9,Zba,Zbb,Zbc,Zbf,Zbg,Zbu,Zb2,Zcn,Zc7,Zc8,Zdo,Zdp,Zdt,Zdu,Zdv,Zdw,Zdx,Zdy,Zd0,Zd1,Zd2,Zeb,Zee,Zev,Zew,Zez,Ze0,Ze2,Ze5,Zfd,Zfe,Zfh,Zfn,Zfq,Zf0,Zf1,Zgr,Zgu,Zg4,Zg6,Zho,Zh6,Zh7,Zmt,Zmv,Zmw,Zmx,Zmz,Zm2,Zm6,Zna,Znb,Zne,Zns,Znt,Znv,Znw,Zn5,Zos,Zot,Zo3,Zo4,Zo7,Zo8,Zo9,Zpc,Zpi,Zqf,Zqg,Zqh,Zqm,eq_self,true_and,and_true,Nat.mul_one,hl]
    tactic =>
    refine endA ?_
    sym =>
    simp [Zaa,Zab,Zac,Zad,Zae,Zaf,Zag,Zah,Zai,Zak,Zal,Zam,Zan,Zao,Zap,Zaq,Zar,Zav,Zaw,Zax,Zay,Zaz,Za0,Za1,Za2,Za3,Za4,Za5,Za9,Zba,Zbb,Zbc,Zbf,Zbg,Zbu,Zb2,Zcn,Zc7,Zc8,Zdo,Zdp,Zdt,Zdu,Zdv,Zdw,Zdx,Zdy,Zd0,Zd1,Zd2,Zeb,Zee,Zev,Zew,Zez,Ze0,Ze2,Ze5,Zfd,Zfe,Zfh,Zfn,Zfq,Zf0,Zf1,Zgr,Zgu,Zg4,Zg6,Zho,Zh6,Zh7,Zmt,Zmv,Zmw,Zmx,Zmz,Zm2,Zm6,Zna,Znb,Zne,Zns,Znt,Znv,Znw,Zn5,Zos,Zot,Zo3,Zo4,Zo7,Zo8,Zo9,Zpc,Zpi,Zqf,Zqg,Zqh,Zqm,eq_self,true_and,and_true,Nat.mul_one,hab]
theorem bys_ok (l : List Int) : bysOK (cB l) := by
  intro x hx
  obtain ⟨a, _, rfl⟩ := List.mem_map.1 hx
  rfl
theorem alive_con : Con Try.prog 14 [] [] [] (Bo true) := by
  have cN : Con Try.prog 19 [] [I 9] [] (.tu [lkA 9 [] 0 0, I 0]) := by
    refine con_j b19 rfl ?_
    sym =>
    simp [Zaa,Zab,Zad,Zae,Zaf,Zak,Zal,Zam,Zaz,Za0,Za1,Za2,Za3,Za4,Za5,Za6,Za7,Za9,Zba,Zbb,Zbd,Zbf,Zbp,Zbr,Zbt,Zb7,Zb9,Zcv,Zcz,Zc3,Zdc,Zdd,Zde,Zdi,Zev,Zew,Zex,Zez,Ze0,Ze1,Ze2,Ze3,Ze5,Ze8,Ze9,Zfc,Zfd,Zfe,Zfh,Zfi,Zfl,Zfn,Zfz,Zf1,Zf3,Zf8,Zgl,Zgm,Zgo,Zgp,Zgq,Zgr,Zgs,Zgt,Zhb,Zhc,Zhd,Zhe,Zhf,Zhg,Zhh,Zin,Ziq,Zir,Ziu,Ziv,Ziw,Zi6,Zi7,Zjh,Zji,Zjl,Zjm,Zjn,Zjp,Zjq,Zjr,Zj2,Zj7,Zka,Zkv,Zkx,Zky,Zk0,Zk1,Zk4,Zla,Zlb,Zlc,Zld,Zle,Zlf,Zlh,Zlj,Zlk,Zlm,Zlt,Zlx,Zlz,Zl2,Zl3,Zl4,Zmt,Zmv,Zmw,Zmx,Zmy,Zmz,Zm0,Zm1,Zm2,Zm3,Zm5,Zm7,Zm9,Zna,Znb,Znc,Zne,Znf,Zng,Znh,Znl,Znm,Znn,Zno,Znp,Zn6,Zn7,Zos,Zot,Zo7,Zo8,Zo9,Zpa,Zpb,Zpc,Zpv,Zp7,Zp9,Zqb,Zqc,Zqd,Zqe,eq_self,true_and,and_true]
    tactic =>
    refine endA ?_
    sym =>
    simp [Zaa,Zab,Zad,Zae,Zaf,Zak,Zal,Zam,Zaz,Za0,Za1,Za2,Za3,Za4,Za5,Za6,Za7,Za9,Zba,Zbb,Zbd,Zbf,Zbp,Zbr,Zbt,Zb7,Zb9,Zcv,Zcz,Zc3,Zdc,Zdd,Zde,Zdi,Zev,Zew,Zex,Zez,Ze0,Ze1,Ze2,Ze3,Ze5,Ze8,Ze9,Zfc,Zfd,Zfe,Zfh,Zfi,Zfl,Zfn,Zfz,Zf1,Zf3,Zf8,Zgl,Zgm,Zgo,Zgp,Zgq,Zgr,Zgs,Zgt,Zhb,Zhc,Zhd,Zhe,Zhf,Zhg,Zhh,Zin,Ziq,Zir,Ziu,Ziv,Ziw,Zi6,Zi7,Zjh,Zji,Zjl,Zjm,Zjn,Zjp,Zjq,Zjr,Zj2,Zj7,Zka,Zkv,Zkx,Zky,Zk0,Zk1,Zk4,Zla,Zlb,Zlc,Zld,Zle,Zlf,Zlh,Zlj,Zlk,Zlm,Zlt,Zlx,Zlz,Zl2,Zl3,Zl4,Zmt,Zmv,Zmw,Zmx,Zmy,Zmz,Zm0,Zm1,Zm2,Zm3,Zm5,Zm7,Zm9,Zna,Znb,Znc,Zne,Znf,Zng,Znh,Znl,Znm,Znn,Zno,Znp,Zn6,Zn7,Zos,Zot,Zo7,Zo8,Zo9,Zpa,Zpb,Zpc,Zpv,Zp7,Zp9,Zqb,Zqc,Zqd,Zqe,eq_self,true_and,and_true]
    tactic =>
    rfl
  obtain ⟨a, ha⟩ : ∃ a : List Int, a = [97, 98, 99, 100] := ⟨_, rfl⟩
  obtain ⟨c, hc⟩ : ∃ c : List Int, c = [101, 102, 103, 104] := ⟨_, rfl⟩
  have hal : a.length = 4 := by rw [ha]; rfl
  have hcl : c.length = 4 := by rw [hc]; rfl
  obtain ⟨s1, l1, c1⟩ := send_con 9 [] 0 0 a 0 0 0 0 0 0 (by decide) (by decide) (by decide) (by omega)
  have e1 : sndL 9 [] a 0 = [a] := rfl
  rw [e1] at c1
  obtain ⟨s2, l2, c2⟩ := send_con 9 [a] s1 l1 c 3 0 0 0 0 0 (by decide) (by decide) (by show 1 ≤ 9; decide) (by omega)
  have e2 : sndL 9 [a] c 3 = [c, a] := rfl
  rw [e2] at c2
  have c3 := next_conF 9 s2 l2 c [a] (by omega)
  have c4 := turn_con a 0 0 1 0 0 0 (by omega) (by omega) (by decide)
  have e4 : trF a 0 1 0 0 0 = [96, 98, 99, 100] := by rw [ha]; decide
  have c5 := len_con 9 s2 l2 [a]
  have c6 := len_con 9 s2 l2 [c, a]
  have fa : fB a = .fz 4 [Y 97, Y 98, Y 99, Y 100] := by rw [ha]; rfl
  have fc : fB c = .fz 4 [Y 101, Y 102, Y 103, Y 104] := by rw [hc]; rfl
  rw [fa] at c1 c4
  rw [fc] at c2
  rw [e4] at c4
  obtain ⟨t, ht⟩ : ∃ t : List Int, t = [96, 98, 99, 100] := ⟨_, rfl⟩
  rw [← ht] at c4
  have hs0 : bysS (cB c) = ⟨#[101, 102, 103, 104]⟩ := by rw [hc]; rfl
  have hs : ((bysS (cB c)).toList == (⟨#[101, 102, 103, 104]⟩ : ByteArray).toList) = true := by rw [hs0]; exact beq_self_eq_true _
  have hso := bys_ok c
  have hla := cB_length c
  have ht0 : bysS (cB t) = ⟨#[96, 98, 99, 100]⟩ := by rw [ht]; rfl
  have hts : ((bysS (cB t)).toList == (⟨#[96, 98, 99, 100]⟩ : ByteArray).toList) = true := by rw [ht0]; exact beq_self_eq_true _
  have hto := bys_ok t
  have hlt := cB_length t
  have hcc := cB_all c
  refine con_j b14 rfl ?_
  sym =>
  simp [Zaa,Zab,Zad,Zae,Zaf,Zak,Zal,Zam,Zaz,Za0,Za1,Za2,Za3,Za4,Za5,Za6,Za7,Za9,Zba,Zbb,Zbd,Zbf,Zbp,Zbr,Zbt,Zb7,Zb9,Zcv,Zcz,Zc3,Zdc,Zdd,Zde,Zdi,Zev,Zew,Zex,Zez,Ze0,Ze1,Ze2,Ze3,Ze5,Ze8,Ze9,Zfc,Zfd,Zfe,Zfh,Zfi,Zfl,Zfn,Zfz,Zf1,Zf3,Zf8,Zgl,Zgm,Zgo,Zgp,Zgq,Zgr,Zgs,Zgt,Zhb,Zhc,Zhd,Zhe,Zhf,Zhg,Zhh,Zin,Ziq,Zir,Ziu,Ziv,Ziw,Zi6,Zi7,Zjh,Zji,Zjl,Zjm,Zjn,Zjp,Zjq,Zjr,Zj2,Zj7,Zka,Zkv,Zkx,Zky,Zk0,Zk1,Zk4,Zla,Zlb,Zlc,Zld,Zle,Zlf,Zlh,Zlj,Zlk,Zlm,Zlt,Zlx,Zlz,Zl2,Zl3,Zl4,Zmt,Zmv,Zmw,Zmx,Zmy,Zmz,Zm0,Zm1,Zm2,Zm3,Zm5,Zm7,Zm9,Zna,Znb,Znc,Zne,Znf,Zng,Znh,Znl,Znm,Znn,Zno,Znp,Zn6,Zn7,Zos,Zot,Zo7,Zo8,Zo9,Zpa,Zpb,Zpc,Zpv,Zp7,Zp9,Zqb,Zqc,Zqd,Zqe,eq_self,true_and,and_true,callable_19]
  tactic =>
  refine cl none (cN) trivial ?_
  sym =>
  simp [Zaa,Zab,Zad,Zae,Zaf,Zak,Zal,Zam,Zaz,Za0,Za1,Za2,Za3,Za4,Za5,Za6,Za7,Za9,Zba,Zbb,Zbd,Zbf,Zbp,Zbr,Zbt,Zb7,Zb9,Zcv,Zcz,Zc3,Zdc,Zdd,Zde,Zdi,Zev,Zew,Zex,Zez,Ze0,Ze1,Ze2,Ze3,Ze5,Ze8,Ze9,Zfc,Zfd,Zfe,Zfh,Zfi,Zfl,Zfn,Zfz,Zf1,Zf3,Zf8,Zgl,Zgm,Zgo,Zgp,Zgq,Zgr,Zgs,Zgt,Zhb,Zhc,Zhd,Zhe,Zhf,Zhg,Zhh,Zin,Ziq,Zir,Ziu,Ziv,Ziw,Zi6,Zi7,Zjh,Zji,Zjl,Zjm,Zjn,Zjp,Zjq,Zjr,Zj2,Zj7,Zka,Zkv,Zkx,Zky,Zk0,Zk1,Zk4,Zla,Zlb,Zlc,Zld,Zle,Zlf,Zlh,Zlj,Zlk,Zlm,Zlt,Zlx,Zlz,Zl2,Zl3,Zl4,Zmt,Zmv,Zmw,Zmx,Zmy,Zmz,Zm0,Zm1,Zm2,Zm3,Zm5,Zm7,Zm9,Zna,Znb,Znc,Zne,Znf,Zng,Znh,Znl,Znm,Znn,Zno,Znp,Zn6,Zn7,Zos,Zot,Zo7,Zo8,Zo9,Zpa,Zpb,Zpc,Zpv,Zp7,Zp9,Zqb,Zqc,Zqd,Zqe,eq_self,true_and,and_true,callable_20]
  tactic =>
  refine cl none (c1) trivial ?_
  sym =>
  simp [Zaa,Zab,Zad,Zae,Zaf,Zak,Zal,Zam,Zaz,Za0,Za1,Za2,Za3,Za4,Za5,Za6,Za7,Za9,Zba,Zbb,Zbd,Zbf,Zbp,Zbr,Zbt,Zb7,Zb9,Zcv,Zcz,Zc3,Zdc,Zdd,Zde,Zdi,Zev,Zew,Zex,Zez,Ze0,Ze1,Ze2,Ze3,Ze5,Ze8,Ze9,Zfc,Zfd,Zfe,Zfh,Zfi,Zfl,Zfn,Zfz,Zf1,Zf3,Zf8,Zgl,Zgm,Zgo,Zgp,Zgq,Zgr,Zgs,Zgt,Zhb,Zhc,Zhd,Zhe,Zhf,Zhg,Zhh,Zin,Ziq,Zir,Ziu,Ziv,Ziw,Zi6,Zi7,Zjh,Zji,Zjl,Zjm,Zjn,Zjp,Zjq,Zjr,Zj2,Zj7,Zka,Zkv,Zkx,Zky,Zk0,Zk1,Zk4,Zla,Zlb,Zlc,Zld,Zle,Zlf,Zlh,Zlj,Zlk,Zlm,Zlt,Zlx,Zlz,Zl2,Zl3,Zl4,Zmt,Zmv,Zmw,Zmx,Zmy,Zmz,Zm0,Zm1,Zm2,Zm3,Zm5,Zm7,Zm9,Zna,Znb,Znc,Zne,Znf,Zng,Znh,Znl,Znm,Znn,Zno,Znp,Zn6,Zn7,Zos,Zot,Zo7,Zo8,Zo9,Zpa,Zpb,Zpc,Zpv,Zp7,Zp9,Zqb,Zqc,Zqd,Zqe,eq_self,true_and,and_true,callable_20]
  tactic =>
  refine cl none (c2) trivial ?_
  sym =>
  simp [Zaa,Zab,Zad,Zae,Zaf,Zak,Zal,Zam,Zaz,Za0,Za1,Za2,Za3,Za4,Za5,Za6,Za7,Za9,Zba,Zbb,Zbd,Zbf,Zbp,Zbr,Zbt,Zb7,Zb9,Zcv,Zcz,Zc3,Zdc,Zdd,Zde,Zdi,Zev,Zew,Zex,Zez,Ze0,Ze1,Ze2,Ze3,Ze5,Ze8,Ze9,Zfc,Zfd,Zfe,Zfh,Zfi,Zfl,Zfn,Zfz,Zf1,Zf3,Zf8,Zgl,Zgm,Zgo,Zgp,Zgq,Zgr,Zgs,Zgt,Zhb,Zhc,Zhd,Zhe,Zhf,Zhg,Zhh,Zin,Ziq,Zir,Ziu,Ziv,Ziw,Zi6,Zi7,Zjh,Zji,Zjl,Zjm,Zjn,Zjp,Zjq,Zjr,Zj2,Zj7,Zka,Zkv,Zkx,Zky,Zk0,Zk1,Zk4,Zla,Zlb,Zlc,Zld,Zle,Zlf,Zlh,Zlj,Zlk,Zlm,Zlt,Zlx,Zlz,Zl2,Zl3,Zl4,Zmt,Zmv,Zmw,Zmx,Zmy,Zmz,Zm0,Zm1,Zm2,Zm3,Zm5,Zm7,Zm9,Zna,Znb,Znc,Zne,Znf,Zng,Znh,Znl,Znm,Znn,Zno,Znp,Zn6,Zn7,Zos,Zot,Zo7,Zo8,Zo9,Zpa,Zpb,Zpc,Zpv,Zp7,Zp9,Zqb,Zqc,Zqd,Zqe,eq_self,true_and,and_true,callable_22]
  tactic =>
  refine cl none (c3) trivial ?_
  sym =>
  simp [Zaa,Zab,Zad,Zae,Zaf,Zak,Zal,Zam,Zaz,Za0,Za1,Za2,Za3,Za4,Za5,Za6,Za7,Za9,Zba,Zbb,Zbd,Zbf,Zbp,Zbr,Zbt,Zb7,Zb9,Zcv,Zcz,Zc3,Zdc,Zdd,Zde,Zdi,Zev,Zew,Zex,Zez,Ze0,Ze1,Ze2,Ze3,Ze5,Ze8,Ze9,Zfc,Zfd,Zfe,Zfh,Zfi,Zfl,Zfn,Zfz,Zf1,Zf3,Zf8,Zgl,Zgm,Zgo,Zgp,Zgq,Zgr,Zgs,Zgt,Zhb,Zhc,Zhd,Zhe,Zhf,Zhg,Zhh,Zin,Ziq,Zir,Ziu,Ziv,Ziw,Zi6,Zi7,Zjh,Zji,Zjl,Zjm,Zjn,Zjp,Zjq,Zjr,Zj2,Zj7,Zka,Zkv,Zkx,Zky,Zk0,Zk1,Zk4,Zla,Zlb,Zlc,Zld,Zle,Zlf,Zlh,Zlj,Zlk,Zlm,Zlt,Zlx,Zlz,Zl2,Zl3,Zl4,Zmt,Zmv,Zmw,Zmx,Zmy,Zmz,Zm0,Zm1,Zm2,Zm3,Zm5,Zm7,Zm9,Zna,Znb,Znc,Zne,Znf,Zng,Znh,Znl,Znm,Znn,Zno,Znp,Zn6,Zn7,Zos,Zot,Zo7,Zo8,Zo9,Zpa,Zpb,Zpc,Zpv,Zp7,Zp9,Zqb,Zqc,Zqd,Zqe,eq_self,true_and,and_true,callable_15]
  tactic =>
  refine cl none (c4) trivial ?_
  sym =>
  simp [Zaa,Zab,Zad,Zae,Zaf,Zak,Zal,Zam,Zaz,Za0,Za1,Za2,Za3,Za4,Za5,Za6,Za7,Za9,Zba,Zbb,Zbd,Zbf,Zbp,Zbr,Zbt,Zb7,Zb9,Zcv,Zcz,Zc3,Zdc,Zdd,Zde,Zdi,Zev,Zew,Zex,Zez,Ze0,Ze1,Ze2,Ze3,Ze5,Ze8,Ze9,Zfc,Zfd,Zfe,Zfh,Zfi,Zfl,Zfn,Zfz,Zf1,Zf3,Zf8,Zgl,Zgm,Zgo,Zgp,Zgq,Zgr,Zgs,Zgt,Zhb,Zhc,Zhd,Zhe,Zhf,Zhg,Zhh,Zin,Ziq,Zir,Ziu,Ziv,Ziw,Zi6,Zi7,Zjh,Zji,Zjl,Zjm,Zjn,Zjp,Zjq,Zjr,Zj2,Zj7,Zka,Zkv,Zkx,Zky,Zk0,Zk1,Zk4,Zla,Zlb,Zlc,Zld,Zle,Zlf,Zlh,Zlj,Zlk,Zlm,Zlt,Zlx,Zlz,Zl2,Zl3,Zl4,Zmt,Zmv,Zmw,Zmx,Zmy,Zmz,Zm0,Zm1,Zm2,Zm3,Zm5,Zm7,Zm9,Zna,Znb,Znc,Zne,Znf,Zng,Znh,Znl,Znm,Znn,Zno,Znp,Zn6,Zn7,Zos,Zot,Zo7,Zo8,Zo9,Zpa,Zpb,Zpc,Zpv,Zp7,Zp9,Zqb,Zqc,Zqd,Zqe,eq_self,true_and,and_true,hs,hso,hla,hcc,hts,hto,hlt,callable_23]
  tactic =>
  refine cl none (c5) trivial ?_
  sym =>
  simp [Zaa,Zab,Zad,Zae,Zaf,Zak,Zal,Zam,Zaz,Za0,Za1,Za2,Za3,Za4,Za5,Za6,Za7,Za9,Zba,Zbb,Zbd,Zbf,Zbp,Zbr,Zbt,Zb7,Zb9,Zcv,Zcz,Zc3,Zdc,Zdd,Zde,Zdi,Zev,Zew,Zex,Zez,Ze0,Ze1,Ze2,Ze3,Ze5,Ze8,Ze9,Zfc,Zfd,Zfe,Zfh,Zfi,Zfl,Zfn,Zfz,Zf1,Zf3,Zf8,Zgl,Zgm,Zgo,Zgp,Zgq,Zgr,Zgs,Zgt,Zhb,Zhc,Zhd,Zhe,Zhf,Zhg,Zhh,Zin,Ziq,Zir,Ziu,Ziv,Ziw,Zi6,Zi7,Zjh,Zji,Zjl,Zjm,Zjn,Zjp,Zjq,Zjr,Zj2,Zj7,Zka,Zkv,Zkx,Zky,Zk0,Zk1,Zk4,Zla,Zlb,Zlc,Zld,Zle,Zlf,Zlh,Zlj,Zlk,Zlm,Zlt,Zlx,Zlz,Zl2,Zl3,Zl4,Zmt,Zmv,Zmw,Zmx,Zmy,Zmz,Zm0,Zm1,Zm2,Zm3,Zm5,Zm7,Zm9,Zna,Znb,Znc,Zne,Znf,Zng,Znh,Znl,Znm,Znn,Zno,Znp,Zn6,Zn7,Zos,Zot,Zo7,Zo8,Zo9,Zpa,Zpb,Zpc,Zpv,Zp7,Zp9,Zqb,Zqc,Zqd,Zqe,eq_self,true_and,and_true,callable_23]
  tactic =>
  refine cl none (c6) trivial ?_
  sym =>
  simp [Zaa,Zab,Zad,Zae,Zaf,Zak,Zal,Zam,Zaz,Za0,Za1,Za2,Za3,Za4,Za5,Za6,Za7,Za9,Zba,Zbb,Zbd,Zbf,Zbp,Zbr,Zbt,Zb7,Zb9,Zcv,Zcz,Zc3,Zdc,Zdd,Zde,Zdi,Zev,Zew,Zex,Zez,Ze0,Ze1,Ze2,Ze3,Ze5,Ze8,Ze9,Zfc,Zfd,Zfe,Zfh,Zfi,Zfl,Zfn,Zfz,Zf1,Zf3,Zf8,Zgl,Zgm,Zgo,Zgp,Zgq,Zgr,Zgs,Zgt,Zhb,Zhc,Zhd,Zhe,Zhf,Zhg,Zhh,Zin,Ziq,Zir,Ziu,Ziv,Ziw,Zi6,Zi7,Zjh,Zji,Zjl,Zjm,Zjn,Zjp,Zjq,Zjr,Zj2,Zj7,Zka,Zkv,Zkx,Zky,Zk0,Zk1,Zk4,Zla,Zlb,Zlc,Zld,Zle,Zlf,Zlh,Zlj,Zlk,Zlm,Zlt,Zlx,Zlz,Zl2,Zl3,Zl4,Zmt,Zmv,Zmw,Zmx,Zmy,Zmz,Zm0,Zm1,Zm2,Zm3,Zm5,Zm7,Zm9,Zna,Znb,Znc,Zne,Znf,Zng,Znh,Znl,Znm,Znn,Zno,Znp,Zn6,Zn7,Zos,Zot,Zo7,Zo8,Zo9,Zpa,Zpb,Zpc,Zpv,Zp7,Zp9,Zqb,Zqc,Zqd,Zqe,eq_self,true_and,and_true,hts,hto,hlt]
  tactic =>
  refine endA ?_
  sym =>
  simp [Zaa,Zab,Zad,Zae,Zaf,Zak,Zal,Zam,Zaz,Za0,Za1,Za2,Za3,Za4,Za5,Za6,Za7,Za9,Zba,Zbb,Zbd,Zbf,Zbp,Zbr,Zbt,Zb7,Zb9,Zcv,Zcz,Zc3,Zdc,Zdd,Zde,Zdi,Zev,Zew,Zex,Zez,Ze0,Ze1,Ze2,Ze3,Ze5,Ze8,Ze9,Zfc,Zfd,Zfe,Zfh,Zfi,Zfl,Zfn,Zfz,Zf1,Zf3,Zf8,Zgl,Zgm,Zgo,Zgp,Zgq,Zgr,Zgs,Zgt,Zhb,Zhc,Zhd,Zhe,Zhf,Zhg,Zhh,Zin,Ziq,Zir,Ziu,Ziv,Ziw,Zi6,Zi7,Zjh,Zji,Zjl,Zjm,Zjn,Zjp,Zjq,Zjr,Zj2,Zj7,Zka,Zkv,Zkx,Zky,Zk0,Zk1,Zk4,Zla,Zlb,Zlc,Zld,Zle,Zlf,Zlh,Zlj,Zlk,Zlm,Zlt,Zlx,Zlz,Zl2,Zl3,Zl4,Zmt,Zmv,Zmw,Zmx,Zmy,Zmz,Zm0,Zm1,Zm2,Zm3,Zm5,Zm7,Zm9,Zna,Znb,Znc,Zne,Znf,Zng,Znh,Znl,Znm,Znn,Zno,Znp,Zn6,Zn7,Zos,Zot,Zo7,Zo8,Zo9,Zpa,Zpb,Zpc,Zpv,Zp7,Zp9,Zqb,Zqc,Zqd,Zqe,eq_self,true_and,and_true]
end Go.Proofs.Ytnfgnafphfddhaa.LkC
