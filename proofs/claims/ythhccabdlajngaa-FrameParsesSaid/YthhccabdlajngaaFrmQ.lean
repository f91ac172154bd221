import Derived.Test.YthhccabdlajngaaFrmP
namespace Go.Proofs.Ythhccabdlajngaa.FrmQ
open Go Go.Sim Go.Sim.E Go.RowKit Go.Proofs Go.Proofs.Ythhccabdlajngaa.Cod Go.Proofs.Ythhccabdlajngaa.Tab Go.Proofs.Ythhccabdlajngaa.Bse Go.Proofs.Ythhccabdlajngaa.Krc Go.Proofs.Ythhccabdlajngaa.FrmA Go.Proofs.Ythhccabdlajngaa.FrmB Go.Proofs.Ythhccabdlajngaa.FrmC Go.Proofs.Ythhccabdlajngaa.FrmD Go.Proofs.Ythhccabdlajngaa.FrmE Go.Proofs.Ythhccabdlajngaa.FrmF Go.Proofs.Ythhccabdlajngaa.FrmN Go.Proofs.Ythhccabdlajngaa.FrmO Go.Proofs.Ythhccabdlajngaa.FrmO Go.Proofs.Ythhccabdlajngaa.FrmP
set_option linter.unusedVariables false
set_option linter.unusedSimpArgs false
set_option maxRecDepth 100000
set_option maxHeartbeats 4000000
theorem con_2 {P : Program} {f : FuncId} {x : ACode} {rs : List AR} {n : Nat} (hk : cmpG P f = some (strip x, rs, n)) {args : List AV} {ob ob1 : Ob} {hp1 : List (Nat × Ob)} {r : AV} (hargs : Nat.ble args.length n = true)
    (h : awA P 2 x ⟨slots args 0, [(0, ob), (1, ob1)], 2⟩ (RetsA 2 rs hp1 r)) : Con P f [(0, ob), (1, ob1)] args hp1 r := by
  unfold cmpG at hk
  split at hk
  · rename_i fn hf
    split at hk
    · rename_i a rs' hc
      simp only [Option.some.injEq, Prod.mk.injEq] at hk
      obtain ⟨rfl, rfl, rfl⟩ := hk
      refine con_c fn x _ hf hc (Nat.le_of_ble_eq_true hargs) 2 (fun p hp => ?_) (fun id hid => ?_) h
      · simp only [List.mem_cons, List.not_mem_nil, or_false] at hp
        rcases hp with rfl | rfl
        · exact Nat.succ_pos _
        · exact Nat.lt_succ_self _
      · have : id = 0 ∨ id = 1 := by omega
        rcases this with rfl | rfl <;> simp [look]
    · cases hk
  · cases hk
abbrev rdO (b : List Int) (m : Bool) : Ob := ⟨[fB b, Bo m], 1, 0⟩
/-- The sack's ranges, and whether something was missing. -/
def skG (b : List Int) (m : Bool) (acc : List Rg) : List Rg × Bool :=
  if h : b.length = 0 then (acc, m) else
    skG (tkF (tkF b m 8).2.1 (tkF b m 8).2.2 8).2.1 (tkF (tkF b m 8).2.1 (tkF b m 8).2.2 8).2.2 (acc ++ [(ofN (tkF b m 8).1 8, ofN (tkF (tkF b m 8).2.1 (tkF b m 8).2.2 8).1 8)])
termination_by b.length
decreasing_by
  have h1 := tkF_len2 (tkF b m 8).2.1 (tkF b m 8).2.2 8
  have h2 : (tkF b m 8).2.1.length < b.length := by
    unfold tkF
    split
    · simp; omega
    · simp; omega
  omega
theorem tkF_lt (b : List Int) (m : Bool) (h : b.length ≠ 0) : (tkF b m 8).2.1.length < b.length := by
  unfold tkF
  split
  · simp; omega
  · simp; omega
def s32 (b : List Int) (m : Bool) : V 32 := ⟨(tkF b m 32).1, tkF_len _ _ _⟩
/-- A frame's fields, taken one after another. -/
def fdP (k : Int) (t : V 16) (es er : Int) (b : List Int) : Fm × List Int × Bool :=
  if k = 1 ∨ k = 5 then (⟨k, t, es, er, 0, ofN (tkF b false 8).1 8, s32 (tkF b false 8).2.1 (tkF b false 8).2.2, [], [], 0⟩, (tkF (tkF b false 8).2.1 (tkF b false 8).2.2 32).2)
  else if k = 6 then (⟨k, t, es, er, 0, ofN (tkF b false 8).1 8, z32, [], [], 0⟩, (tkF b false 8).2)
  else if k = 7 then (⟨k, t, es, er, 0, 0, z32, [], [], ofN (tkF b false 1).1 1⟩, (tkF b false 1).2)
  else if k = 3 then (⟨k, t, es, er, ofN (tkF b false 8).1 8, 0, z32, (tkF b false 8).2.1, [], 0⟩, [], (tkF b false 8).2.2 || decide ((tkF b false 8).2.1.length = 0))
  else if k = 4 then (⟨k, t, es, er, ofN (tkF b false 8).1 8, 0, z32, [], (skG (tkF b false 8).2.1 (tkF b false 8).2.2 []).1, 0⟩, [], (skG (tkF b false 8).2.1 (tkF b false 8).2.2 []).2)
  else (⟨k, t, es, er, ofN (tkF b false 8).1 8, 0, z32, [], [], 0⟩, (tkF b false 8).2)
theorem rdnum_con' (b : List Int) (hb : byt8 b) (m : Bool) (n : Nat) (hl : b.length ≤ 1000000) (hn : n ≤ 1000) (ni : Int) (hni : ni = IN n) {x : Int} {b' : List Int} {m' : Bool} (h1 : ofN (tkF b m n).1 n = x) (h2 : (tkF b m n).2 = (b', m')) : Con Try.prog 37 [(0, rdO b m)] [.pt 0 0, I ni] [(0, rdO b' m')] (L x) := by
  subst hni h1
  have := rdnum_con b hb m n hl hn
  rw [h2, tkF_len] at this
  exact this
theorem take_con' (b : List Int) (m : Bool) (n : Nat) (hl : b.length ≤ 1000000) (hn : n ≤ 1000) (ni : Int) (hni : ni = IN n) {x b' : List Int} {m' : Bool} (h1 : (tkF b m n).1 = x) (h2 : (tkF b m n).2 = (b', m')) : Con Try.prog 38 [(0, rdO b m)] [.pt 0 0, I ni] [(0, rdO b' m')] (.fz n (cB x)) := by
  subst hni
  have := take_con b m n hl hn
  have hle := tkF_len b m n
  rw [h2] at this
  rw [h1] at this hle
  simp only [fB, hle] at this
  exact this
def i39 (t : V 16) (es er x : Int) (Z : List Rg × Bool) (k : Nat) (s : St) : Prop := ∃ (b : List Int) (m : Bool) (acc : List Rg), k = b.length ∧ skG b m acc = Z ∧ byt8 b ∧ acc.length + b.length ≤ 5000 ∧ s = ⟨[(0, .pt 0 0), (1, .pt 1 0), (4, .bf 37 (.pt 0 0))], [(0, ⟨[fB b, Bo m], 1, 0⟩), (1, ⟨fc 4 t es er x 0 z32 .nl (.lv 2 0 acc.length) 0, 1, 0⟩), (2, ⟨cR acc, 2, 0⟩)], 3⟩
theorem fields_con (k : Int) (t : V 16) (es er : Int) (b : List Int) (hb : byt8 b) (hl : b.length ≤ 5000) : Con Try.prog 39 [(0, rdO b false), (1, ⟨fc k t es er 0 0 z32 .nl .nl 0, 1, 0⟩)] [.pt 0 0, .pt 1 0]
    [(0, rdO (fdP k t es er b).2.1 (fdP k t es er b).2.2), (1, ⟨fr (fdP k t es er b).1, 1, 0⟩)] (.tu []) := by
  obtain ⟨R, hR⟩ : ∃ R, R = fdP k t es er b := ⟨_, rfl⟩
  rw [← hR]
  unfold fdP at hR
  have hb1 := tkF_byt2 hb false 8
  have hl1 := tkF_len2 b false 8
  have c1 := rdnum_con' b hb false 8 (by omega) (by decide) 8 rfl rfl rfl
  obtain ⟨x1, hx1⟩ : ∃ x, x = ofN (tkF b false 8).1 8 := ⟨_, rfl⟩
  obtain ⟨b1, hbb1⟩ : ∃ x, x = (tkF b false 8).2.1 := ⟨_, rfl⟩
  obtain ⟨m1, hm1⟩ : ∃ x, x = (tkF b false 8).2.2 := ⟨_, rfl⟩
  rw [← hx1, ← hbb1, ← hm1] at c1 hR
  rw [← hbb1] at hl1 hb1
  have hl1' : b1.length ≤ 5000 := by omega
  have o0 : ∀ b m, okI [fB b, Bo m] := fun b m => okI2 rfl rfl
  have oF := fun (o n : Int) (su : V 32) (c : Int) => fc_okI k t es er o n su .nl .nl c rfl rfl
  unfold rdO at *
  by_cases h15 : k = 1 ∨ k = 5
  · rw [if_pos h15] at hR
    have c2 := take_con' b1 m1 32 (by omega) (by decide) 32 rfl rfl rfl
    have hs : (tkF b1 m1 32).1 = (s32 b1 m1).1 := rfl
    rw [hs] at c2
    obtain ⟨s, hs0⟩ : ∃ x, x = s32 b1 m1 := ⟨_, rfl⟩
    obtain ⟨b2, hbb2⟩ : ∃ x, x = (tkF b1 m1 32).2.1 := ⟨_, rfl⟩
    obtain ⟨m2, hm2⟩ : ∃ x, x = (tkF b1 m1 32).2.2 := ⟨_, rfl⟩
    rw [← hs0, ← hbb2, ← hm2] at c2
    have hp : (tkF b1 m1 32).2 = (b2, m2) := by rw [hbb2, hm2]
    rw [← hs0, hp] at hR
    subst hR
    simp only [fr]
    unfold rdO at *
    have v32' := v32 s
    have hr32 : rdb (cB s.1) 0 32 = cB s.1 := rdb_all (v32 s)
    have fsF := cB_okF s.1
    have fsc := fun st => okF_cells (cB_okF s.1) st
    rcases h15 with rfl | rfl
    · refine con_2 b39 rfl ?_
      sym =>
      simp [Zaa,Zab,Zac,Zad,Zae,Zaf,Zag,Zah,Zai,Zal,Zam,Zan,Zap,Zaq,Zav,Zaw,Zaz,Za0,Za1,Za2,Za3,Za4,Za5,Za6,Za7,Za8,Za9,Zba,Zbb,Zbc,Zbd,Zbf,Zbl,Zbt,Zbu,Zbv,Zbw,Zca,Zto,Ztq,Zcd,Zce,Zcn,Zc0,Zc3,Zc4,Zc6,Zc7,Zc8,Zc9,Zdc,Zdd,Zde,Zdi,Zdm,Zrj,Zrk,Zrl,Zts,Zrm,Zrn,Zro,Zrp,Zrq,Zrr,Zrt,Zru,Zrv,Zrw,Zrx,Zry,Zrz,Zr1,Zr2,Zsb,Zsd,Zse,Zsf,Zsg,Zsh,Zsj,Zsm,Zsn,Zso,Zsp,Zsr,Zst,Zsw,Zdo,Zdp,Zdt,Zdu,Zdv,Zdw,Zdx,Zdy,Zdz,Zd0,Zd1,Zd2,Zd3,Zeh,Zek,Zem,Zen,Ztt,Zer,Zes,Zev,Zew,Zex,Zez,Ze0,Ze1,Ze2,Ze3,Ze4,Ze5,Ze8,Zfb,Zfc,Zfd,Zfe,Zff,Zfg,Zfh,Zfi,Zfj,Zfl,Zfn,Zfz,Zf3,Zgh,Zgi,Zgr,Zgs,Zgt,Zgu,Zgv,Zgw,Zgx,Zhd,Zhe,Zhf,Zhg,Zhh,Ztv,Ztw,Ztx,Zhj,Zhk,Zh6,Zh7,Ziq,Zir,Ziu,Ziv,Ziw,Zix,Ziz,Zi0,Zi2,Zi3,Zi6,Zi7,Zi8,Zja,Zjb,Zje,Zjg,Zjh,Zji,Zjj,Zjk,Zjl,Zjm,Zjn,Zjo,Zjs,Zju,Zj2,Zj7,Zj9,Zkb,Zkl,Zla,Zlb,Zle,Zlj,Zll,Zlu,Zly,Zlz,Zl2,Zmu,Zmv,Zmw,Zm4,Zm5,Zm6,Zm9,Zna,Znb,Znc,Znd,Zne,Znf,Zng,Znh,Znl,Znm,Znn,Zno,Znp,Znr,Znx,Zny,Zn5,Zof,Zog,Zos,Zot,Zo6,Zo7,Zo8,Zo9,Zpa,Zpd,Zpg,Zpm,Zpp,Zps,Zpu,Zpv,Zpy,Zp1,Zp2,Zp3,Zp9,Ztz,Zqb,Zqc,Zqd,Zq5,Zq6,Zqf,Zqg,Zqh,Zqi,Zqj,Zqk,Zql,Zqm,Zqn,Zqo,List.length_append,eq_self,true_and,and_true,Nat.zero_add,zF_fc,fc_0,fc_17,fc_18,fc_19,fc_20,fc_53,fc_54,fc_55,fs_0,fs_17,fs_18,fs_19,fs_20,fs_53,fs_54,fs_55,fp_1,fp_21,fp_f,rb_1,rb_21,rb_0,fc_len,fc_ok,fc_id,fc_rs,v16,v32,cB_cells,fc_okI,callable_37]
      tactic =>
      and_intros <;> try (first | omega | rfl | assumption | simp only [IN]; omega)
      refine clG [some ⟨[fB b1, Bo m1], 1, 0⟩] none c1 rfl ⟨⟨o0 _ _, trivial⟩, trivial, rfl⟩ ?_
      sym =>
      simp [Zaa,Zab,Zac,Zad,Zae,Zaf,Zag,Zah,Zai,Zal,Zam,Zan,Zap,Zaq,Zav,Zaw,Zaz,Za0,Za1,Za2,Za3,Za4,Za5,Za6,Za7,Za8,Za9,Zba,Zbb,Zbc,Zbd,Zbf,Zbl,Zbt,Zbu,Zbv,Zbw,Zca,Zto,Ztq,Zcd,Zce,Zcn,Zc0,Zc3,Zc4,Zc6,Zc7,Zc8,Zc9,Zdc,Zdd,Zde,Zdi,Zdm,Zrj,Zrk,Zrl,Zts,Zrm,Zrn,Zro,Zrp,Zrq,Zrr,Zrt,Zru,Zrv,Zrw,Zrx,Zry,Zrz,Zr1,Zr2,Zsb,Zsd,Zse,Zsf,Zsg,Zsh,Zsj,Zsm,Zsn,Zso,Zsp,Zsr,Zst,Zsw,Zdo,Zdp,Zdt,Zdu,Zdv,Zdw,Zdx,Zdy,Zdz,Zd0,Zd1,Zd2,Zd3,Zeh,Zek,Zem,Zen,Ztt,Zer,Zes,Zev,Zew,Zex,Zez,Ze0,Ze1,Ze2,Ze3,Ze4,Ze5,Ze8,Zfb,Zfc,Zfd,Zfe,Zff,Zfg,Zfh,Zfi,Zfj,Zfl,Zfn,Zfz,Zf3,Zgh,Zgi,Zgr,Zgs,Zgt,Zgu,Zgv,Zgw,Zgx,Zhd,Zhe,Zhf,Zhg,Zhh,Ztv,Ztw,Ztx,Zhj,Zhk,Zh6,Zh7,Ziq,Zir,Ziu,Ziv,Ziw,Zix,Ziz,Zi0,Zi2,Zi3,Zi6,Zi7,Zi8,Zja,Zjb,Zje,Zjg,Zjh,Zji,Zjj,Zjk,Zjl,Zjm,Zjn,Zjo,Zjs,Zju,Zj2,Zj7,Zj9,Zkb,Zkl,Zla,Zlb,Zle,Zlj,Zll,Zlu,Zly,Zlz,Zl2,Zmu,Zmv,Zmw,Zm4,Zm5,Zm6,Zm9,Zna,Znb,Znc,Znd,Zne,Znf,Zng,Znh,Znl,Znm,Znn,Zno,Znp,Znr,Znx,Zny,Zn5,Zof,Zog,Zos,Zot,Zo6,Zo7,Zo8,Zo9,Zpa,Zpd,Zpg,Zpm,Zpp,Zps,Zpu,Zpv,Zpy,Zp1,Zp2,Zp3,Zp9,Ztz,Zqb,Zqc,Zqd,Zq5,Zq6,Zqf,Zqg,Zqh,Zqi,Zqj,Zqk,Zql,Zqm,Zqn,Zqo,List.length_append,eq_self,true_and,and_true,Nat.zero_add,zF_fc,fc_0,fc_17,fc_18,fc_19,fc_20,fc_53,fc_54,fc_55,fs_0,fs_17,fs_18,fs_19,fs_20,fs_53,fs_54,fs_55,fp_1,fp_21,fp_f,rb_1,rb_21,rb_0,fc_len,fc_ok,fc_id,fc_rs,v16,v32,cB_cells,callable_38]
      tactic =>
      and_intros <;> try (first | omega | rfl | assumption | simp only [IN]; omega)
      refine clG [some ⟨[fB b2, Bo m2], 1, 0⟩] none c2 rfl ⟨⟨o0 _ _, trivial⟩, trivial, rfl⟩ ?_
      sym =>
      simp [Zaa,Zab,Zac,Zad,Zae,Zaf,Zag,Zah,Zai,Zal,Zam,Zan,Zap,Zaq,Zav,Zaw,Zaz,Za0,Za1,Za2,Za3,Za4,Za5,Za6,Za7,Za8,Za9,Zba,Zbb,Zbc,Zbd,Zbf,Zbl,Zbt,Zbu,Zbv,Zbw,Zca,Zto,Ztq,Zcd,Zce,Zcn,Zc0,Zc3,Zc4,Zc6,Zc7,Zc8,Zc9,Zdc,Zdd,Zde,Zdi,Zdm,Zrj,Zrk,Zrl,Zts,Zrm,Zrn,Zro,Zrp,Zrq,Zrr,Zrt,Zru,Zrv,Zrw,Zrx,Zry,Zrz,Zr1,Zr2,Zsb,Zsd,Zse,Zsf,Zsg,Zsh,Zsj,Zsm,Zsn,Zso,Zsp,Zsr,Zst,Zsw,Zdo,Zdp,Zdt,Zdu,Zdv,Zdw,Zdx,Zdy,Zdz,Zd0,Zd1,Zd2,Zd3,Zeh,Zek,Zem,Zen,Ztt,Zer,Zes,Zev,Zew,Zex,Zez,Ze0,Ze1,Ze2,Ze3,Ze4,Ze5,Ze8,Zfb,Zfc,Zfd,Zfe,Zff,Zfg,Zfh,Zfi,Zfj,Zfl,Zfn,Zfz,Zf3,Zgh,Zgi,Zgr,Zgs,Zgt,Zgu,Zgv,Zgw,Zgx,Zhd,Zhe,Zhf,Zhg,Zhh,Ztv,Ztw,Ztx,Zhj,Zhk,Zh6,Zh7,Ziq,Zir,Ziu,Ziv,Ziw,Zix,Ziz,Zi0,Zi2,Zi3,Zi6,Zi7,Zi8,Zja,Zjb,Zje,Zjg,Zjh,Zji,Zjj,Zjk,Zjl,Zjm,Zjn,Zjo,Zjs,Zju,Zj2,Zj7,Zj9,Zkb,Zkl,Zla,Zlb,Zle,Zlj,Zll,Zlu,Zly,Zlz,Zl2,Zmu,Zmv,Zmw,Zm4,Zm5,Zm6,Zm9,Zna,Znb,Znc,Znd,Zne,Znf,Zng,Znh,Znl,Znm,Znn,Zno,Znp,Znr,Znx,Zny,Zn5,Zof,Zog,Zos,Zot,Zo6,Zo7,Zo8,Zo9,Zpa,Zpd,Zpg,Zpm,Zpp,Zps,Zpu,Zpv,Zpy,Zp1,Zp2,Zp3,Zp9,Ztz,Zqb,Zqc,Zqd,Zq5,Zq6,Zqf,Zqg,Zqh,Zqi,Zqj,Zqk,Zql,Zqm,Zqn,Zqo,List.length_append,eq_self,true_and,and_true,Nat.zero_add,zF_fc,fc_0,fc_17,fc_18,fc_19,fc_20,fc_53,fc_54,fc_55,fs_0,fs_17,fs_18,fs_19,fs_20,fs_53,fs_54,fs_55,fp_1,fp_21,fp_f,rb_1,rb_21,rb_0,fc_len,fc_ok,fc_id,fc_rs,v16,v32,cB_cells,v32',hr32]
      tactic =>
      refine endM [(0, 0), (1, 1)] 2 ?_
      sym =>
      simp [Zaa,Zab,Zac,Zad,Zae,Zaf,Zag,Zah,Zai,Zal,Zam,Zan,Zap,Zaq,Zav,Zaw,Zaz,Za0,Za1,Za2,Za3,Za4,Za5,Za6,Za7,Za8,Za9,Zba,Zbb,Zbc,Zbd,Zbf,Zbl,Zbt,Zbu,Zbv,Zbw,Zca,Zto,Ztq,Zcd,Zce,Zcn,Zc0,Zc3,Zc4,Zc6,Zc7,Zc8,Zc9,Zdc,Zdd,Zde,Zdi,Zdm,Zrj,Zrk,Zrl,Zts,Zrm,Zrn,Zro,Zrp,Zrq,Zrr,Zrt,Zru,Zrv,Zrw,Zrx,Zry,Zrz,Zr1,Zr2,Zsb,Zsd,Zse,Zsf,Zsg,Zsh,Zsj,Zsm,Zsn,Zso,Zsp,Zsr,Zst,Zsw,Zdo,Zdp,Zdt,Zdu,Zdv,Zdw,Zdx,Zdy,Zdz,Zd0,Zd1,Zd2,Zd3,Zeh,Zek,Zem,Zen,Ztt,Zer,Zes,Zev,Zew,Zex,Zez,Ze0,Ze1,Ze2,Ze3,Ze4,Ze5,Ze8,Zfb,Zfc,Zfd,Zfe,Zff,Zfg,Zfh,Zfi,Zfj,Zfl,Zfn,Zfz,Zf3,Zgh,Zgi,Zgr,Zgs,Zgt,Zgu,Zgv,Zgw,Zgx,Zhd,Zhe,Zhf,Zhg,Zhh,Ztv,Ztw,Ztx,Zhj,Zhk,Zh6,Zh7,Ziq,Zir,Ziu,Ziv,Ziw,Zix,Ziz,Zi0,Zi2,Zi3,Zi6,Zi7,Zi8,Zja,Zjb,Zje,Zjg,Zjh,Zji,Zjj,Zjk,Zjl,Zjm,Zjn,Zjo,Zjs,Zju,Zj2,Zj7,Zj9,Zkb,Zkl,Zla,Zlb,Zle,Zlj,Zll,Zlu,Zly,Zlz,Zl2,Zmu,Zmv,Zmw,Zm4,Zm5,Zm6,Zm9,Zna,Znb,Znc,Znd,Zne,Znf,Zng,Znh,Znl,Znm,Znn,Zno,Znp,Znr,Znx,Zny,Zn5,Zof,Zog,Zos,Zot,Zo6,Zo7,Zo8,Zo9,Zpa,Zpd,Zpg,Zpm,Zpp,Zps,Zpu,Zpv,Zpy,Zp1,Zp2,Zp3,Zp9,Ztz,Zqb,Zqc,Zqd,Zq5,Zq6,Zqf,Zqg,Zqh,Zqi,Zqj,Zqk,Zql,Zqm,Zqn,Zqo,List.length_append,eq_self,true_and,and_true,Nat.zero_add,zF_fc,fc_0,fc_17,fc_18,fc_19,fc_20,fc_53,fc_54,fc_55,fs_0,fs_17,fs_18,fs_19,fs_20,fs_53,fs_54,fs_55,fp_1,fp_21,fp_f,rb_1,rb_21,rb_0,fc_len,fc_ok,fc_id,fc_rs,v16,v32,cB_cells]
      tactic =>
      exact ⟨rfl, rfl⟩
    · refine con_2 b39 rfl ?_
      sym =>
      simp [Zaa,Zab,Zac,Zad,Zae,Zaf,Zag,Zah,Zai,Zal,Zam,Zan,Zap,Zaq,Zav,Zaw,Zaz,Za0,Za1,Za2,Za3,Za4,Za5,Za6,Za7,Za8,Za9,Zba,Zbb,Zbc,Zbd,Zbf,Zbl,Zbt,Zbu,Zbv,Zbw,Zca,Zto,Ztq,Zcd,Zce,Zcn,Zc0,Zc3,Zc4,Zc6,Zc7,Zc8,Zc9,Zdc,Zdd,Zde,Zdi,Zdm,Zrj,Zrk,Zrl,Zts,Zrm,Zrn,Zro,Zrp,Zrq,Zrr,Zrt,Zru,Zrv,Zrw,Zrx,Zry,Zrz,Zr1,Zr2,Zsb,Zsd,Zse,Zsf,Zsg,Zsh,Zsj,Zsm,Zsn,Zso,Zsp,Zsr,Zst,Zsw,Zdo,Zdp,Zdt,Zdu,Zdv,Zdw,Zdx,Zdy,Zdz,Zd0,Zd1,Zd2,Zd3,Zeh,Zek,Zem,Zen,Ztt,Zer,Zes,Zev,Zew,Zex,Zez,Ze0,Ze1,Ze2,Ze3,Ze4,Ze5,Ze8,Zfb,Zfc,Zfd,Zfe,Zff,Zfg,Zfh,Zfi,Zfj,Zfl,Zfn,Zfz,Zf3,Zgh,Zgi,Zgr,Zgs,Zgt,Zgu,Zgv,Zgw,Zgx,Zhd,Zhe,Zhf,Zhg,Zhh,Ztv,Ztw,Ztx,Zhj,Zhk,Zh6,Zh7,Ziq,Zir,Ziu,Ziv,Ziw,Zix,Ziz,Zi0,Zi2,Zi3,Zi6,Zi7,Zi8,Zja,Zjb,Zje,Zjg,Zjh,Zji,Zjj,Zjk,Zjl,Zjm,Zjn,Zjo,Zjs,Zju,Zj2,Zj7,Zj9,Zkb,Zkl,Zla,Zlb,Zle,Zlj,Zll,Zlu,Zly,Zlz,Zl2,Zmu,Zmv,Zmw,Zm4,Zm5,Zm6,Zm9,Zna,Znb,Znc,Znd,Zne,Znf,Zng,Znh,Znl,Znm,Znn,Zno,Znp,Znr,Znx,Zny,Zn5,Zof,Zog,Zos,Zot,Zo6,Zo7,Zo8,Zo9,Zpa,Zpd,Zpg,Zpm,Zpp,Zps,Zpu,Zpv,Zpy,Zp1,Zp2,Zp3,Zp9,Ztz,Zqb,Zqc,Zqd,Zq5,Zq6,Zqf,Zqg,Zqh,Zqi,Zqj,Zqk,Zql,Zqm,Zqn,Zqo,List.length_append,eq_self,true_and,and_true,Nat.zero_add,zF_fc,fc_0,fc_17,fc_18,fc_19,fc_20,fc_53,fc_54,fc_55,fs_0,fs_17,fs_18,fs_19,fs_20,fs_53,fs_54,fs_55,fp_1,fp_21,fp_f,rb_1,rb_21,rb_0,fc_len,fc_ok,fc_id,fc_rs,v16,v32,cB_cells,fc_okI,callable_37]
      tactic =>
      and_intros <;> try (first | omega | rfl | assumption | simp only [IN]; omega)
      refine clG [some ⟨[fB b1, Bo m1], 1, 0⟩] none c1 rfl ⟨⟨o0 _ _, trivial⟩, trivial, rfl⟩ ?_
      sym =>
      simp [Zaa,Zab,Zac,Zad,Zae,Zaf,Zag,Zah,Zai,Zal,Zam,Zan,Zap,Zaq,Zav,Zaw,Zaz,Za0,Za1,Za2,Za3,Za4,Za5,Za6,Za7,Za8,Za9,Zba,Zbb,Zbc,Zbd,Zbf,Zbl,Zbt,Zbu,Zbv,Zbw,Zca,Zto,Ztq,Zcd,Zce,Zcn,Zc0,Zc3,Zc4,Zc6,Zc7,Zc8,Zc9,Zdc,Zdd,Zde,Zdi,Zdm,Zrj,Zrk,Zrl,Zts,Zrm,Zrn,Zro,Zrp,Zrq,Zrr,Zrt,Zru,Zrv,Zrw,Zrx,Zry,Zrz,Zr1,Zr2,Zsb,Zsd,Zse,Zsf,Zsg,Zsh,Zsj,Zsm,Zsn,Zso,Zsp,Zsr,Zst,Zsw,Zdo,Zdp,Zdt,Zdu,Zdv,Zdw,Zdx,Zdy,Zdz,Zd0,Zd1,Zd2,Zd3,Zeh,Zek,Zem,Zen,Ztt,Zer,Zes,Zev,Zew,Zex,Zez,Ze0,Ze1,Ze2,Ze3,Ze4,Ze5,Ze8,Zfb,Zfc,Zfd,Zfe,Zff,Zfg,Zfh,Zfi,Zfj,Zfl,Zfn,Zfz,Zf3,Zgh,Zgi,Zgr,Zgs,Zgt,Zgu,Zgv,Zgw,Zgx,Zhd,Zhe,Zhf,Zhg,Zhh,Ztv,Ztw,Ztx,Zhj,Zhk,Zh6,Zh7,Ziq,Zir,Ziu,Ziv,Ziw,Zix,Ziz,Zi0,Zi2,Zi3,Zi6,Zi7,Zi8,Zja,Zjb,Zje,Zjg,Zjh,Zji,Zjj,Zjk,Zjl,Zjm,Zjn,Zjo,Zjs,Zju,Zj2,Zj7,Zj9,Zkb,Zkl,Zla,Zlb,Zle,Zlj,Zll,Zlu,Zly,Zlz,Zl2,Zmu,Zmv,Zmw,Zm4,Zm5,Zm6,Zm9,Zna,Znb,Znc,Znd,Zne,Znf,Zng,Znh,Znl,Znm,Znn,Zno,Znp,Znr,Znx,Zny,Zn5,Zof,Zog,Zos,Zot,Zo6,Zo7,Zo8,Zo9,Zpa,Zpd,Zpg,Zpm,Zpp,Zps,Zpu,Zpv,Zpy,Zp1,Zp2,Zp3,Zp9,Ztz,Zqb,Zqc,Zqd,Zq5,Zq6,Zqf,Zqg,Zqh,Zqi,Zqj,Zqk,Zql,Zqm,Zqn,Zqo,List.length_append,eq_self,true_and,and_true,Nat.zero_add,zF_fc,fc_0,fc_17,fc_18,fc_19,fc_20,fc_53,fc_54,fc_55,fs_0,fs_17,fs_18,fs_19,fs_20,fs_53,fs_54,fs_55,fp_1,fp_21,fp_f,rb_1,rb_21,rb_0,fc_len,fc_ok,fc_id,fc_rs,v16,v32,cB_cells,callable_38]
      tactic =>
      and_intros <;> try (first | omega | rfl | assumption | simp only [IN]; omega)
      refine clG [some ⟨[fB b2, Bo m2], 1, 0⟩] none c2 rfl ⟨⟨o0 _ _, trivial⟩, trivial, rfl⟩ ?_
      sym =>
      simp [Zaa,Zab,Zac,Zad,Zae,Zaf,Zag,Zah,Zai,Zal,Zam,Zan,Zap,Zaq,Zav,Zaw,Zaz,Za0,Za1,Za2,Za3,Za4,Za5,Za6,Za7,Za8,Za9,Zba,Zbb,Zbc,Zbd,Zbf,Zbl,Zbt,Zbu,Zbv,Zbw,Zca,Zto,Ztq,Zcd,Zce,Zcn,Zc0,Zc3,Zc4,Zc6,Zc7,Zc8,Zc9,Zdc,Zdd,Zde,Zdi,Zdm,Zrj,Zrk,Zrl,Zts,Zrm,Zrn,Zro,Zrp,Zrq,Zrr,Zrt,Zru,Zrv,Zrw,Zrx,Zry,Zrz,Zr1,Zr2,Zsb,Zsd,Zse,Zsf,Zsg,Zsh,Zsj,Zsm,Zsn,Zso,Zsp,Zsr,Zst,Zsw,Zdo,Zdp,Zdt,Zdu,Zdv,Zdw,Zdx,Zdy,Zdz,Zd0,Zd1,Zd2,Zd3,Zeh,Zek,Zem,Zen,Ztt,Zer,Zes,Zev,Zew,Zex,Zez,Ze0,Ze1,Ze2,Ze3,Ze4,Ze5,Ze8,Zfb,Zfc,Zfd,Zfe,Zff,Zfg,Zfh,Zfi,Zfj,Zfl,Zfn,Zfz,Zf3,Zgh,Zgi,Zgr,Zgs,Zgt,Zgu,Zgv,Zgw,Zgx,Zhd,Zhe,Zhf,Zhg,Zhh,Ztv,Ztw,Ztx,Zhj,Zhk,Zh6,Zh7,Ziq,Zir,Ziu,Ziv,Ziw,Zix,Ziz,Zi0,Zi2,Zi3,Zi6,Zi7,Zi8,Zja,Zjb,Zje,Zjg,Zjh,Zji,Zjj,Zjk,Zjl,Zjm,Zjn,Zjo,Zjs,Zju,Zj2,Zj7,Zj9,Zkb,Zkl,Zla,Zlb,Zle,Zlj,Zll,Zlu,Zly,Zlz,Zl2,Zmu,Zmv,Zmw,Zm4,Zm5,Zm6,Zm9,Zna,Znb,Znc,Znd,Zne,Znf,Zng,Znh,Znl,Znm,Znn,Zno,Znp,Znr,Znx,Zny,Zn5,Zof,Zog,Zos,Zot,Zo6,Zo7,Zo8,Zo9,Zpa,Zpd,Zpg,Zpm,Zpp,Zps,Zpu,Zpv,Zpy,Zp1,Zp2,Zp3,Zp9,Ztz,Zqb,Zqc,Zqd,Zq5,Zq6,Zqf,Zqg,Zqh,Zqi,Zqj,Zqk,Zql,Zqm,Zqn,Zqo,List.length_append,eq_self,true_and,and_true,Nat.zero_add,zF_fc,fc_0,fc_17,fc_18,fc_19,fc_20,fc_53,fc_54,fc_55,fs_0,fs_17,fs_18,fs_19,fs_20,fs_53,fs_54,fs_55,fp_1,fp_21,fp_f,rb_1,rb_21,rb_0,fc_len,fc_ok,fc_id,fc_rs,v16,v32,cB_cells,v32',hr32]
      tactic =>
      refine endM [(0, 0), (1, 1)] 2 ?_
      sym =>
      simp [Zaa,Zab,Zac,Zad,Zae,Zaf,Zag,Zah,Zai,Zal,Zam,Zan,Zap,Zaq,Zav,Zaw,Zaz,Za0,Za1,Za2,Za3,Za4,Za5,Za6,Za7,Za8,Za9,Zba,Zbb,Zbc,Zbd,Zbf,Zbl,Zbt,Zbu,Zbv,Zbw,Zca,Zto,Ztq,Zcd,Zce,Zcn,Zc0,Zc3,Zc4,Zc6,Zc7,Zc8,Zc9,Zdc,Zdd,Zde,Zdi,Zdm,Zrj,Zrk,Zrl,Zts,Zrm,Zrn,Zro,Zrp,Zrq,Zrr,Zrt,Zru,Zrv,Zrw,Zrx,Zry,Zrz,Zr1,Zr2,Zsb,Zsd,Zse,Zsf,Zsg,Zsh,Zsj,Zsm,Zsn,Zso,Zsp,Zsr,Zst,Zsw,Zdo,Zdp,Zdt,Zdu,Zdv,Zdw,Zdx,Zdy,Zdz,Zd0,Zd1,Zd2,Zd3,Zeh,Zek,Zem,Zen,Ztt,Zer,Zes,Zev,Zew,Zex,Zez,Ze0,Ze1,Ze2,Ze3,Ze4,Ze5,Ze8,Zfb,Zfc,Zfd,Zfe,Zff,Zfg,Zfh,Zfi,Zfj,Zfl,Zfn,Zfz,Zf3,Zgh,Zgi,Zgr,Zgs,Zgt,Zgu,Zgv,Zgw,Zgx,Zhd,Zhe,Zhf,Zhg,Zhh,Ztv,Ztw,Ztx,Zhj,Zhk,Zh6,Zh7,Ziq,Zir,Ziu,Ziv,Ziw,Zix,Ziz,Zi0,Zi2,Zi3,Zi6,Zi7,Zi8,Zja,Zjb,Zje,Zjg,Zjh,Zji,Zjj,Zjk,Zjl,Zjm,Zjn,Zjo,Zjs,Zju,Zj2,Zj7,Zj9,Zkb,Zkl,Zla,Zlb,Zle,Zlj,Zll,Zlu,Zly,Zlz,Zl2,Zmu,Zmv,Zmw,Zm4,Zm5,Zm6,Zm9,Zna,Znb,Znc,Znd,Zne,Znf,Zng,Znh,Znl,Znm,Znn,Zno,Znp,Znr,Znx,Zny,Zn5,Zof,Zog,Zos,Zot,Zo6,Zo7,Zo8,Zo9,Zpa,Zpd,Zpg,Zpm,Zpp,Zps,Zpu,Zpv,Zpy,Zp1,Zp2,Zp3,Zp9,Ztz,Zqb,Zqc,Zqd,Zq5,Zq6,Zqf,Zqg,Zqh,Zqi,Zqj,Zqk,Zql,Zqm,Zqn,Zqo,List.length_append,eq_self,true_and,and_true,Nat.zero_add,zF_fc,fc_0,fc_17,fc_18,fc_19,fc_20,fc_53,fc_54,fc_55,fs_0,fs_17,fs_18,fs_19,fs_20,fs_53,fs_54,fs_55,fp_1,fp_21,fp_f,rb_1,rb_21,rb_0,fc_len,fc_ok,fc_id,fc_rs,v16,v32,cB_cells]
      tactic =>
      exact ⟨rfl, rfl⟩
  rw [if_neg h15] at hR
  have k1 : ¬ k = 1 := fun e => h15 (.inl e)
  have k5 : ¬ k = 5 := fun e => h15 (.inr e)
  by_cases k6 : k = 6
  · rw [if_pos k6] at hR
    subst k6
    have hp : (tkF b false 8).2 = (b1, m1) := by rw [hbb1, hm1]
    rw [hp] at hR
    subst hR
    simp only [fr]
    refine con_2 b39 rfl ?_
    sym =>
    simp [Zaa,Zab,Zac,Zad,Zae,Zaf,Zag,Zah,Zai,Zal,Zam,Zan,Zap,Zaq,Zav,Zaw,Zaz,Za0,Za1,Za2,Za3,Za4,Za5,Za6,Za7,Za8,Za9,Zba,Zbb,Zbc,Zbd,Zbf,Zbl,Zbt,Zbu,Zbv,Zbw,Zca,Zto,Ztq,Zcd,Zce,Zcn,Zc0,Zc3,Zc4,Zc6,Zc7,Zc8,Zc9,Zdc,Zdd,Zde,Zdi,Zdm,Zrj,Zrk,Zrl,Zts,Zrm,Zrn,Zro,Zrp,Zrq,Zrr,Zrt,Zru,Zrv,Zrw,Zrx,Zry,Zrz,Zr1,Zr2,Zsb,Zsd,Zse,Zsf,Zsg,Zsh,Zsj,Zsm,Zsn,Zso,Zsp,Zsr,Zst,Zsw,Zdo,Zdp,Zdt,Zdu,Zdv,Zdw,Zdx,Zdy,Zdz,Zd0,Zd1,Zd2,Zd3,Zeh,Zek,Zem,Zen,Ztt,Zer,Zes,Zev,Zew,Zex,Zez,Ze0,Ze1,Ze2,Ze3,Ze4,Ze5,Ze8,Zfb,Zfc,Zfd,Zfe,Zff,Zfg,Zfh,Zfi,Zfj,Zfl,Zfn,Zfz,Zf3,Zgh,Zgi,Zgr,Zgs,Zgt,Zgu,Zgv,Zgw,Zgx,Zhd,Zhe,Zhf,Zhg,Zhh,Ztv,Ztw,Ztx,Zhj,Zhk,Zh6,Zh7,Ziq,Zir,Ziu,Ziv,Ziw,Zix,Ziz,Zi0,Zi2,Zi3,Zi6,Zi7,Zi8,Zja,Zjb,Zje,Zjg,Zjh,Zji,Zjj,Zjk,Zjl,Zjm,Zjn,Zjo,Zjs,Zju,Zj2,Zj7,Zj9,Zkb,Zkl,Zla,Zlb,Zle,Zlj,Zll,Zlu,Zly,Zlz,Zl2,Zmu,Zmv,Zmw,Zm4,Zm5,Zm6,Zm9,Zna,Znb,Znc,Znd,Zne,Znf,Zng,Znh,Znl,Znm,Znn,Zno,Znp,Znr,Znx,Zny,Zn5,Zof,Zog,Zos,Zot,Zo6,Zo7,Zo8,Zo9,Zpa,Zpd,Zpg,Zpm,Zpp,Zps,Zpu,Zpv,Zpy,Zp1,Zp2,Zp3,Zp9,Ztz,Zqb,Zqc,Zqd,Zq5,Zq6,Zqf,Zqg,Zqh,Zqi,Zqj,Zqk,Zql,Zqm,Zqn,Zqo,List.length_append,eq_self,true_and,and_true,Nat.zero_add,zF_fc,fc_0,fc_17,fc_18,fc_19,fc_20,fc_53,fc_54,fc_55,fs_0,fs_17,fs_18,fs_19,fs_20,fs_53,fs_54,fs_55,fp_1,fp_21,fp_f,rb_1,rb_21,rb_0,fc_len,fc_ok,fc_id,fc_rs,v16,v32,cB_cells,fc_okI,callable_37]
    tactic =>
    and_intros <;> try (first | omega | rfl | assumption | simp only [IN]; omega)
    refine clG [some ⟨[fB b1, Bo m1], 1, 0⟩] none c1 rfl ⟨⟨o0 _ _, trivial⟩, trivial, rfl⟩ ?_
    sym =>
    simp [Zaa,Zab,Zac,Zad,Zae,Zaf,Zag,Zah,Zai,Zal,Zam,Zan,Zap,Zaq,Zav,Zaw,Zaz,Za0,Za1,Za2,Za3,Za4,Za5,Za6,Za7,Za8,Za9,Zba,Zbb,Zbc,Zbd,Zbf,Zbl,Zbt,Zbu,Zbv,Zbw,Zca,Zto,Ztq,Zcd,Zce,Zcn,Zc0,Zc3,Zc4,Zc6,Zc7,Zc8,Zc9,Zdc,Zdd,Zde,Zdi,Zdm,Zrj,Zrk,Zrl,Zts,Zrm,Zrn,Zro,Zrp,Zrq,Zrr,Zrt,Zru,Zrv,Zrw,Zrx,Zry,Zrz,Zr1,Zr2,Zsb,Zsd,Zse,Zsf,Zsg,Zsh,Zsj,Zsm,Zsn,Zso,Zsp,Zsr,Zst,Zsw,Zdo,Zdp,Zdt,Zdu,Zdv,Zdw,Zdx,Zdy,Zdz,Zd0,Zd1,Zd2,Zd3,Zeh,Zek,Zem,Zen,Ztt,Zer,Zes,Zev,Zew,Zex,Zez,Ze0,Ze1,Ze2,Ze3,Ze4,Ze5,Ze8,Zfb,Zfc,Zfd,Zfe,Zff,Zfg,Zfh,Zfi,Zfj,Zfl,Zfn,Zfz,Zf3,Zgh,Zgi,Zgr,Zgs,Zgt,Zgu,Zgv,Zgw,Zgx,Zhd,Zhe,Zhf,Zhg,Zhh,Ztv,Ztw,Ztx,Zhj,Zhk,Zh6,Zh7,Ziq,Zir,Ziu,Ziv,Ziw,Zix,Ziz,Zi0,Zi2,Zi3,Zi6,Zi7,Zi8,Zja,Zjb,Zje,Zjg,Zjh,Zji,Zjj,Zjk,Zjl,Zjm,Zjn,Zjo,Zjs,Zju,Zj2,Zj7,Zj9,Zkb,Zkl,Zla,Zlb,Zle,Zlj,Zll,Zlu,Zly,Zlz,Zl2,Zmu,Zmv,Zmw,Zm4,Zm5,Zm6,Zm9,Zna,Znb,Znc,Znd,Zne,Znf,Zng,Znh,Znl,Znm,Znn,Zno,Znp,Znr,Znx,Zny,Zn5,Zof,Zog,Zos,Zot,Zo6,Zo7,Zo8,Zo9,Zpa,Zpd,Zpg,Zpm,Zpp,Zps,Zpu,Zpv,Zpy,Zp1,Zp2,Zp3,Zp9,Ztz,Zqb,Zqc,Zqd,Zq5,Zq6,Zqf,Zqg,Zqh,Zqi,Zqj,Zqk,Zql,Zqm,Zqn,Zqo,List.length_append,eq_self,true_and,and_true,Nat.zero_add,zF_fc,fc_0,fc_17,fc_18,fc_19,fc_20,fc_53,fc_54,fc_55,fs_0,fs_17,fs_18,fs_19,fs_20,fs_53,fs_54,fs_55,fp_1,fp_21,fp_f,rb_1,rb_21,rb_0,fc_len,fc_ok,fc_id,fc_rs,v16,v32,cB_cells]
    tactic =>
    refine endM [(0, 0), (1, 1)] 2 ?_
    sym =>
    simp [Zaa,Zab,Zac,Zad,Zae,Zaf,Zag,Zah,Zai,Zal,Zam,Zan,Zap,Zaq,Zav,Zaw,Zaz,Za0,Za1,Za2,Za3,Za4,Za5,Za6,Za7,Za8,Za9,Zba,Zbb,Zbc,Zbd,Zbf,Zbl,Zbt,Zbu,Zbv,Zbw,Zca,Zto,Ztq,Zcd,Zce,Zcn,Zc0,Zc3,Zc4,Zc6,Zc7,Zc8,Zc9,Zdc,Zdd,Zde,Zdi,Zdm,Zrj,Zrk,Zrl,Zts,Zrm,Zrn,Zro,Zrp,Zrq,Zrr,Zrt,Zru,Zrv,Zrw,Zrx,Zry,Zrz,Zr1,Zr2,Zsb,Zsd,Zse,Zsf,Zsg,Zsh,Zsj,Zsm,Zsn,Zso,Zsp,Zsr,Zst,Zsw,Zdo,Zdp,Zdt,Zdu,Zdv,Zdw,Zdx,Zdy,Zdz,Zd0,Zd1,Zd2,Zd3,Zeh,Zek,Zem,Zen,Ztt,Zer,Zes,Zev,Zew,Zex,Zez,Ze0,Ze1,Ze2,Ze3,Ze4,Ze5,Ze8,Zfb,Zfc,Zfd,Zfe,Zff,Zfg,Zfh,Zfi,Zfj,Zfl,Zfn,Zfz,Zf3,Zgh,Zgi,Zgr,Zgs,Zgt,Zgu,Zgv,Zgw,Zgx,Zhd,Zhe,Zhf,Zhg,Zhh,Ztv,Ztw,Ztx,Zhj,Zhk,Zh6,Zh7,Ziq,Zir,Ziu,Ziv,Ziw,Zix,Ziz,Zi0,Zi2,Zi3,Zi6,Zi7,Zi8,Zja,Zjb,Zje,Zjg,Zjh,Zji,Zjj,Zjk,Zjl,Zjm,Zjn,Zjo,Zjs,Zju,Zj2,Zj7,Zj9,Zkb,Zkl,Zla,Zlb,Zle,Zlj,Zll,Zlu,Zly,Zlz,Zl2,Zmu,Zmv,Zmw,Zm4,Zm5,Zm6,Zm9,Zna,Znb,Znc,Znd,Zne,Znf,Zng,Znh,Znl,Znm,Znn,Zno,Znp,Znr,Znx,Zny,Zn5,Zof,Zog,Zos,Zot,Zo6,Zo7,Zo8,Zo9,Zpa,Zpd,Zpg,Zpm,Zpp,Zps,Zpu,Zpv,Zpy,Zp1,Zp2,Zp3,Zp9,Ztz,Zqb,Zqc,Zqd,Zq5,Zq6,Zqf,Zqg,Zqh,Zqi,Zqj,Zqk,Zql,Zqm,Zqn,Zqo,List.length_append,eq_self,true_and,and_true,Nat.zero_add,zF_fc,fc_0,fc_17,fc_18,fc_19,fc_20,fc_53,fc_54,fc_55,fs_0,fs_17,fs_18,fs_19,fs_20,fs_53,fs_54,fs_55,fp_1,fp_21,fp_f,rb_1,rb_21,rb_0,fc_len,fc_ok,fc_id,fc_rs,v16,v32,cB_cells]
    tactic =>
    exact ⟨rfl, rfl⟩
  rw [if_neg k6] at hR
  by_cases k7 : k = 7
  · rw [if_pos k7] at hR
    subst k7
    have c7 := rdnum_con' b hb false 1 (by omega) (by decide) 1 rfl rfl rfl
    have hb7 := tkF_byt hb false 1
    have hl7 := tkF_len b false 1
    obtain ⟨x7, hx7⟩ : ∃ x, x = ofN (tkF b false 1).1 1 := ⟨_, rfl⟩
    obtain ⟨b7, hbb7⟩ : ∃ x, x = (tkF b false 1).2.1 := ⟨_, rfl⟩
    obtain ⟨m7, hm7⟩ : ∃ x, x = (tkF b false 1).2.2 := ⟨_, rfl⟩
    have hp : (tkF b false 1).2 = (b7, m7) := by rw [hbb7, hm7]
    have hw7 : IntKind.i64.wrap x7 = x7 := by
      refine w64 _ ?_
      have hg := byt8_get hb7 0
      have h1 : ofN (tkF b false 1).1 1 = (256 * 0 + (tkF b false 1).1.getD 0 0) % 18446744073709551616 := rfl
      rw [hx7, h1]
      omega
    rw [← hx7, ← hbb7, ← hm7] at c7
    rw [← hx7, hp] at hR
    subst hR
    simp only [fr]
    refine con_2 b39 rfl ?_
    sym =>
    simp [Zaa,Zab,Zac,Zad,Zae,Zaf,Zag,Zah,Zai,Zal,Zam,Zan,Zap,Zaq,Zav,Zaw,Zaz,Za0,Za1,Za2,Za3,Za4,Za5,Za6,Za7,Za8,Za9,Zba,Zbb,Zbc,Zbd,Zbf,Zbl,Zbt,Zbu,Zbv,Zbw,Zca,Zto,Ztq,Zcd,Zce,Zcn,Zc0,Zc3,Zc4,Zc6,Zc7,Zc8,Zc9,Zdc,Zdd,Zde,Zdi,Zdm,Zrj,Zrk,Zrl,Zts,Zrm,Zrn,Zro,Zrp,Zrq,Zrr,Zrt,Zru,Zrv,Zrw,Zrx,Zry,Zrz,Zr1,Zr2,Zsb,Zsd,Zse,Zsf,Zsg,Zsh,Zsj,Zsm,Zsn,Zso,Zsp,Zsr,Zst,Zsw,Zdo,Zdp,Zdt,Zdu,Zdv,Zdw,Zdx,Zdy,Zdz,Zd0,Zd1,Zd2,Zd3,Zeh,Zek,Zem,Zen,Ztt,Zer,Zes,Zev,Zew,Zex,Zez,Ze0,Ze1,Ze2,Ze3,Ze4,Ze5,Ze8,Zfb,Zfc,Zfd,Zfe,Zff,Zfg,Zfh,Zfi,Zfj,Zfl,Zfn,Zfz,Zf3,Zgh,Zgi,Zgr,Zgs,Zgt,Zgu,Zgv,Zgw,Zgx,Zhd,Zhe,Zhf,Zhg,Zhh,Ztv,Ztw,Ztx,Zhj,Zhk,Zh6,Zh7,Ziq,Zir,Ziu,Ziv,Ziw,Zix,Ziz,Zi0,Zi2,Zi3,Zi6,Zi7,Zi8,Zja,Zjb,Zje,Zjg,Zjh,Zji,Zjj,Zjk,Zjl,Zjm,Zjn,Zjo,Zjs,Zju,Zj2,Zj7,Zj9,Zkb,Zkl,Zla,Zlb,Zle,Zlj,Zll,Zlu,Zly,Zlz,Zl2,Zmu,Zmv,Zmw,Zm4,Zm5,Zm6,Zm9,Zna,Znb,Znc,Znd,Zne,Znf,Zng,Znh,Znl,Znm,Znn,Zno,Znp,Znr,Znx,Zny,Zn5,Zof,Zog,Zos,Zot,Zo6,Zo7,Zo8,Zo9,Zpa,Zpd,Zpg,Zpm,Zpp,Zps,Zpu,Zpv,Zpy,Zp1,Zp2,Zp3,Zp9,Ztz,Zqb,Zqc,Zqd,Zq5,Zq6,Zqf,Zqg,Zqh,Zqi,Zqj,Zqk,Zql,Zqm,Zqn,Zqo,List.length_append,eq_self,true_and,and_true,Nat.zero_add,zF_fc,fc_0,fc_17,fc_18,fc_19,fc_20,fc_53,fc_54,fc_55,fs_0,fs_17,fs_18,fs_19,fs_20,fs_53,fs_54,fs_55,fp_1,fp_21,fp_f,rb_1,rb_21,rb_0,fc_len,fc_ok,fc_id,fc_rs,v16,v32,cB_cells,fc_okI,callable_37]
    tactic =>
    and_intros <;> try (first | omega | rfl | assumption | simp only [IN]; omega)
    refine clG [some ⟨[fB b7, Bo m7], 1, 0⟩] none c7 rfl ⟨⟨o0 _ _, trivial⟩, trivial, rfl⟩ ?_
    sym =>
    simp [Zaa,Zab,Zac,Zad,Zae,Zaf,Zag,Zah,Zai,Zal,Zam,Zan,Zap,Zaq,Zav,Zaw,Zaz,Za0,Za1,Za2,Za3,Za4,Za5,Za6,Za7,Za8,Za9,Zba,Zbb,Zbc,Zbd,Zbf,Zbl,Zbt,Zbu,Zbv,Zbw,Zca,Zto,Ztq,Zcd,Zce,Zcn,Zc0,Zc3,Zc4,Zc6,Zc7,Zc8,Zc9,Zdc,Zdd,Zde,Zdi,Zdm,Zrj,Zrk,Zrl,Zts,Zrm,Zrn,Zro,Zrp,Zrq,Zrr,Zrt,Zru,Zrv,Zrw,Zrx,Zry,Zrz,Zr1,Zr2,Zsb,Zsd,Zse,Zsf,Zsg,Zsh,Zsj,Zsm,Zsn,Zso,Zsp,Zsr,Zst,Zsw,Zdo,Zdp,Zdt,Zdu,Zdv,Zdw,Zdx,Zdy,Zdz,Zd0,Zd1,Zd2,Zd3,Zeh,Zek,Zem,Zen,Ztt,Zer,Zes,Zev,Zew,Zex,Zez,Ze0,Ze1,Ze2,Ze3,Ze4,Ze5,Ze8,Zfb,Zfc,Zfd,Zfe,Zff,Zfg,Zfh,Zfi,Zfj,Zfl,Zfn,Zfz,Zf3,Zgh,Zgi,Zgr,Zgs,Zgt,Zgu,Zgv,Zgw,Zgx,Zhd,Zhe,Zhf,Zhg,Zhh,Ztv,Ztw,Ztx,Zhj,Zhk,Zh6,Zh7,Ziq,Zir,Ziu,Ziv,Ziw,Zix,Ziz,Zi0,Zi2,Zi3,Zi6,Zi7,Zi8,Zja,Zjb,Zje,Zjg,Zjh,Zji,Zjj,Zjk,Zjl,Zjm,Zjn,Zjo,Zjs,Zju,Zj2,Zj7,Zj9,Zkb,Zkl,Zla,Zlb,Zle,Zlj,Zll,Zlu,Zly,Zlz,Zl2,Zmu,Zmv,Zmw,Zm4,Zm5,Zm6,Zm9,Zna,Znb,Znc,Znd,Zne,Znf,Zng,Znh,Znl,Znm,Znn,Zno,Znp,Znr,Znx,Zny,Zn5,Zof,Zog,Zos,Zot,Zo6,Zo7,Zo8,Zo9,Zpa,Zpd,Zpg,Zpm,Zpp,Zps,Zpu,Zpv,Zpy,Zp1,Zp2,Zp3,Zp9,Ztz,Zqb,Zqc,Zqd,Zq5,Zq6,Zqf,Zqg,Zqh,Zqi,Zqj,Zqk,Zql,Zqm,Zqn,Zqo,List.length_append,eq_self,true_and,and_true,Nat.zero_add,zF_fc,fc_0,fc_17,fc_18,fc_19,fc_20,fc_53,fc_54,fc_55,fs_0,fs_17,fs_18,fs_19,fs_20,fs_53,fs_54,fs_55,fp_1,fp_21,fp_f,rb_1,rb_21,rb_0,fc_len,fc_ok,fc_id,fc_rs,v16,v32,cB_cells,hw7]
    tactic =>
    refine endM [(0, 0), (1, 1)] 2 ?_
    sym =>
    simp [Zaa,Zab,Zac,Zad,Zae,Zaf,Zag,Zah,Zai,Zal,Zam,Zan,Zap,Zaq,Zav,Zaw,Zaz,Za0,Za1,Za2,Za3,Za4,Za5,Za6,Za7,Za8,Za9,Zba,Zbb,Zbc,Zbd,Zbf,Zbl,Zbt,Zbu,Zbv,Zbw,Zca,Zto,Ztq,Zcd,Zce,Zcn,Zc0,Zc3,Zc4,Zc6,Zc7,Zc8,Zc9,Zdc,Zdd,Zde,Zdi,Zdm,Zrj,Zrk,Zrl,Zts,Zrm,Zrn,Zro,Zrp,Zrq,Zrr,Zrt,Zru,Zrv,Zrw,Zrx,Zry,Zrz,Zr1,Zr2,Zsb,Zsd,Zse,Zsf,Zsg,Zsh,Zsj,Zsm,Zsn,Zso,Zsp,Zsr,Zst,Zsw,Zdo,Zdp,Zdt,Zdu,Zdv,Zdw,Zdx,Zdy,Zdz,Zd0,Zd1,Zd2,Zd3,Zeh,Zek,Zem,Zen,Ztt,Zer,Zes,Zev,Zew,Zex,Zez,Ze0,Ze1,Ze2,Ze3,Ze4,Ze5,Ze8,Zfb,Zfc,Zfd,Zfe,Zff,Zfg,Zfh,Zfi,Zfj,Zfl,Zfn,Zfz,Zf3,Zgh,Zgi,Zgr,Zgs,Zgt,Zgu,Zgv,Zgw,Zgx,Zhd,Zhe,Zhf,Zhg,Zhh,Ztv,Ztw,Ztx,Zhj,Zhk,Zh6,Zh7,Ziq,Zir,Ziu,Ziv,Ziw,Zix,Ziz,Zi0,Zi2,Zi3,Zi6,Zi7,Zi8,Zja,Zjb,Zje,Zjg,Zjh,Zji,Zjj,Zjk,Zjl,Zjm,Zjn,Zjo,Zjs,Zju,Zj2,Zj7,Zj9,Zkb,Zkl,Zla,Zlb,Zle,Zlj,Zll,Zlu,Zly,Zlz,Zl2,Zmu,Zmv,Zmw,Zm4,Zm5,Zm6,Zm9,Zna,Znb,Znc,Znd,Zne,Znf,Zng,Znh,Znl,Znm,Znn,Zno,Znp,Znr,Znx,Zny,Zn5,Zof,Zog,Zos,Zot,Zo6,Zo7,Zo8,Zo9,Zpa,Zpd,Zpg,Zpm,Zpp,Zps,Zpu,Zpv,Zpy,Zp1,Zp2,Zp3,Zp9,Ztz,Zqb,Zqc,Zqd,Zq5,Zq6,Zqf,Zqg,Zqh,Zqi,Zqj,Zqk,Zql,Zqm,Zqn,Zqo,List.length_append,eq_self,true_and,and_true,Nat.zero_add,zF_fc,fc_0,fc_17,fc_18,fc_19,fc_20,fc_53,fc_54,fc_55,fs_0,fs_17,fs_18,fs_19,fs_20,fs_53,fs_54,fs_55,fp_1,fp_21,fp_f,rb_1,rb_21,rb_0,fc_len,fc_ok,fc_id,fc_rs,v16,v32,cB_cells]
    tactic =>
    exact ⟨rfl, rfl⟩
  rw [if_neg k7] at hR
  by_cases k3 : k = 3
  · rw [if_pos k3] at hR
    subst k3
    obtain ⟨mm, hmm⟩ : ∃ x, x = (m1 || decide (b1.length = 0)) := ⟨_, rfl⟩
    rw [← hmm] at hR
    subst hR
    simp only [fr]
    have hcl := clone_con b1 (by omega)
    have e0 : (IN b1.length = (0 : Int)) = (b1.length = 0) := by simp only [IN]; exact propext (by omega)
    refine con_2 b39 rfl ?_
    sym =>
    simp [Zaa,Zab,Zac,Zad,Zae,Zaf,Zag,Zah,Zai,Zal,Zam,Zan,Zap,Zaq,Zav,Zaw,Zaz,Za0,Za1,Za2,Za3,Za4,Za5,Za6,Za7,Za8,Za9,Zba,Zbb,Zbc,Zbd,Zbf,Zbl,Zbt,Zbu,Zbv,Zbw,Zca,Zto,Ztq,Zcd,Zce,Zcn,Zc0,Zc3,Zc4,Zc6,Zc7,Zc8,Zc9,Zdc,Zdd,Zde,Zdi,Zdm,Zrj,Zrk,Zrl,Zts,Zrm,Zrn,Zro,Zrp,Zrq,Zrr,Zrt,Zru,Zrv,Zrw,Zrx,Zry,Zrz,Zr1,Zr2,Zsb,Zsd,Zse,Zsf,Zsg,Zsh,Zsj,Zsm,Zsn,Zso,Zsp,Zsr,Zst,Zsw,Zdo,Zdp,Zdt,Zdu,Zdv,Zdw,Zdx,Zdy,Zdz,Zd0,Zd1,Zd2,Zd3,Zeh,Zek,Zem,Zen,Ztt,Zer,Zes,Zev,Zew,Zex,Zez,Ze0,Ze1,Ze2,Ze3,Ze4,Ze5,Ze8,Zfb,Zfc,Zfd,Zfe,Zff,Zfg,Zfh,Zfi,Zfj,Zfl,Zfn,Zfz,Zf3,Zgh,Zgi,Zgr,Zgs,Zgt,Zgu,Zgv,Zgw,Zgx,Zhd,Zhe,Zhf,Zhg,Zhh,Ztv,Ztw,Ztx,Zhj,Zhk,Zh6,Zh7,Ziq,Zir,Ziu,Ziv,Ziw,Zix,Ziz,Zi0,Zi2,Zi3,Zi6,Zi7,Zi8,Zja,Zjb,Zje,Zjg,Zjh,Zji,Zjj,Zjk,Zjl,Zjm,Zjn,Zjo,Zjs,Zju,Zj2,Zj7,Zj9,Zkb,Zkl,Zla,Zlb,Zle,Zlj,Zll,Zlu,Zly,Zlz,Zl2,Zmu,Zmv,Zmw,Zm4,Zm5,Zm6,Zm9,Zna,Znb,Znc,Znd,Zne,Znf,Zng,Znh,Znl,Znm,Znn,Zno,Znp,Znr,Znx,Zny,Zn5,Zof,Zog,Zos,Zot,Zo6,Zo7,Zo8,Zo9,Zpa,Zpd,Zpg,Zpm,Zpp,Zps,Zpu,Zpv,Zpy,Zp1,Zp2,Zp3,Zp9,Ztz,Zqb,Zqc,Zqd,Zq5,Zq6,Zqf,Zqg,Zqh,Zqi,Zqj,Zqk,Zql,Zqm,Zqn,Zqo,List.length_append,eq_self,true_and,and_true,Nat.zero_add,zF_fc,fc_0,fc_17,fc_18,fc_19,fc_20,fc_53,fc_54,fc_55,fs_0,fs_17,fs_18,fs_19,fs_20,fs_53,fs_54,fs_55,fp_1,fp_21,fp_f,rb_1,rb_21,rb_0,fc_len,fc_ok,fc_id,fc_rs,v16,v32,cB_cells,fc_okI,callable_37]
    tactic =>
    and_intros <;> try (first | omega | rfl | assumption | simp only [IN]; omega)
    refine clG [some ⟨[fB b1, Bo m1], 1, 0⟩] none c1 rfl ⟨⟨o0 _ _, trivial⟩, trivial, rfl⟩ ?_
    sym =>
    simp [Zaa,Zab,Zac,Zad,Zae,Zaf,Zag,Zah,Zai,Zal,Zam,Zan,Zap,Zaq,Zav,Zaw,Zaz,Za0,Za1,Za2,Za3,Za4,Za5,Za6,Za7,Za8,Za9,Zba,Zbb,Zbc,Zbd,Zbf,Zbl,Zbt,Zbu,Zbv,Zbw,Zca,Zto,Ztq,Zcd,Zce,Zcn,Zc0,Zc3,Zc4,Zc6,Zc7,Zc8,Zc9,Zdc,Zdd,Zde,Zdi,Zdm,Zrj,Zrk,Zrl,Zts,Zrm,Zrn,Zro,Zrp,Zrq,Zrr,Zrt,Zru,Zrv,Zrw,Zrx,Zry,Zrz,Zr1,Zr2,Zsb,Zsd,Zse,Zsf,Zsg,Zsh,Zsj,Zsm,Zsn,Zso,Zsp,Zsr,Zst,Zsw,Zdo,Zdp,Zdt,Zdu,Zdv,Zdw,Zdx,Zdy,Zdz,Zd0,Zd1,Zd2,Zd3,Zeh,Zek,Zem,Zen,Ztt,Zer,Zes,Zev,Zew,Zex,Zez,Ze0,Ze1,Ze2,Ze3,Ze4,Ze5,Ze8,Zfb,Zfc,Zfd,Zfe,Zff,Zfg,Zfh,Zfi,Zfj,Zfl,Zfn,Zfz,Zf3,Zgh,Zgi,Zgr,Zgs,Zgt,Zgu,Zgv,Zgw,Zgx,Zhd,Zhe,Zhf,Zhg,Zhh,Ztv,Ztw,Ztx,Zhj,Zhk,Zh6,Zh7,Ziq,Zir,Ziu,Ziv,Ziw,Zix,Ziz,Zi0,Zi2,Zi3,Zi6,Zi7,Zi8,Zja,Zjb,Zje,Zjg,Zjh,Zji,Zjj,Zjk,Zjl,Zjm,Zjn,Zjo,Zjs,Zju,Zj2,Zj7,Zj9,Zkb,Zkl,Zla,Zlb,Zle,Zlj,Zll,Zlu,Zly,Zlz,Zl2,Zmu,Zmv,Zmw,Zm4,Zm5,Zm6,Zm9,Zna,Znb,Znc,Znd,Zne,Znf,Zng,Znh,Znl,Znm,Znn,Zno,Znp,Znr,Znx,Zny,Zn5,Zof,Zog,Zos,Zot,Zo6,Zo7,Zo8,Zo9,Zpa,Zpd,Zpg,Zpm,Zpp,Zps,Zpu,Zpv,Zpy,Zp1,Zp2,Zp3,Zp9,Ztz,Zqb,Zqc,Zqd,Zq5,Zq6,Zqf,Zqg,Zqh,Zqi,Zqj,Zqk,Zql,Zqm,Zqn,Zqo,List.length_append,eq_self,true_and,and_true,Nat.zero_add,zF_fc,fc_0,fc_17,fc_18,fc_19,fc_20,fc_53,fc_54,fc_55,fs_0,fs_17,fs_18,fs_19,fs_20,fs_53,fs_54,fs_55,fp_1,fp_21,fp_f,rb_1,rb_21,rb_0,fc_len,fc_ok,fc_id,fc_rs,v16,v32,cB_cells,callable_32]
    tactic =>
    refine cl none (hcl) trivial ?_
    rcases m1 with _ | _
    · by_cases h0 : b1.length = 0
      · have hmt : mm = true := by rw [hmm, h0]; rfl
        subst hmt
        sym =>
        simp [Zaa,Zab,Zac,Zad,Zae,Zaf,Zag,Zah,Zai,Zal,Zam,Zan,Zap,Zaq,Zav,Zaw,Zaz,Za0,Za1,Za2,Za3,Za4,Za5,Za6,Za7,Za8,Za9,Zba,Zbb,Zbc,Zbd,Zbf,Zbl,Zbt,Zbu,Zbv,Zbw,Zca,Zto,Ztq,Zcd,Zce,Zcn,Zc0,Zc3,Zc4,Zc6,Zc7,Zc8,Zc9,Zdc,Zdd,Zde,Zdi,Zdm,Zrj,Zrk,Zrl,Zts,Zrm,Zrn,Zro,Zrp,Zrq,Zrr,Zrt,Zru,Zrv,Zrw,Zrx,Zry,Zrz,Zr1,Zr2,Zsb,Zsd,Zse,Zsf,Zsg,Zsh,Zsj,Zsm,Zsn,Zso,Zsp,Zsr,Zst,Zsw,Zdo,Zdp,Zdt,Zdu,Zdv,Zdw,Zdx,Zdy,Zdz,Zd0,Zd1,Zd2,Zd3,Zeh,Zek,Zem,Zen,Ztt,Zer,Zes,Zev,Zew,Zex,Zez,Ze0,Ze1,Ze2,Ze3,Ze4,Ze5,Ze8,Zfb,Zfc,Zfd,Zfe,Zff,Zfg,Zfh,Zfi,Zfj,Zfl,Zfn,Zfz,Zf3,Zgh,Zgi,Zgr,Zgs,Zgt,Zgu,Zgv,Zgw,Zgx,Zhd,Zhe,Zhf,Zhg,Zhh,Ztv,Ztw,Ztx,Zhj,Zhk,Zh6,Zh7,Ziq,Zir,Ziu,Ziv,Ziw,Zix,Ziz,Zi0,Zi2,Zi3,Zi6,Zi7,Zi8,Zja,Zjb,Zje,Zjg,Zjh,Zji,Zjj,Zjk,Zjl,Zjm,Zjn,Zjo,Zjs,Zju,Zj2,Zj7,Zj9,Zkb,Zkl,Zla,Zlb,Zle,Zlj,Zll,Zlu,Zly,Zlz,Zl2,Zmu,Zmv,Zmw,Zm4,Zm5,Zm6,Zm9,Zna,Znb,Znc,Znd,Zne,Znf,Zng,Znh,Znl,Znm,Znn,Zno,Znp,Znr,Znx,Zny,Zn5,Zof,Zog,Zos,Zot,Zo6,Zo7,Zo8,Zo9,Zpa,Zpd,Zpg,Zpm,Zpp,Zps,Zpu,Zpv,Zpy,Zp1,Zp2,Zp3,Zp9,Ztz,Zqb,Zqc,Zqd,Zq5,Zq6,Zqf,Zqg,Zqh,Zqi,Zqj,Zqk,Zql,Zqm,Zqn,Zqo,List.length_append,eq_self,true_and,and_true,Nat.zero_add,zF_fc,fc_0,fc_17,fc_18,fc_19,fc_20,fc_53,fc_54,fc_55,fs_0,fs_17,fs_18,fs_19,fs_20,fs_53,fs_54,fs_55,fp_1,fp_21,fp_f,rb_1,rb_21,rb_0,fc_len,fc_ok,fc_id,fc_rs,v16,v32,cB_cells,h0]
        tactic =>
        refine endM [(0, 0), (1, 1)] 2 ?_
        sym =>
        simp [Zaa,Zab,Zac,Zad,Zae,Zaf,Zag,Zah,Zai,Zal,Zam,Zan,Zap,Zaq,Zav,Zaw,Zaz,Za0,Za1,Za2,Za3,Za4,Za5,Za6,Za7,Za8,Za9,Zba,Zbb,Zbc,Zbd,Zbf,Zbl,Zbt,Zbu,Zbv,Zbw,Zca,Zto,Ztq,Zcd,Zce,Zcn,Zc0,Zc3,Zc4,Zc6,Zc7,Zc8,Zc9,Zdc,Zdd,Zde,Zdi,Zdm,Zrj,Zrk,Zrl,Zts,Zrm,Zrn,Zro,Zrp,Zrq,Zrr,Zrt,Zru,Zrv,Zrw,Zrx,Zry,Zrz,Zr1,Zr2,Zsb,Zsd,Zse,Zsf,Zsg,Zsh,Zsj,Zsm,Zsn,Zso,Zsp,Zsr,Zst,Zsw,Zdo,Zdp,Zdt,Zdu,Zdv,Zdw,Zdx,Zdy,Zdz,Zd0,Zd1,Zd2,Zd3,Zeh,Zek,Zem,Zen,Ztt,Zer,Zes,Zev,Zew,Zex,Zez,Ze0,Ze1,Ze2,Ze3,Ze4,Ze5,Ze8,Zfb,Zfc,Zfd,Zfe,Zff,Zfg,Zfh,Zfi,Zfj,Zfl,Zfn,Zfz,Zf3,Zgh,Zgi,Zgr,Zgs,Zgt,Zgu,Zgv,Zgw,Zgx,Zhd,Zhe,Zhf,Zhg,Zhh,Ztv,Ztw,Ztx,Zhj,Zhk,Zh6,Zh7,Ziq,Zir,Ziu,Ziv,Ziw,Zix,Ziz,Zi0,Zi2,Zi3,Zi6,Zi7,Zi8,Zja,Zjb,Zje,Zjg,Zjh,Zji,Zjj,Zjk,Zjl,Zjm,Zjn,Zjo,Zjs,Zju,Zj2,Zj7,Zj9,Zkb,Zkl,Zla,Zlb,Zle,Zlj,Zll,Zlu,Zly,Zlz,Zl2,Zmu,Zmv,Zmw,Zm4,Zm5,Zm6,Zm9,Zna,Znb,Znc,Znd,Zne,Znf,Zng,Znh,Znl,Znm,Znn,Zno,Znp,Znr,Znx,Zny,Zn5,Zof,Zog,Zos,Zot,Zo6,Zo7,Zo8,Zo9,Zpa,Zpd,Zpg,Zpm,Zpp,Zps,Zpu,Zpv,Zpy,Zp1,Zp2,Zp3,Zp9,Ztz,Zqb,Zqc,Zqd,Zq5,Zq6,Zqf,Zqg,Zqh,Zqi,Zqj,Zqk,Zql,Zqm,Zqn,Zqo,List.length_append,eq_self,true_and,and_true,Nat.zero_add,zF_fc,fc_0,fc_17,fc_18,fc_19,fc_20,fc_53,fc_54,fc_55,fs_0,fs_17,fs_18,fs_19,fs_20,fs_53,fs_54,fs_55,fp_1,fp_21,fp_f,rb_1,rb_21,rb_0,fc_len,fc_ok,fc_id,fc_rs,v16,v32,cB_cells]
        tactic =>
        exact ⟨rfl, rfl⟩
      · have hmt : mm = false := by rw [hmm]; simp [h0]
        subst hmt
        sym =>
        simp [Zaa,Zab,Zac,Zad,Zae,Zaf,Zag,Zah,Zai,Zal,Zam,Zan,Zap,Zaq,Zav,Zaw,Zaz,Za0,Za1,Za2,Za3,Za4,Za5,Za6,Za7,Za8,Za9,Zba,Zbb,Zbc,Zbd,Zbf,Zbl,Zbt,Zbu,Zbv,Zbw,Zca,Zto,Ztq,Zcd,Zce,Zcn,Zc0,Zc3,Zc4,Zc6,Zc7,Zc8,Zc9,Zdc,Zdd,Zde,Zdi,Zdm,Zrj,Zrk,Zrl,Zts,Zrm,Zrn,Zro,Zrp,Zrq,Zrr,Zrt,Zru,Zrv,Zrw,Zrx,Zry,Zrz,Zr1,Zr2,Zsb,Zsd,Zse,Zsf,Zsg,Zsh,Zsj,Zsm,Zsn,Zso,Zsp,Zsr,Zst,Zsw,Zdo,Zdp,Zdt,Zdu,Zdv,Zdw,Zdx,Zdy,Zdz,Zd0,Zd1,Zd2,Zd3,Zeh,Zek,Zem,Zen,Ztt,Zer,Zes,Zev,Zew,Zex,Zez,Ze0,Ze1,Ze2,Ze3,Ze4,Ze5,Ze8,Zfb,Zfc,Zfd,Zfe,Zff,Zfg,Zfh,Zfi,Zfj,Zfl,Zfn,Zfz,Zf3,Zgh,Zgi,Zgr,Zgs,Zgt,Zgu,Zgv,Zgw,Zgx,Zhd,Zhe,Zhf,Zhg,Zhh,Ztv,Ztw,Ztx,Zhj,Zhk,Zh6,Zh7,Ziq,Zir,Ziu,Ziv,Ziw,Zix,Ziz,Zi0,Zi2,Zi3,Zi6,Zi7,Zi8,Zja,Zjb,Zje,Zjg,Zjh,Zji,Zjj,Zjk,Zjl,Zjm,Zjn,Zjo,Zjs,Zju,Zj2,Zj7,Zj9,Zkb,Zkl,Zla,Zlb,Zle,Zlj,Zll,Zlu,Zly,Zlz,Zl2,Zmu,Zmv,Zmw,Zm4,Zm5,Zm6,Zm9,Zna,Znb,Znc,Znd,Zne,Znf,Zng,Znh,Znl,Znm,Znn,Zno,Znp,Znr,Znx,Zny,Zn5,Zof,Zog,Zos,Zot,Zo6,Zo7,Zo8,Zo9,Zpa,Zpd,Zpg,Zpm,Zpp,Zps,Zpu,Zpv,Zpy,Zp1,Zp2,Zp3,Zp9,Ztz,Zqb,Zqc,Zqd,Zq5,Zq6,Zqf,Zqg,Zqh,Zqi,Zqj,Zqk,Zql,Zqm,Zqn,Zqo,List.length_append,eq_self,true_and,and_true,Nat.zero_add,zF_fc,fc_0,fc_17,fc_18,fc_19,fc_20,fc_53,fc_54,fc_55,fs_0,fs_17,fs_18,fs_19,fs_20,fs_53,fs_54,fs_55,fp_1,fp_21,fp_f,rb_1,rb_21,rb_0,fc_len,fc_ok,fc_id,fc_rs,v16,v32,cB_cells,h0]
        tactic =>
        refine endM [(0, 0), (1, 1)] 2 ?_
        sym =>
        simp [Zaa,Zab,Zac,Zad,Zae,Zaf,Zag,Zah,Zai,Zal,Zam,Zan,Zap,Zaq,Zav,Zaw,Zaz,Za0,Za1,Za2,Za3,Za4,Za5,Za6,Za7,Za8,Za9,Zba,Zbb,Zbc,Zbd,Zbf,Zbl,Zbt,Zbu,Zbv,Zbw,Zca,Zto,Ztq,Zcd,Zce,Zcn,Zc0,Zc3,Zc4,Zc6,Zc7,Zc8,Zc9,Zdc,Zdd,Zde,Zdi,Zdm,Zrj,Zrk,Zrl,Zts,Zrm,Zrn,Zro,Zrp,Zrq,Zrr,Zrt,Zru,Zrv,Zrw,Zrx,Zry,Zrz,Zr1,Zr2,Zsb,Zsd,Zse,Zsf,Zsg,Zsh,Zsj,Zsm,Zsn,Zso,Zsp,Zsr,Zst,Zsw,Zdo,Zdp,Zdt,Zdu,Zdv,Zdw,Zdx,Zdy,Zdz,Zd0,Zd1,Zd2,Zd3,Zeh,Zek,Zem,Zen,Ztt,Zer,Zes,Zev,Zew,Zex,Zez,Ze0,Ze1,Ze2,Ze3,Ze4,Ze5,Ze8,Zfb,Zfc,Zfd,Zfe,Zff,Zfg,Zfh,Zfi,Zfj,Zfl,Zfn,Zfz,Zf3,Zgh,Zgi,Zgr,Zgs,Zgt,Zgu,Zgv,Zgw,Zgx,Zhd,Zhe,Zhf,Zhg,Zhh,Ztv,Ztw,Ztx,Zhj,Zhk,Zh6,Zh7,Ziq,Zir,Ziu,Ziv,Ziw,Zix,Ziz,Zi0,Zi2,Zi3,Zi6,Zi7,Zi8,Zja,Zjb,Zje,Zjg,Zjh,Zji,Zjj,Zjk,Zjl,Zjm,Zjn,Zjo,Zjs,Zju,Zj2,Zj7,Zj9,Zkb,Zkl,Zla,Zlb,Zle,Zlj,Zll,Zlu,Zly,Zlz,Zl2,Zmu,Zmv,Zmw,Zm4,Zm5,Zm6,Zm9,Zna,Znb,Znc,Znd,Zne,Znf,Zng,Znh,Znl,Znm,Znn,Zno,Znp,Znr,Znx,Zny,Zn5,Zof,Zog,Zos,Zot,Zo6,Zo7,Zo8,Zo9,Zpa,Zpd,Zpg,Zpm,Zpp,Zps,Zpu,Zpv,Zpy,Zp1,Zp2,Zp3,Zp9,Ztz,Zqb,Zqc,Zqd,Zq5,Zq6,Zqf,Zqg,Zqh,Zqi,Zqj,Zqk,Zql,Zqm,Zqn,Zqo,List.length_append,eq_self,true_and,and_true,Nat.zero_add,zF_fc,fc_0,fc_17,fc_18,fc_19,fc_20,fc_53,fc_54,fc_55,fs_0,fs_17,fs_18,fs_19,fs_20,fs_53,fs_54,fs_55,fp_1,fp_21,fp_f,rb_1,rb_21,rb_0,fc_len,fc_ok,fc_id,fc_rs,v16,v32,cB_cells]
        tactic =>
        exact ⟨rfl, rfl⟩
    · have hmt : mm = true := by rw [hmm]; rfl
      subst hmt
      sym =>
      simp [Zaa,Zab,Zac,Zad,Zae,Zaf,Zag,Zah,Zai,Zal,Zam,Zan,Zap,Zaq,Zav,Zaw,Zaz,Za0,Za1,Za2,Za3,Za4,Za5,Za6,Za7,Za8,Za9,Zba,Zbb,Zbc,Zbd,Zbf,Zbl,Zbt,Zbu,Zbv,Zbw,Zca,Zto,Ztq,Zcd,Zce,Zcn,Zc0,Zc3,Zc4,Zc6,Zc7,Zc8,Zc9,Zdc,Zdd,Zde,Zdi,Zdm,Zrj,Zrk,Zrl,Zts,Zrm,Zrn,Zro,Zrp,Zrq,Zrr,Zrt,Zru,Zrv,Zrw,Zrx,Zry,Zrz,Zr1,Zr2,Zsb,Zsd,Zse,Zsf,Zsg,Zsh,Zsj,Zsm,Zsn,Zso,Zsp,Zsr,Zst,Zsw,Zdo,Zdp,Zdt,Zdu,Zdv,Zdw,Zdx,Zdy,Zdz,Zd0,Zd1,Zd2,Zd3,Zeh,Zek,Zem,Zen,Ztt,Zer,Zes,Zev,Zew,Zex,Zez,Ze0,Ze1,Ze2,Ze3,Ze4,Ze5,Ze8,Zfb,Zfc,Zfd,Zfe,Zff,Zfg,Zfh,Zfi,Zfj,Zfl,Zfn,Zfz,Zf3,Zgh,Zgi,Zgr,Zgs,Zgt,Zgu,Zgv,Zgw,Zgx,Zhd,Zhe,Zhf,Zhg,Zhh,Ztv,Ztw,Ztx,Zhj,Zhk,Zh6,Zh7,Ziq,Zir,Ziu,Ziv,Ziw,Zix,Ziz,Zi0,Zi2,Zi3,Zi6,Zi7,Zi8,Zja,Zjb,Zje,Zjg,Zjh,Zji,Zjj,Zjk,Zjl,Zjm,Zjn,Zjo,Zjs,Zju,Zj2,Zj7,Zj9,Zkb,Zkl,Zla,Zlb,Zle,Zlj,Zll,Zlu,Zly,Zlz,Zl2,Zmu,Zmv,Zmw,Zm4,Zm5,Zm6,Zm9,Zna,Znb,Znc,Znd,Zne,Znf,Zng,Znh,Znl,Znm,Znn,Zno,Znp,Znr,Znx,Zny,Zn5,Zof,Zog,Zos,Zot,Zo6,Zo7,Zo8,Zo9,Zpa,Zpd,Zpg,Zpm,Zpp,Zps,Zpu,Zpv,Zpy,Zp1,Zp2,Zp3,Zp9,Ztz,Zqb,Zqc,Zqd,Zq5,Zq6,Zqf,Zqg,Zqh,Zqi,Zqj,Zqk,Zql,Zqm,Zqn,Zqo,List.length_append,eq_self,true_and,and_true,Nat.zero_add,zF_fc,fc_0,fc_17,fc_18,fc_19,fc_20,fc_53,fc_54,fc_55,fs_0,fs_17,fs_18,fs_19,fs_20,fs_53,fs_54,fs_55,fp_1,fp_21,fp_f,rb_1,rb_21,rb_0,fc_len,fc_ok,fc_id,fc_rs,v16,v32,cB_cells]
      tactic =>
      refine endM [(0, 0), (1, 1)] 2 ?_
      sym =>
      simp [Zaa,Zab,Zac,Zad,Zae,Zaf,Zag,Zah,Zai,Zal,Zam,Zan,Zap,Zaq,Zav,Zaw,Zaz,Za0,Za1,Za2,Za3,Za4,Za5,Za6,Za7,Za8,Za9,Zba,Zbb,Zbc,Zbd,Zbf,Zbl,Zbt,Zbu,Zbv,Zbw,Zca,Zto,Ztq,Zcd,Zce,Zcn,Zc0,Zc3,Zc4,Zc6,Zc7,Zc8,Zc9,Zdc,Zdd,Zde,Zdi,Zdm,Zrj,Zrk,Zrl,Zts,Zrm,Zrn,Zro,Zrp,Zrq,Zrr,Zrt,Zru,Zrv,Zrw,Zrx,Zry,Zrz,Zr1,Zr2,Zsb,Zsd,Zse,Zsf,Zsg,Zsh,Zsj,Zsm,Zsn,Zso,Zsp,Zsr,Zst,Zsw,Zdo,Zdp,Zdt,Zdu,Zdv,Zdw,Zdx,Zdy,Zdz,Zd0,Zd1,Zd2,Zd3,Zeh,Zek,Zem,Zen,Ztt,Zer,Zes,Zev,Zew,Zex,Zez,Ze0,Ze1,Ze2,Ze3,Ze4,Ze5,Ze8,Zfb,Zfc,Zfd,Zfe,Zff,Zfg,Zfh,Zfi,Zfj,Zfl,Zfn,Zfz,Zf3,Zgh,Zgi,Zgr,Zgs,Zgt,Zgu,Zgv,Zgw,Zgx,Zhd,Zhe,Zhf,Zhg,Zhh,Ztv,Ztw,Ztx,Zhj,Zhk,Zh6,Zh7,Ziq,Zir,Ziu,Ziv,Ziw,Zix,Ziz,Zi0,Zi2,Zi3,Zi6,Zi7,Zi8,Zja,Zjb,Zje,Zjg,Zjh,Zji,Zjj,Zjk,Zjl,Zjm,Zjn,Zjo,Zjs,Zju,Zj2,Zj7,Zj9,Zkb,Zkl,Zla,Zlb,Zle,Zlj,Zll,Zlu,Zly,Zlz,Zl2,Zmu,Zmv,Zmw,Zm4,Zm5,Zm6,Zm9,Zna,Znb,Znc,Znd,Zne,Znf,Zng,Znh,Znl,Znm,Znn,Zno,Znp,Znr,Znx,Zny,Zn5,Zof,Zog,Zos,Zot,Zo6,Zo7,Zo8,Zo9,Zpa,Zpd,Zpg,Zpm,Zpp,Zps,Zpu,Zpv,Zpy,Zp1,Zp2,Zp3,Zp9,Ztz,Zqb,Zqc,Zqd,Zq5,Zq6,Zqf,Zqg,Zqh,Zqi,Zqj,Zqk,Zql,Zqm,Zqn,Zqo,List.length_append,eq_self,true_and,and_true,Nat.zero_add,zF_fc,fc_0,fc_17,fc_18,fc_19,fc_20,fc_53,fc_54,fc_55,fs_0,fs_17,fs_18,fs_19,fs_20,fs_53,fs_54,fs_55,fp_1,fp_21,fp_f,rb_1,rb_21,rb_0,fc_len,fc_ok,fc_id,fc_rs,v16,v32,cB_cells]
      tactic =>
      exact ⟨rfl, rfl⟩
  rw [if_neg k3] at hR
  by_cases k4 : k = 4
  · rw [if_pos k4] at hR
    subst k4
    obtain ⟨Z, hZ⟩ : ∃ x, x = skG b1 m1 [] := ⟨_, rfl⟩
    rw [← hZ] at hR
    subst hR
    simp only [fr]
    refine con_2 b39 rfl ?_
    sym =>
    simp [Zaa,Zab,Zac,Zad,Zae,Zaf,Zag,Zah,Zai,Zal,Zam,Zan,Zap,Zaq,Zav,Zaw,Zaz,Za0,Za1,Za2,Za3,Za4,Za5,Za6,Za7,Za8,Za9,Zba,Zbb,Zbc,Zbd,Zbf,Zbl,Zbt,Zbu,Zbv,Zbw,Zca,Zto,Ztq,Zcd,Zce,Zcn,Zc0,Zc3,Zc4,Zc6,Zc7,Zc8,Zc9,Zdc,Zdd,Zde,Zdi,Zdm,Zrj,Zrk,Zrl,Zts,Zrm,Zrn,Zro,Zrp,Zrq,Zrr,Zrt,Zru,Zrv,Zrw,Zrx,Zry,Zrz,Zr1,Zr2,Zsb,Zsd,Zse,Zsf,Zsg,Zsh,Zsj,Zsm,Zsn,Zso,Zsp,Zsr,Zst,Zsw,Zdo,Zdp,Zdt,Zdu,Zdv,Zdw,Zdx,Zdy,Zdz,Zd0,Zd1,Zd2,Zd3,Zeh,Zek,Zem,Zen,Ztt,Zer,Zes,Zev,Zew,Zex,Zez,Ze0,Ze1,Ze2,Ze3,Ze4,Ze5,Ze8,Zfb,Zfc,Zfd,Zfe,Zff,Zfg,Zfh,Zfi,Zfj,Zfl,Zfn,Zfz,Zf3,Zgh,Zgi,Zgr,Zgs,Zgt,Zgu,Zgv,Zgw,Zgx,Zhd,Zhe,Zhf,Zhg,Zhh,Ztv,Ztw,Ztx,Zhj,Zhk,Zh6,Zh7,Ziq,Zir,Ziu,Ziv,Ziw,Zix,Ziz,Zi0,Zi2,Zi3,Zi6,Zi7,Zi8,Zja,Zjb,Zje,Zjg,Zjh,Zji,Zjj,Zjk,Zjl,Zjm,Zjn,Zjo,Zjs,Zju,Zj2,Zj7,Zj9,Zkb,Zkl,Zla,Zlb,Zle,Zlj,Zll,Zlu,Zly,Zlz,Zl2,Zmu,Zmv,Zmw,Zm4,Zm5,Zm6,Zm9,Zna,Znb,Znc,Znd,Zne,Znf,Zng,Znh,Znl,Znm,Znn,Zno,Znp,Znr,Znx,Zny,Zn5,Zof,Zog,Zos,Zot,Zo6,Zo7,Zo8,Zo9,Zpa,Zpd,Zpg,Zpm,Zpp,Zps,Zpu,Zpv,Zpy,Zp1,Zp2,Zp3,Zp9,Ztz,Zqb,Zqc,Zqd,Zq5,Zq6,Zqf,Zqg,Zqh,Zqi,Zqj,Zqk,Zql,Zqm,Zqn,Zqo,List.length_append,eq_self,true_and,and_true,Nat.zero_add,zF_fc,fc_0,fc_17,fc_18,fc_19,fc_20,fc_53,fc_54,fc_55,fs_0,fs_17,fs_18,fs_19,fs_20,fs_53,fs_54,fs_55,fp_1,fp_21,fp_f,rb_1,rb_21,rb_0,fc_len,fc_ok,fc_id,fc_rs,v16,v32,cB_cells,fc_okI,callable_37]
    tactic =>
    and_intros <;> try (first | omega | rfl | assumption | simp only [IN]; omega)
    refine clG [some ⟨[fB b1, Bo m1], 1, 0⟩] none c1 rfl ⟨⟨o0 _ _, trivial⟩, trivial, rfl⟩ ?_
    sym =>
    simp [Zaa,Zab,Zac,Zad,Zae,Zaf,Zag,Zah,Zai,Zal,Zam,Zan,Zap,Zaq,Zav,Zaw,Zaz,Za0,Za1,Za2,Za3,Za4,Za5,Za6,Za7,Za8,Za9,Zba,Zbb,Zbc,Zbd,Zbf,Zbl,Zbt,Zbu,Zbv,Zbw,Zca,Zto,Ztq,Zcd,Zce,Zcn,Zc0,Zc3,Zc4,Zc6,Zc7,Zc8,Zc9,Zdc,Zdd,Zde,Zdi,Zdm,Zrj,Zrk,Zrl,Zts,Zrm,Zrn,Zro,Zrp,Zrq,Zrr,Zrt,Zru,Zrv,Zrw,Zrx,Zry,Zrz,Zr1,Zr2,Zsb,Zsd,Zse,Zsf,Zsg,Zsh,Zsj,Zsm,Zsn,Zso,Zsp,Zsr,Zst,Zsw,Zdo,Zdp,Zdt,Zdu,Zdv,Zdw,Zdx,Zdy,Zdz,Zd0,Zd1,Zd2,Zd3,Zeh,Zek,Zem,Zen,Ztt,Zer,Zes,Zev,Zew,Zex,Zez,Ze0,Ze1,Ze2,Ze3,Ze4,Ze5,Ze8,Zfb,Zfc,Zfd,Zfe,Zff,Zfg,Zfh,Zfi,Zfj,Zfl,Zfn,Zfz,Zf3,Zgh,Zgi,Zgr,Zgs,Zgt,Zgu,Zgv,Zgw,Zgx,Zhd,Zhe,Zhf,Zhg,Zhh,Ztv,Ztw,Ztx,Zhj,Zhk,Zh6,Zh7,Ziq,Zir,Ziu,Ziv,Ziw,Zix,Ziz,Zi0,Zi2,Zi3,Zi6,Zi7,Zi8,Zja,Zjb,Zje,Zjg,Zjh,Zji,Zjj,Zjk,Zjl,Zjm,Zjn,Zjo,Zjs,Zju,Zj2,Zj7,Zj9,Zkb,Zkl,Zla,Zlb,Zle,Zlj,Zll,Zlu,Zly,Zlz,Zl2,Zmu,Zmv,Zmw,Zm4,Zm5,Zm6,Zm9,Zna,Znb,Znc,Znd,Zne,Znf,Zng,Znh,Znl,Znm,Znn,Zno,Znp,Znr,Znx,Zny,Zn5,Zof,Zog,Zos,Zot,Zo6,Zo7,Zo8,Zo9,Zpa,Zpd,Zpg,Zpm,Zpp,Zps,Zpu,Zpv,Zpy,Zp1,Zp2,Zp3,Zp9,Ztz,Zqb,Zqc,Zqd,Zq5,Zq6,Zqf,Zqg,Zqh,Zqi,Zqj,Zqk,Zql,Zqm,Zqn,Zqo,List.length_append,eq_self,true_and,and_true,Nat.zero_add,zF_fc,fc_0,fc_17,fc_18,fc_19,fc_20,fc_53,fc_54,fc_55,fs_0,fs_17,fs_18,fs_19,fs_20,fs_53,fs_54,fs_55,fp_1,fp_21,fp_f,rb_1,rb_21,rb_0,fc_len,fc_ok,fc_id,fc_rs,v16,v32,cB_cells]
    tactic =>
    refine lpA (i39 t es er x1 Z) b1.length [(0, 0), (1, 1)] _ ⟨b1, m1, [], rfl, hZ.symm, hb1, by simpa using hl1', rfl⟩ (wkM ?_) ?_
    · sym =>
      simp [Zaa,Zab,Zac,Zad,Zae,Zaf,Zag,Zah,Zai,Zal,Zam,Zan,Zap,Zaq,Zav,Zaw,Zaz,Za0,Za1,Za2,Za3,Za4,Za5,Za6,Za7,Za8,Za9,Zba,Zbb,Zbc,Zbd,Zbf,Zbl,Zbt,Zbu,Zbv,Zbw,Zca,Zto,Ztq,Zcd,Zce,Zcn,Zc0,Zc3,Zc4,Zc6,Zc7,Zc8,Zc9,Zdc,Zdd,Zde,Zdi,Zdm,Zrj,Zrk,Zrl,Zts,Zrm,Zrn,Zro,Zrp,Zrq,Zrr,Zrt,Zru,Zrv,Zrw,Zrx,Zry,Zrz,Zr1,Zr2,Zsb,Zsd,Zse,Zsf,Zsg,Zsh,Zsj,Zsm,Zsn,Zso,Zsp,Zsr,Zst,Zsw,Zdo,Zdp,Zdt,Zdu,Zdv,Zdw,Zdx,Zdy,Zdz,Zd0,Zd1,Zd2,Zd3,Zeh,Zek,Zem,Zen,Ztt,Zer,Zes,Zev,Zew,Zex,Zez,Ze0,Ze1,Ze2,Ze3,Ze4,Ze5,Ze8,Zfb,Zfc,Zfd,Zfe,Zff,Zfg,Zfh,Zfi,Zfj,Zfl,Zfn,Zfz,Zf3,Zgh,Zgi,Zgr,Zgs,Zgt,Zgu,Zgv,Zgw,Zgx,Zhd,Zhe,Zhf,Zhg,Zhh,Ztv,Ztw,Ztx,Zhj,Zhk,Zh6,Zh7,Ziq,Zir,Ziu,Ziv,Ziw,Zix,Ziz,Zi0,Zi2,Zi3,Zi6,Zi7,Zi8,Zja,Zjb,Zje,Zjg,Zjh,Zji,Zjj,Zjk,Zjl,Zjm,Zjn,Zjo,Zjs,Zju,Zj2,Zj7,Zj9,Zkb,Zkl,Zla,Zlb,Zle,Zlj,Zll,Zlu,Zly,Zlz,Zl2,Zmu,Zmv,Zmw,Zm4,Zm5,Zm6,Zm9,Zna,Znb,Znc,Znd,Zne,Znf,Zng,Znh,Znl,Znm,Znn,Zno,Znp,Znr,Znx,Zny,Zn5,Zof,Zog,Zos,Zot,Zo6,Zo7,Zo8,Zo9,Zpa,Zpd,Zpg,Zpm,Zpp,Zps,Zpu,Zpv,Zpy,Zp1,Zp2,Zp3,Zp9,Ztz,Zqb,Zqc,Zqd,Zq5,Zq6,Zqf,Zqg,Zqh,Zqi,Zqj,Zqk,Zql,Zqm,Zqn,Zqo,List.length_append,eq_self,true_and,and_true,Nat.zero_add,zF_fc,fc_0,fc_17,fc_18,fc_19,fc_20,fc_53,fc_54,fc_55,fs_0,fs_17,fs_18,fs_19,fs_20,fs_53,fs_54,fs_55,fp_1,fp_21,fp_f,rb_1,rb_21,rb_0,fc_len,fc_ok,fc_id,fc_rs,v16,v32,cB_cells]
      tactic =>
      all_goals rfl
    clear hZ c1 hx1 hbb1 hm1 hb1 hl1 hl1' hb hl
    rintro kk s ⟨b, m, acc, rfl, hz, hb, hl, rfl⟩
    by_cases h0 : b.length = 0
    · rw [skG, dif_pos h0] at hz
      subst hz
      have h0' : ¬ (0 : Int) < IN b.length := by simp only [IN]; omega
      sym =>
      simp [Zaa,Zab,Zac,Zad,Zae,Zaf,Zag,Zah,Zai,Zal,Zam,Zan,Zap,Zaq,Zav,Zaw,Zaz,Za0,Za1,Za2,Za3,Za4,Za5,Za6,Za7,Za8,Za9,Zba,Zbb,Zbc,Zbd,Zbf,Zbl,Zbt,Zbu,Zbv,Zbw,Zca,Zto,Ztq,Zcd,Zce,Zcn,Zc0,Zc3,Zc4,Zc6,Zc7,Zc8,Zc9,Zdc,Zdd,Zde,Zdi,Zdm,Zrj,Zrk,Zrl,Zts,Zrm,Zrn,Zro,Zrp,Zrq,Zrr,Zrt,Zru,Zrv,Zrw,Zrx,Zry,Zrz,Zr1,Zr2,Zsb,Zsd,Zse,Zsf,Zsg,Zsh,Zsj,Zsm,Zsn,Zso,Zsp,Zsr,Zst,Zsw,Zdo,Zdp,Zdt,Zdu,Zdv,Zdw,Zdx,Zdy,Zdz,Zd0,Zd1,Zd2,Zd3,Zeh,Zek,Zem,Zen,Ztt,Zer,Zes,Zev,Zew,Zex,Zez,Ze0,Ze1,Ze2,Ze3,Ze4,Ze5,Ze8,Zfb,Zfc,Zfd,Zfe,Zff,Zfg,Zfh,Zfi,Zfj,Zfl,Zfn,Zfz,Zf3,Zgh,Zgi,Zgr,Zgs,Zgt,Zgu,Zgv,Zgw,Zgx,Zhd,Zhe,Zhf,Zhg,Zhh,Ztv,Ztw,Ztx,Zhj,Zhk,Zh6,Zh7,Ziq,Zir,Ziu,Ziv,Ziw,Zix,Ziz,Zi0,Zi2,Zi3,Zi6,Zi7,Zi8,Zja,Zjb,Zje,Zjg,Zjh,Zji,Zjj,Zjk,Zjl,Zjm,Zjn,Zjo,Zjs,Zju,Zj2,Zj7,Zj9,Zkb,Zkl,Zla,Zlb,Zle,Zlj,Zll,Zlu,Zly,Zlz,Zl2,Zmu,Zmv,Zmw,Zm4,Zm5,Zm6,Zm9,Zna,Znb,Znc,Znd,Zne,Znf,Zng,Znh,Znl,Znm,Znn,Zno,Znp,Znr,Znx,Zny,Zn5,Zof,Zog,Zos,Zot,Zo6,Zo7,Zo8,Zo9,Zpa,Zpd,Zpg,Zpm,Zpp,Zps,Zpu,Zpv,Zpy,Zp1,Zp2,Zp3,Zp9,Ztz,Zqb,Zqc,Zqd,Zq5,Zq6,Zqf,Zqg,Zqh,Zqi,Zqj,Zqk,Zql,Zqm,Zqn,Zqo,List.length_append,eq_self,true_and,and_true,Nat.zero_add,zF_fc,fc_0,fc_17,fc_18,fc_19,fc_20,fc_53,fc_54,fc_55,fs_0,fs_17,fs_18,fs_19,fs_20,fs_53,fs_54,fs_55,fp_1,fp_21,fp_f,rb_1,rb_21,rb_0,fc_len,fc_ok,fc_id,fc_rs,v16,v32,cB_cells,h0',h0]
      tactic =>
      refine endM [(0, 0), (1, 1)] 2 ?_
      sym =>
      simp [Zaa,Zab,Zac,Zad,Zae,Zaf,Zag,Zah,Zai,Zal,Zam,Zan,Zap,Zaq,Zav,Zaw,Zaz,Za0,Za1,Za2,Za3,Za4,Za5,Za6,Za7,Za8,Za9,Zba,Zbb,Zbc,Zbd,Zbf,Zbl,Zbt,Zbu,Zbv,Zbw,Zca,Zto,Ztq,Zcd,Zce,Zcn,Zc0,Zc3,Zc4,Zc6,Zc7,Zc8,Zc9,Zdc,Zdd,Zde,Zdi,Zdm,Zrj,Zrk,Zrl,Zts,Zrm,Zrn,Zro,Zrp,Zrq,Zrr,Zrt,Zru,Zrv,Zrw,Zrx,Zry,Zrz,Zr1,Zr2,Zsb,Zsd,Zse,Zsf,Zsg,Zsh,Zsj,Zsm,Zsn,Zso,Zsp,Zsr,Zst,Zsw,Zdo,Zdp,Zdt,Zdu,Zdv,Zdw,Zdx,Zdy,Zdz,Zd0,Zd1,Zd2,Zd3,Zeh,Zek,Zem,Zen,Ztt,Zer,Zes,Zev,Zew,Zex,Zez,Ze0,Ze1,Ze2,Ze3,Ze4,Ze5,Ze8,Zfb,Zfc,Zfd,Zfe,Zff,Zfg,Zfh,Zfi,Zfj,Zfl,Zfn,Zfz,Zf3,Zgh,Zgi,Zgr,Zgs,Zgt,Zgu,Zgv,Zgw,Zgx,Zhd,Zhe,Zhf,Zhg,Zhh,Ztv,Ztw,Ztx,Zhj,Zhk,Zh6,Zh7,Ziq,Zir,Ziu,Ziv,Ziw,Zix,Ziz,Zi0,Zi2,Zi3,Zi6,Zi7,Zi8,Zja,Zjb,Zje,Zjg,Zjh,Zji,Zjj,Zjk,Zjl,Zjm,Zjn,Zjo,Zjs,Zju,Zj2,Zj7,Zj9,Zkb,Zkl,Zla,Zlb,Zle,Zlj,Zll,Zlu,Zly,Zlz,Zl2,Zmu,Zmv,Zmw,Zm4,Zm5,Zm6,Zm9,Zna,Znb,Znc,Znd,Zne,Znf,Zng,Znh,Znl,Znm,Znn,Zno,Znp,Znr,Znx,Zny,Zn5,Zof,Zog,Zos,Zot,Zo6,Zo7,Zo8,Zo9,Zpa,Zpd,Zpg,Zpm,Zpp,Zps,Zpu,Zpv,Zpy,Zp1,Zp2,Zp3,Zp9,Ztz,Zqb,Zqc,Zqd,Zq5,Zq6,Zqf,Zqg,Zqh,Zqi,Zqj,Zqk,Zql,Zqm,Zqn,Zqo,List.length_append,eq_self,true_and,and_true,Nat.zero_add,zF_fc,fc_0,fc_17,fc_18,fc_19,fc_20,fc_53,fc_54,fc_55,fs_0,fs_17,fs_18,fs_19,fs_20,fs_53,fs_54,fs_55,fp_1,fp_21,fp_f,rb_1,rb_21,rb_0,fc_len,fc_ok,fc_id,fc_rs,v16,v32,cB_cells]
      tactic =>
      obtain rfl := List.length_eq_zero_iff.1 h0
      exact ⟨rfl, rfl, (cR_all acc).symm, by rw [cR_length]; exact Nat.le_refl _, cR_okI acc⟩
    · have h0' : 0 < b.length := by omega
      have hlt := tkF_lt b m h0
      rw [skG, dif_neg h0] at hz
      have hb1 := tkF_byt2 hb m 8
      have hl1 := tkF_len2 b m 8
      have c1 := rdnum_con' b hb m 8 (by omega) (by decide) 8 rfl rfl rfl
      obtain ⟨x1, hx1⟩ : ∃ x, x = ofN (tkF b m 8).1 8 := ⟨_, rfl⟩
      obtain ⟨b1, hbb1⟩ : ∃ x, x = (tkF b m 8).2.1 := ⟨_, rfl⟩
      obtain ⟨m1, hm1⟩ : ∃ x, x = (tkF b m 8).2.2 := ⟨_, rfl⟩
      rw [← hx1, ← hbb1, ← hm1] at c1 hz
      rw [← hbb1] at hl1 hb1 hlt
      have hb2 := tkF_byt2 hb1 m1 8
      have hl2 := tkF_len2 b1 m1 8
      have c2 := rdnum_con' b1 hb1 m1 8 (by omega) (by decide) 8 rfl rfl rfl
      obtain ⟨x2, hx2⟩ : ∃ x, x = ofN (tkF b1 m1 8).1 8 := ⟨_, rfl⟩
      obtain ⟨b2, hbb2⟩ : ∃ x, x = (tkF b1 m1 8).2.1 := ⟨_, rfl⟩
      obtain ⟨m2, hm2⟩ : ∃ x, x = (tkF b1 m1 8).2.2 := ⟨_, rfl⟩
      rw [← hx2, ← hbb2, ← hm2] at c2 hz
      rw [← hbb2] at hl2 hb2
      unfold rdO at *
      sym =>
      simp [Zaa,Zab,Zac,Zad,Zae,Zaf,Zag,Zah,Zai,Zal,Zam,Zan,Zap,Zaq,Zav,Zaw,Zaz,Za0,Za1,Za2,Za3,Za4,Za5,Za6,Za7,Za8,Za9,Zba,Zbb,Zbc,Zbd,Zbf,Zbl,Zbt,Zbu,Zbv,Zbw,Zca,Zto,Ztq,Zcd,Zce,Zcn,Zc0,Zc3,Zc4,Zc6,Zc7,Zc8,Zc9,Zdc,Zdd,Zde,Zdi,Zdm,Zrj,Zrk,Zrl,Zts,Zrm,Zrn,Zro,Zrp,Zrq,Zrr,Zrt,Zru,Zrv,Zrw,Zrx,Zry,Zrz,Zr1,Zr2,Zsb,Zsd,Zse,Zsf,Zsg,Zsh,Zsj,Zsm,Zsn,Zso,Zsp,Zsr,Zst,Zsw,Zdo,Zdp,Zdt,Zdu,Zdv,Zdw,Zdx,Zdy,Zdz,Zd0,Zd1,Zd2,Zd3,Zeh,Zek,Zem,Zen,Ztt,Zer,Zes,Zev,Zew,Zex,Zez,Ze0,Ze1,Ze2,Ze3,Ze4,Ze5,Ze8,Zfb,Zfc,Zfd,Zfe,Zff,Zfg,Zfh,Zfi,Zfj,Zfl,Zfn,Zfz,Zf3,Zgh,Zgi,Zgr,Zgs,Zgt,Zgu,Zgv,Zgw,Zgx,Zhd,Zhe,Zhf,Zhg,Zhh,Ztv,Ztw,Ztx,Zhj,Zhk,Zh6,Zh7,Ziq,Zir,Ziu,Ziv,Ziw,Zix,Ziz,Zi0,Zi2,Zi3,Zi6,Zi7,Zi8,Zja,Zjb,Zje,Zjg,Zjh,Zji,Zjj,Zjk,Zjl,Zjm,Zjn,Zjo,Zjs,Zju,Zj2,Zj7,Zj9,Zkb,Zkl,Zla,Zlb,Zle,Zlj,Zll,Zlu,Zly,Zlz,Zl2,Zmu,Zmv,Zmw,Zm4,Zm5,Zm6,Zm9,Zna,Znb,Znc,Znd,Zne,Znf,Zng,Znh,Znl,Znm,Znn,Zno,Znp,Znr,Znx,Zny,Zn5,Zof,Zog,Zos,Zot,Zo6,Zo7,Zo8,Zo9,Zpa,Zpd,Zpg,Zpm,Zpp,Zps,Zpu,Zpv,Zpy,Zp1,Zp2,Zp3,Zp9,Ztz,Zqb,Zqc,Zqd,Zq5,Zq6,Zqf,Zqg,Zqh,Zqi,Zqj,Zqk,Zql,Zqm,Zqn,Zqo,List.length_append,eq_self,true_and,and_true,Nat.zero_add,zF_fc,fc_0,fc_17,fc_18,fc_19,fc_20,fc_53,fc_54,fc_55,fs_0,fs_17,fs_18,fs_19,fs_20,fs_53,fs_54,fs_55,fp_1,fp_21,fp_f,rb_1,rb_21,rb_0,fc_len,fc_ok,fc_id,fc_rs,v16,v32,cB_cells,h0',h0,callable_37]
      tactic =>
      and_intros <;> try (first | omega | rfl | assumption | simp only [IN]; omega)
      refine clG [some ⟨[fB b1, Bo m1], 1, 0⟩] none c1 rfl ⟨⟨o0 _ _, trivial⟩, trivial, rfl⟩ ?_
      sym =>
      simp [Zaa,Zab,Zac,Zad,Zae,Zaf,Zag,Zah,Zai,Zal,Zam,Zan,Zap,Zaq,Zav,Zaw,Zaz,Za0,Za1,Za2,Za3,Za4,Za5,Za6,Za7,Za8,Za9,Zba,Zbb,Zbc,Zbd,Zbf,Zbl,Zbt,Zbu,Zbv,Zbw,Zca,Zto,Ztq,Zcd,Zce,Zcn,Zc0,Zc3,Zc4,Zc6,Zc7,Zc8,Zc9,Zdc,Zdd,Zde,Zdi,Zdm,Zrj,Zrk,Zrl,Zts,Zrm,Zrn,Zro,Zrp,Zrq,Zrr,Zrt,Zru,Zrv,Zrw,Zrx,Zry,Zrz,Zr1,Zr2,Zsb,Zsd,Zse,Zsf,Zsg,Zsh,Zsj,Zsm,Zsn,Zso,Zsp,Zsr,Zst,Zsw,Zdo,Zdp,Zdt,Zdu,Zdv,Zdw,Zdx,Zdy,Zdz,Zd0,Zd1,Zd2,Zd3,Zeh,Zek,Zem,Zen,Ztt,Zer,Zes,Zev,Zew,Zex,Zez,Ze0,Ze1,Ze2,Ze3,Ze4,Ze5,Ze8,Zfb,Zfc,Zfd,Zfe,Zff,Zfg,Zfh,Zfi,Zfj,Zfl,Zfn,Zfz,Zf3,Zgh,Zgi,Zgr,Zgs,Zgt,Zgu,Zgv,Zgw,Zgx,Zhd,Zhe,Zhf,Zhg,Zhh,Ztv,Ztw,Ztx,Zhj,Zhk,Zh6,Zh7,Ziq,Zir,Ziu,Ziv,Ziw,Zix,Ziz,Zi0,Zi2,Zi3,Zi6,Zi7,Zi8,Zja,Zjb,Zje,Zjg,Zjh,Zji,Zjj,Zjk,Zjl,Zjm,Zjn,Zjo,Zjs,Zju,Zj2,Zj7,Zj9,Zkb,Zkl,Zla,Zlb,Zle,Zlj,Zll,Zlu,Zly,Zlz,Zl2,Zmu,Zmv,Zmw,Zm4,Zm5,Zm6,Zm9,Zna,Znb,Znc,Znd,Zne,Znf,Zng,Znh,Znl,Znm,Znn,Zno,Znp,Znr,Znx,Zny,Zn5,Zof,Zog,Zos,Zot,Zo6,Zo7,Zo8,Zo9,Zpa,Zpd,Zpg,Zpm,Zpp,Zps,Zpu,Zpv,Zpy,Zp1,Zp2,Zp3,Zp9,Ztz,Zqb,Zqc,Zqd,Zq5,Zq6,Zqf,Zqg,Zqh,Zqi,Zqj,Zqk,Zql,Zqm,Zqn,Zqo,List.length_append,eq_self,true_and,and_true,Nat.zero_add,zF_fc,fc_0,fc_17,fc_18,fc_19,fc_20,fc_53,fc_54,fc_55,fs_0,fs_17,fs_18,fs_19,fs_20,fs_53,fs_54,fs_55,fp_1,fp_21,fp_f,rb_1,rb_21,rb_0,fc_len,fc_ok,fc_id,fc_rs,v16,v32,cB_cells,callable_37]
      tactic =>
      and_intros <;> try (first | omega | rfl | assumption | simp only [IN]; omega)
      and_intros <;> try (first | omega | rfl | assumption | simp only [IN]; omega)
      refine clG [some ⟨[fB b2, Bo m2], 1, 0⟩] none c2 rfl ⟨⟨o0 _ _, trivial⟩, trivial, rfl⟩ ?_
      sym =>
      simp [Zaa,Zab,Zac,Zad,Zae,Zaf,Zag,Zah,Zai,Zal,Zam,Zan,Zap,Zaq,Zav,Zaw,Zaz,Za0,Za1,Za2,Za3,Za4,Za5,Za6,Za7,Za8,Za9,Zba,Zbb,Zbc,Zbd,Zbf,Zbl,Zbt,Zbu,Zbv,Zbw,Zca,Zto,Ztq,Zcd,Zce,Zcn,Zc0,Zc3,Zc4,Zc6,Zc7,Zc8,Zc9,Zdc,Zdd,Zde,Zdi,Zdm,Zrj,Zrk,Zrl,Zts,Zrm,Zrn,Zro,Zrp,Zrq,Zrr,Zrt,Zru,Zrv,Zrw,Zrx,Zry,Zrz,Zr1,Zr2,Zsb,Zsd,Zse,Zsf,Zsg,Zsh,Zsj,Zsm,Zsn,Zso,Zsp,Zsr,Zst,Zsw,Zdo,Zdp,Zdt,Zdu,Zdv,Zdw,Zdx,Zdy,Zdz,Zd0,Zd1,Zd2,Zd3,Zeh,Zek,Zem,Zen,Ztt,Zer,Zes,Zev,Zew,Zex,Zez,Ze0,Ze1,Ze2,Ze3,Ze4,Ze5,Ze8,Zfb,Zfc,Zfd,Zfe,Zff,Zfg,Zfh,Zfi,Zfj,Zfl,Zfn,Zfz,Zf3,Zgh,Zgi,Zgr,Zgs,Zgt,Zgu,Zgv,Zgw,Zgx,Zhd,Zhe,Zhf,Zhg,Zhh,Ztv,Ztw,Ztx,Zhj,Zhk,Zh6,Zh7,Ziq,Zir,Ziu,Ziv,Ziw,Zix,Ziz,Zi0,Zi2,Zi3,Zi6,Zi7,Zi8,Zja,Zjb,Zje,Zjg,Zjh,Zji,Zjj,Zjk,Zjl,Zjm,Zjn,Zjo,Zjs,Zju,Zj2,Zj7,Zj9,Zkb,Zkl,Zla,Zlb,Zle,Zlj,Zll,Zlu,Zly,Zlz,Zl2,Zmu,Zmv,Zmw,Zm4,Zm5,Zm6,Zm9,Zna,Znb,Znc,Znd,Zne,Znf,Zng,Znh,Znl,Znm,Znn,Zno,Znp,Znr,Znx,Zny,Zn5,Zof,Zog,Zos,Zot,Zo6,Zo7,Zo8,Zo9,Zpa,Zpd,Zpg,Zpm,Zpp,Zps,Zpu,Zpv,Zpy,Zp1,Zp2,Zp3,Zp9,Ztz,Zqb,Zqc,Zqd,Zq5,Zq6,Zqf,Zqg,Zqh,Zqi,Zqj,Zqk,Zql,Zqm,Zqn,Zqo,List.length_append,eq_self,true_and,and_true,Nat.zero_add,zF_fc,fc_0,fc_17,fc_18,fc_19,fc_20,fc_53,fc_54,fc_55,fs_0,fs_17,fs_18,fs_19,fs_20,fs_53,fs_54,fs_55,fp_1,fp_21,fp_f,rb_1,rb_21,rb_0,fc_len,fc_ok,fc_id,fc_rs,v16,v32,cB_cells,cR_cells,cR_length]
      tactic =>
      refine ⟨by omega, ?_⟩
      obtain ⟨q, hq⟩ : ∃ q, q = b2.length := ⟨_, rfl⟩
      unfold NextL; refine ⟨q, [(0, 0), (1, 1), (2, 22)], _, by omega, ⟨b2, m2, acc ++ [(x1, x2)], hq, hz, hb2, by rw [List.length_append, List.length_singleton]; omega, rfl⟩, wkM ?_⟩
      rw [cR_snoc, List.length_append]
      sym =>
      simp [Zaa,Zab,Zac,Zad,Zae,Zaf,Zag,Zah,Zai,Zal,Zam,Zan,Zap,Zaq,Zav,Zaw,Zaz,Za0,Za1,Za2,Za3,Za4,Za5,Za6,Za7,Za8,Za9,Zba,Zbb,Zbc,Zbd,Zbf,Zbl,Zbt,Zbu,Zbv,Zbw,Zca,Zto,Ztq,Zcd,Zce,Zcn,Zc0,Zc3,Zc4,Zc6,Zc7,Zc8,Zc9,Zdc,Zdd,Zde,Zdi,Zdm,Zrj,Zrk,Zrl,Zts,Zrm,Zrn,Zro,Zrp,Zrq,Zrr,Zrt,Zru,Zrv,Zrw,Zrx,Zry,Zrz,Zr1,Zr2,Zsb,Zsd,Zse,Zsf,Zsg,Zsh,Zsj,Zsm,Zsn,Zso,Zsp,Zsr,Zst,Zsw,Zdo,Zdp,Zdt,Zdu,Zdv,Zdw,Zdx,Zdy,Zdz,Zd0,Zd1,Zd2,Zd3,Zeh,Zek,Zem,Zen,Ztt,Zer,Zes,Zev,Zew,Zex,Zez,Ze0,Ze1,Ze2,Ze3,Ze4,Ze5,Ze8,Zfb,Zfc,Zfd,Zfe,Zff,Zfg,Zfh,Zfi,Zfj,Zfl,Zfn,Zfz,Zf3,Zgh,Zgi,Zgr,Zgs,Zgt,Zgu,Zgv,Zgw,Zgx,Zhd,Zhe,Zhf,Zhg,Zhh,Ztv,Ztw,Ztx,Zhj,Zhk,Zh6,Zh7,Ziq,Zir,Ziu,Ziv,Ziw,Zix,Ziz,Zi0,Zi2,Zi3,Zi6,Zi7,Zi8,Zja,Zjb,Zje,Zjg,Zjh,Zji,Zjj,Zjk,Zjl,Zjm,Zjn,Zjo,Zjs,Zju,Zj2,Zj7,Zj9,Zkb,Zkl,Zla,Zlb,Zle,Zlj,Zll,Zlu,Zly,Zlz,Zl2,Zmu,Zmv,Zmw,Zm4,Zm5,Zm6,Zm9,Zna,Znb,Znc,Znd,Zne,Znf,Zng,Znh,Znl,Znm,Znn,Zno,Znp,Znr,Znx,Zny,Zn5,Zof,Zog,Zos,Zot,Zo6,Zo7,Zo8,Zo9,Zpa,Zpd,Zpg,Zpm,Zpp,Zps,Zpu,Zpv,Zpy,Zp1,Zp2,Zp3,Zp9,Ztz,Zqb,Zqc,Zqd,Zq5,Zq6,Zqf,Zqg,Zqh,Zqi,Zqj,Zqk,Zql,Zqm,Zqn,Zqo,List.length_append,eq_self,true_and,and_true,Nat.zero_add,zF_fc,fc_0,fc_17,fc_18,fc_19,fc_20,fc_53,fc_54,fc_55,fs_0,fs_17,fs_18,fs_19,fs_20,fs_53,fs_54,fs_55,fp_1,fp_21,fp_f,rb_1,rb_21,rb_0,fc_len,fc_ok,fc_id,fc_rs,v16,v32,cB_cells]
      tactic =>
      have hcr := cR_okI (acc ++ [(x1, x2)])
      rw [cR_snoc] at hcr
      exact rs_self hcr
  rw [if_neg k4] at hR
  have hp : (tkF b false 8).2 = (b1, m1) := by rw [hbb1, hm1]
  rw [hp] at hR
  subst hR
  simp only [fr]
  refine con_2 b39 rfl ?_
  sym =>
  simp [Zaa,Zab,Zac,Zad,Zae,Zaf,Zag,Zah,Zai,Zal,Zam,Zan,Zap,Zaq,Zav,Zaw,Zaz,Za0,Za1,Za2,Za3,Za4,Za5,Za6,Za7,Za8,Za9,Zba,Zbb,Zbc,Zbd,Zbf,Zbl,Zbt,Zbu,Zbv,Zbw,Zca,Zto,Ztq,Zcd,Zce,Zcn,Zc0,Zc3,Zc4,Zc6,Zc7,Zc8,Zc9,Zdc,Zdd,Zde,Zdi,Zdm,Zrj,Zrk,Zrl,Zts,Zrm,Zrn,Zro,Zrp,Zrq,Zrr,Zrt,Zru,Zrv,Zrw,Zrx,Zry,Zrz,Zr1,Zr2,Zsb,Zsd,Zse,Zsf,Zsg,Zsh,Zsj,Zsm,Zsn,Zso,Zsp,Zsr,Zst,Zsw,Zdo,Zdp,Zdt,Zdu,Zdv,Zdw,Zdx,Zdy,Zdz,Zd0,Zd1,Zd2,Zd3,Zeh,Zek,Zem,Zen,Ztt,Zer,Zes,Zev,Zew,Zex,Zez,Ze0,Ze1,Ze2,Ze3,Ze4,Ze5,Ze8,Zfb,Zfc,Zfd,Zfe,Zff,Zfg,Zfh,Zfi,Zfj,Zfl,Zfn,Zfz,Zf3,Zgh,Zgi,Zgr,Zgs,Zgt,Zgu,Zgv,Zgw,Zgx,Zhd,Zhe,Zhf,Zhg,Zhh,Ztv,Ztw,Ztx,Zhj,Zhk,Zh6,Zh7,Ziq,Zir,Ziu,Ziv,Ziw,Zix,Ziz,Zi0,Zi2,Zi3,Zi6,Zi7,Zi8,Zja,Zjb,Zje,Zjg,Zjh,Zji,Zjj,Zjk,Zjl,Zjm,Zjn,Zjo,Zjs,Zju,Zj2,Zj7,Zj9,Zkb,Zkl,Zla,Zlb,Zle,Zlj,Zll,Zlu,Zly,Zlz,Zl2,Zmu,Zmv,Zmw,Zm4,Zm5,Zm6,Zm9,Zna,Znb,Znc,Znd,Zne,Znf,Zng,Znh,Znl,Znm,Znn,Zno,Znp,Znr,Znx,Zny,Zn5,Zof,Zog,Zos,Zot,Zo6,Zo7,Zo8,Zo9,Zpa,Zpd,Zpg,Zpm,Zpp,Zps,Zpu,Zpv,Zpy,Zp1,Zp2,Zp3,Zp9,Ztz,Zqb,Zqc,Zqd,Zq5,Zq6,Zqf,Zqg,Zqh,Zqi,Zqj,Zqk,Zql,Zqm,Zqn,Zqo,List.length_append,eq_self,true_and,and_true,Nat.zero_add,zF_fc,fc_0,fc_17,fc_18,fc_19,fc_20,fc_53,fc_54,fc_55,fs_0,fs_17,fs_18,fs_19,fs_20,fs_53,fs_54,fs_55,fp_1,fp_21,fp_f,rb_1,rb_21,rb_0,fc_len,fc_ok,fc_id,fc_rs,v16,v32,cB_cells,fc_okI,k1,k5,k6,k7,callable_37]
  tactic =>
  and_intros <;> try (first | omega | rfl | assumption | simp only [IN]; omega)
  refine clG [some ⟨[fB b1, Bo m1], 1, 0⟩] none c1 rfl ⟨⟨o0 _ _, trivial⟩, trivial, rfl⟩ ?_
  sym =>
  simp [Zaa,Zab,Zac,Zad,Zae,Zaf,Zag,Zah,Zai,Zal,Zam,Zan,Zap,Zaq,Zav,Zaw,Zaz,Za0,Za1,Za2,Za3,Za4,Za5,Za6,Za7,Za8,Za9,Zba,Zbb,Zbc,Zbd,Zbf,Zbl,Zbt,Zbu,Zbv,Zbw,Zca,Zto,Ztq,Zcd,Zce,Zcn,Zc0,Zc3,Zc4,Zc6,Zc7,Zc8,Zc9,Zdc,Zdd,Zde,Zdi,Zdm,Zrj,Zrk,Zrl,Zts,Zrm,Zrn,Zro,Zrp,Zrq,Zrr,Zrt,Zru,Zrv,Zrw,Zrx,Zry,Zrz,Zr1,Zr2,Zsb,Zsd,Zse,Zsf,Zsg,Zsh,Zsj,Zsm,Zsn,Zso,Zsp,Zsr,Zst,Zsw,Zdo,Zdp,Zdt,Zdu,Zdv,Zdw,Zdx,Zdy,Zdz,Zd0,Zd1,Zd2,Zd3,Zeh,Zek,Zem,Zen,Ztt,Zer,Zes,Zev,Zew,Zex,Zez,Ze0,Ze1,Ze2,Ze3,Ze4,Ze5,Ze8,Zfb,Zfc,Zfd,Zfe,Zff,Zfg,Zfh,Zfi,Zfj,Zfl,Zfn,Zfz,Zf3,Zgh,Zgi,Zgr,Zgs,Zgt,Zgu,Zgv,Zgw,Zgx,Zhd,Zhe,Zhf,Zhg,Zhh,Ztv,Ztw,Ztx,Zhj,Zhk,Zh6,Zh7,Ziq,Zir,Ziu,Ziv,Ziw,Zix,Ziz,Zi0,Zi2,Zi3,Zi6,Zi7,Zi8,Zja,Zjb,Zje,Zjg,Zjh,Zji,Zjj,Zjk,Zjl,Zjm,Zjn,Zjo,Zjs,Zju,Zj2,Zj7,Zj9,Zkb,Zkl,Zla,Zlb,Zle,Zlj,Zll,Zlu,Zly,Zlz,Zl2,Zmu,Zmv,Zmw,Zm4,Zm5,Zm6,Zm9,Zna,Znb,Znc,Znd,Zne,Znf,Zng,Znh,Znl,Znm,Znn,Zno,Znp,Znr,Znx,Zny,Zn5,Zof,Zog,Zos,Zot,Zo6,Zo7,Zo8,Zo9,Zpa,Zpd,Zpg,Zpm,Zpp,Zps,Zpu,Zpv,Zpy,Zp1,Zp2,Zp3,Zp9,Ztz,Zqb,Zqc,Zqd,Zq5,Zq6,Zqf,Zqg,Zqh,Zqi,Zqj,Zqk,Zql,Zqm,Zqn,Zqo,List.length_append,eq_self,true_and,and_true,Nat.zero_add,zF_fc,fc_0,fc_17,fc_18,fc_19,fc_20,fc_53,fc_54,fc_55,fs_0,fs_17,fs_18,fs_19,fs_20,fs_53,fs_54,fs_55,fp_1,fp_21,fp_f,rb_1,rb_21,rb_0,fc_len,fc_ok,fc_id,fc_rs,v16,v32,cB_cells,k3,k4]
  tactic =>
  refine endM [(0, 0), (1, 1)] 2 ?_
  sym =>
  simp [Zaa,Zab,Zac,Zad,Zae,Zaf,Zag,Zah,Zai,Zal,Zam,Zan,Zap,Zaq,Zav,Zaw,Zaz,Za0,Za1,Za2,Za3,Za4,Za5,Za6,Za7,Za8,Za9,Zba,Zbb,Zbc,Zbd,Zbf,Zbl,Zbt,Zbu,Zbv,Zbw,Zca,Zto,Ztq,Zcd,Zce,Zcn,Zc0,Zc3,Zc4,Zc6,Zc7,Zc8,Zc9,Zdc,Zdd,Zde,Zdi,Zdm,Zrj,Zrk,Zrl,Zts,Zrm,Zrn,Zro,Zrp,Zrq,Zrr,Zrt,Zru,Zrv,Zrw,Zrx,Zry,Zrz,Zr1,Zr2,Zsb,Zsd,Zse,Zsf,Zsg,Zsh,Zsj,Zsm,Zsn,Zso,Zsp,Zsr,Zst,Zsw,Zdo,Zdp,Zdt,Zdu,Zdv,Zdw,Zdx,Zdy,Zdz,Zd0,Zd1,Zd2,Zd3,Zeh,Zek,Zem,Zen,Ztt,Zer,Zes,Zev,Zew,Zex,Zez,Ze0,Ze1,Ze2,Ze3,Ze4,Ze5,Ze8,Zfb,Zfc,Zfd,Zfe,Zff,Zfg,Zfh,Zfi,Zfj,Zfl,Zfn,Zfz,Zf3,Zgh,Zgi,Zgr,Zgs,Zgt,Zgu,Zgv,Zgw,Zgx,Zhd,Zhe,Zhf,Zhg,Zhh,Ztv,Ztw,Ztx,Zhj,Zhk,Zh6,Zh7,Ziq,Zir,Ziu,Ziv,Ziw,Zix,Ziz,Zi0,Zi2,Zi3,Zi6,Zi7,Zi8,Zja,Zjb,Zje,Zjg,Zjh,Zji,Zjj,Zjk,Zjl,Zjm,Zjn,Zjo,Zjs,Zju,Zj2,Zj7,Zj9,Zkb,Zkl,Zla,Zlb,Zle,Zlj,Zll,Zlu,Zly,Zlz,Zl2,Zmu,Zmv,Zmw,Zm4,Zm5,Zm6,Zm9,Zna,Znb,Znc,Znd,Zne,Znf,Zng,Znh,Znl,Znm,Znn,Zno,Znp,Znr,Znx,Zny,Zn5,Zof,Zog,Zos,Zot,Zo6,Zo7,Zo8,Zo9,Zpa,Zpd,Zpg,Zpm,Zpp,Zps,Zpu,Zpv,Zpy,Zp1,Zp2,Zp3,Zp9,Ztz,Zqb,Zqc,Zqd,Zq5,Zq6,Zqf,Zqg,Zqh,Zqi,Zqj,Zqk,Zql,Zqm,Zqn,Zqo,List.length_append,eq_self,true_and,and_true,Nat.zero_add,zF_fc,fc_0,fc_17,fc_18,fc_19,fc_20,fc_53,fc_54,fc_55,fs_0,fs_17,fs_18,fs_19,fs_20,fs_53,fs_54,fs_55,fp_1,fp_21,fp_f,rb_1,rb_21,rb_0,fc_len,fc_ok,fc_id,fc_rs,v16,v32,cB_cells]
  tactic =>
  exact ⟨rfl, rfl⟩
end Go.Proofs.Ythhccabdlajngaa.FrmQ
