import Derived.Test.YtdjjibmjinllnaaDoorBlkA
namespace Go.Proofs.YtdjjibmjinllnaaDoor.BlkB
open Go Go.Sim Go.Sim.E Go.RowKit Go.Proofs Go.Proofs.YtdjjibmjinllnaaDoor.Cod Go.Proofs.YtdjjibmjinllnaaDoor.Tab Go.Proofs.YtdjjibmjinllnaaDoor.Bse Go.Proofs.YtdjjibmjinllnaaDoor.BlkA
set_option linter.unusedVariables false
set_option linter.unusedSimpArgs false
set_option maxRecDepth 100000
set_option maxHeartbeats 4000000
theorem alive_con : Con Tryd.prog 5 [] [] [] (Bo true) := by
  have p1 : padI ((([97] : List Int).length : Nat) : Int) = IN 511 := by unfold padI; simp only [IN]; decide
  have c1 : cntI ((([97] : List Int).length : Nat) : Int) = 1 := by decide
  have c513 : cntI 513 = 2 := by decide
  have p1b : padI 1 = 511 := by decide
  obtain ⟨m, hm⟩ : ∃ m : Nat, m = 511 := ⟨_, rfl⟩
  obtain ⟨q, hq⟩ : ∃ q : Nat, q = 1024 := ⟨_, rfl⟩
  have h1 := fill_con [97] (by decide)
  rw [p1] at h1
  have hit : (IN 511).toNat = m := by rw [hm]; rfl
  rw [hit] at h1
  obtain ⟨a, ha⟩ : ∃ a : List Int, a = [97] := ⟨_, rfl⟩
  have hal : a.length = 1 := by rw [ha]; rfl
  have hzl := zs_length m
  have hfl : (a ++ zs m).length = 512 := by rw [List.length_append, hal, hzl, hm]
  have h2 := open_con a (zs m) (by rw [hal, hzl, hm]; decide) (by rw [hfl, hal]; decide)
  have h3 := count_con 513 (by decide)
  rw [c513] at h3
  have h4 := end_con
  have h5 := clean_con a m (by rw [ha, hm]; exact p1) (by rw [hal]; decide)
  have h6 := pad_con 1 (by decide)
  rw [p1b] at h6
  have hI1 : IN a.length = 1 := by rw [hal]; rfl
  rw [hI1] at h2 h5
  have hzq := zs_length q
  rw [← hq] at h4
  obtain ⟨f, hf⟩ : ∃ f, f = a ++ zs m := ⟨_, rfl⟩
  have h1' : Con Tryd.prog 9 [] [.fz 1 [Y 97]] [] (fB f) := by rw [hf, ha]; exact h1
  rw [← hf] at h2 h5 hfl
  have hs0 : bysS (cB a) = ⟨#[97]⟩ := by rw [ha]; rfl
  have hs : ((bysS (cB a)).toList == (⟨#[97]⟩ : ByteArray).toList) = true := by rw [hs0]; exact beq_self_eq_true _
  have hso := bys_ok a
  have hla := cB_length a
  refine con_j b5 rfl ?_
  sym =>
  simp [Zab,Zad,Zak,Zam,Zaz,Za0,Za1,Za2,Za3,Za4,Za5,Za6,Za7,Za9,Zba,Zbb,Zbd,Zbf,Zbp,Zbr,Zb7,Zcn,Zcz,Zdc,Zdd,Zde,Zdi,Zev,Zew,Zex,Zez,Ze0,Ze2,Ze3,Ze5,Ze9,Zfc,Zfd,Zfe,Zfh,Zfi,Zfl,Zfn,Zfz,Zf8,Zgl,Zgm,Zgo,Zgp,Zgq,Zhb,Zhc,Zhf,Zhg,Zhh,Zh6,Zh7,Ziq,Zir,Zi7,Zjl,Zjm,Zjp,Zjr,Zjw,Zka,Zkb,Zky,Zk0,Zk4,Zla,Zlb,Zle,Zlj,Zll,Zlt,Zlx,Zlz,Zl2,Zl3,Zl4,Zmt,Zmv,Zmw,Zmx,Zmz,Zm2,Zm9,Zna,Znb,Zne,Znf,Zng,Znh,Znl,Znm,Znn,Zno,Znp,Zos,Zou,Zo7,Zo8,Zpc,List.length_append,eq_self,true_and,and_true,callable_9]
  tactic =>
  refine cl none (h1') trivial ?_
  sym =>
  simp [Zab,Zad,Zak,Zam,Zaz,Za0,Za1,Za2,Za3,Za4,Za5,Za6,Za7,Za9,Zba,Zbb,Zbd,Zbf,Zbp,Zbr,Zb7,Zcn,Zcz,Zdc,Zdd,Zde,Zdi,Zev,Zew,Zex,Zez,Ze0,Ze2,Ze3,Ze5,Ze9,Zfc,Zfd,Zfe,Zfh,Zfi,Zfl,Zfn,Zfz,Zf8,Zgl,Zgm,Zgo,Zgp,Zgq,Zhb,Zhc,Zhf,Zhg,Zhh,Zh6,Zh7,Ziq,Zir,Zi7,Zjl,Zjm,Zjp,Zjr,Zjw,Zka,Zkb,Zky,Zk0,Zk4,Zla,Zlb,Zle,Zlj,Zll,Zlt,Zlx,Zlz,Zl2,Zl3,Zl4,Zmt,Zmv,Zmw,Zmx,Zmz,Zm2,Zm9,Zna,Znb,Zne,Znf,Zng,Znh,Znl,Znm,Znn,Zno,Znp,Zos,Zou,Zo7,Zo8,Zpc,List.length_append,eq_self,true_and,and_true,callable_10]
  tactic =>
  refine cl none (h2) trivial ?_
  sym =>
  simp [Zab,Zad,Zak,Zam,Zaz,Za0,Za1,Za2,Za3,Za4,Za5,Za6,Za7,Za9,Zba,Zbb,Zbd,Zbf,Zbp,Zbr,Zb7,Zcn,Zcz,Zdc,Zdd,Zde,Zdi,Zev,Zew,Zex,Zez,Ze0,Ze2,Ze3,Ze5,Ze9,Zfc,Zfd,Zfe,Zfh,Zfi,Zfl,Zfn,Zfz,Zf8,Zgl,Zgm,Zgo,Zgp,Zgq,Zhb,Zhc,Zhf,Zhg,Zhh,Zh6,Zh7,Ziq,Zir,Zi7,Zjl,Zjm,Zjp,Zjr,Zjw,Zka,Zkb,Zky,Zk0,Zk4,Zla,Zlb,Zle,Zlj,Zll,Zlt,Zlx,Zlz,Zl2,Zl3,Zl4,Zmt,Zmv,Zmw,Zmx,Zmz,Zm2,Zm9,Zna,Znb,Zne,Znf,Zng,Znh,Znl,Znm,Znn,Zno,Znp,Zos,Zou,Zo7,Zo8,Zpc,List.length_append,eq_self,true_and,and_true]
  tactic =>
  have hI5 : IN f.length = 512 := by rw [hfl]; rfl
  rw [hI5, if_pos rfl]
  sym =>
  simp [Zab,Zad,Zak,Zam,Zaz,Za0,Za1,Za2,Za3,Za4,Za5,Za6,Za7,Za9,Zba,Zbb,Zbd,Zbf,Zbp,Zbr,Zb7,Zcn,Zcz,Zdc,Zdd,Zde,Zdi,Zev,Zew,Zex,Zez,Ze0,Ze2,Ze3,Ze5,Ze9,Zfc,Zfd,Zfe,Zfh,Zfi,Zfl,Zfn,Zfz,Zf8,Zgl,Zgm,Zgo,Zgp,Zgq,Zhb,Zhc,Zhf,Zhg,Zhh,Zh6,Zh7,Ziq,Zir,Zi7,Zjl,Zjm,Zjp,Zjr,Zjw,Zka,Zkb,Zky,Zk0,Zk4,Zla,Zlb,Zle,Zlj,Zll,Zlt,Zlx,Zlz,Zl2,Zl3,Zl4,Zmt,Zmv,Zmw,Zmx,Zmz,Zm2,Zm9,Zna,Znb,Zne,Znf,Zng,Znh,Znl,Znm,Znn,Zno,Znp,Zos,Zou,Zo7,Zo8,Zpc,List.length_append,eq_self,true_and,and_true,hs,hso,hla,callable_7]
  tactic =>
  refine cl none (h3) trivial ?_
  sym =>
  simp [Zab,Zad,Zak,Zam,Zaz,Za0,Za1,Za2,Za3,Za4,Za5,Za6,Za7,Za9,Zba,Zbb,Zbd,Zbf,Zbp,Zbr,Zb7,Zcn,Zcz,Zdc,Zdd,Zde,Zdi,Zev,Zew,Zex,Zez,Ze0,Ze2,Ze3,Ze5,Ze9,Zfc,Zfd,Zfe,Zfh,Zfi,Zfl,Zfn,Zfz,Zf8,Zgl,Zgm,Zgo,Zgp,Zgq,Zhb,Zhc,Zhf,Zhg,Zhh,Zh6,Zh7,Ziq,Zir,Zi7,Zjl,Zjm,Zjp,Zjr,Zjw,Zka,Zkb,Zky,Zk0,Zk4,Zla,Zlb,Zle,Zlj,Zll,Zlt,Zlx,Zlz,Zl2,Zl3,Zl4,Zmt,Zmv,Zmw,Zmx,Zmz,Zm2,Zm9,Zna,Znb,Zne,Znf,Zng,Znh,Znl,Znm,Znn,Zno,Znp,Zos,Zou,Zo7,Zo8,Zpc,List.length_append,eq_self,true_and,and_true,callable_11]
  tactic =>
  refine cl none (h4) trivial ?_
  sym =>
  simp [Zab,Zad,Zak,Zam,Zaz,Za0,Za1,Za2,Za3,Za4,Za5,Za6,Za7,Za9,Zba,Zbb,Zbd,Zbf,Zbp,Zbr,Zb7,Zcn,Zcz,Zdc,Zdd,Zde,Zdi,Zev,Zew,Zex,Zez,Ze0,Ze2,Ze3,Ze5,Ze9,Zfc,Zfd,Zfe,Zfh,Zfi,Zfl,Zfn,Zfz,Zf8,Zgl,Zgm,Zgo,Zgp,Zgq,Zhb,Zhc,Zhf,Zhg,Zhh,Zh6,Zh7,Ziq,Zir,Zi7,Zjl,Zjm,Zjp,Zjr,Zjw,Zka,Zkb,Zky,Zk0,Zk4,Zla,Zlb,Zle,Zlj,Zll,Zlt,Zlx,Zlz,Zl2,Zl3,Zl4,Zmt,Zmv,Zmw,Zmx,Zmz,Zm2,Zm9,Zna,Znb,Zne,Znf,Zng,Znh,Znl,Znm,Znn,Zno,Znp,Zos,Zou,Zo7,Zo8,Zpc,List.length_append,eq_self,true_and,and_true]
  tactic =>
  have hI6 : IN (zs q).length = 1024 := by rw [hzq, hq]; rfl
  rw [hI6, if_pos rfl]
  sym =>
  simp [Zab,Zad,Zak,Zam,Zaz,Za0,Za1,Za2,Za3,Za4,Za5,Za6,Za7,Za9,Zba,Zbb,Zbd,Zbf,Zbp,Zbr,Zb7,Zcn,Zcz,Zdc,Zdd,Zde,Zdi,Zev,Zew,Zex,Zez,Ze0,Ze2,Ze3,Ze5,Ze9,Zfc,Zfd,Zfe,Zfh,Zfi,Zfl,Zfn,Zfz,Zf8,Zgl,Zgm,Zgo,Zgp,Zgq,Zhb,Zhc,Zhf,Zhg,Zhh,Zh6,Zh7,Ziq,Zir,Zi7,Zjl,Zjm,Zjp,Zjr,Zjw,Zka,Zkb,Zky,Zk0,Zk4,Zla,Zlb,Zle,Zlj,Zll,Zlt,Zlx,Zlz,Zl2,Zl3,Zl4,Zmt,Zmv,Zmw,Zmx,Zmz,Zm2,Zm9,Zna,Znb,Zne,Znf,Zng,Znh,Znl,Znm,Znn,Zno,Znp,Zos,Zou,Zo7,Zo8,Zpc,List.length_append,eq_self,true_and,and_true,callable_13]
  tactic =>
  refine cl none (h5) trivial ?_
  sym =>
  simp [Zab,Zad,Zak,Zam,Zaz,Za0,Za1,Za2,Za3,Za4,Za5,Za6,Za7,Za9,Zba,Zbb,Zbd,Zbf,Zbp,Zbr,Zb7,Zcn,Zcz,Zdc,Zdd,Zde,Zdi,Zev,Zew,Zex,Zez,Ze0,Ze2,Ze3,Ze5,Ze9,Zfc,Zfd,Zfe,Zfh,Zfi,Zfl,Zfn,Zfz,Zf8,Zgl,Zgm,Zgo,Zgp,Zgq,Zhb,Zhc,Zhf,Zhg,Zhh,Zh6,Zh7,Ziq,Zir,Zi7,Zjl,Zjm,Zjp,Zjr,Zjw,Zka,Zkb,Zky,Zk0,Zk4,Zla,Zlb,Zle,Zlj,Zll,Zlt,Zlx,Zlz,Zl2,Zl3,Zl4,Zmt,Zmv,Zmw,Zmx,Zmz,Zm2,Zm9,Zna,Znb,Zne,Znf,Zng,Znh,Znl,Znm,Znn,Zno,Znp,Zos,Zou,Zo7,Zo8,Zpc,List.length_append,eq_self,true_and,and_true,callable_8]
  tactic =>
  refine cl none (h6) trivial ?_
  sym =>
  simp [Zab,Zad,Zak,Zam,Zaz,Za0,Za1,Za2,Za3,Za4,Za5,Za6,Za7,Za9,Zba,Zbb,Zbd,Zbf,Zbp,Zbr,Zb7,Zcn,Zcz,Zdc,Zdd,Zde,Zdi,Zev,Zew,Zex,Zez,Ze0,Ze2,Ze3,Ze5,Ze9,Zfc,Zfd,Zfe,Zfh,Zfi,Zfl,Zfn,Zfz,Zf8,Zgl,Zgm,Zgo,Zgp,Zgq,Zhb,Zhc,Zhf,Zhg,Zhh,Zh6,Zh7,Ziq,Zir,Zi7,Zjl,Zjm,Zjp,Zjr,Zjw,Zka,Zkb,Zky,Zk0,Zk4,Zla,Zlb,Zle,Zlj,Zll,Zlt,Zlx,Zlz,Zl2,Zl3,Zl4,Zmt,Zmv,Zmw,Zmx,Zmz,Zm2,Zm9,Zna,Znb,Zne,Znf,Zng,Znh,Znl,Znm,Znn,Zno,Znp,Zos,Zou,Zo7,Zo8,Zpc,List.length_append,eq_self,true_and,and_true]
  tactic =>
  refine endA ?_
  sym =>
  simp [Zab,Zad,Zak,Zam,Zaz,Za0,Za1,Za2,Za3,Za4,Za5,Za6,Za7,Za9,Zba,Zbb,Zbd,Zbf,Zbp,Zbr,Zb7,Zcn,Zcz,Zdc,Zdd,Zde,Zdi,Zev,Zew,Zex,Zez,Ze0,Ze2,Ze3,Ze5,Ze9,Zfc,Zfd,Zfe,Zfh,Zfi,Zfl,Zfn,Zfz,Zf8,Zgl,Zgm,Zgo,Zgp,Zgq,Zhb,Zhc,Zhf,Zhg,Zhh,Zh6,Zh7,Ziq,Zir,Zi7,Zjl,Zjm,Zjp,Zjr,Zjw,Zka,Zkb,Zky,Zk0,Zk4,Zla,Zlb,Zle,Zlj,Zll,Zlt,Zlx,Zlz,Zl2,Zl3,Zl4,Zmt,Zmv,Zmw,Zmx,Zmz,Zm2,Zm9,Zna,Znb,Zne,Znf,Zng,Znh,Znl,Znm,Znn,Zno,Znp,Zos,Zou,Zo7,Zo8,Zpc,List.length_append,eq_self,true_and,and_true]
theorem counts_law (n : Int) (hn : -9223372036854775808 ≤ n ∧ n ≤ 9223372036854775807) : Con Tryd.prog 3 [] [I n] [] (Bo true) := by
  by_cases hg : 1152921504606846976 < n
  · refine con_j b3 rfl ?_
    sym =>
    simp [Zaa,Zab,Zad,Zae,Zaf,Zak,Zal,Zam,Zao,Zaz,Za0,Za1,Za2,Za3,Za4,Za5,Za6,Za7,Zrh,Za8,Za9,Zba,Zbb,Zbd,Zbf,Zdc,Zdd,Zde,Zdi,Zev,Zew,Zex,Zez,Ze0,Ze2,Zfd,Zfe,Zfh,Zfi,Zfj,Zfk,Zfl,Zfn,Zfr,Zfs,Zfz,Zf1,Zf3,Zf4,Zjr,Zjw,Zla,Zlb,Zle,Zlj,Zlz,Zmt,Zmv,Zmw,Zmx,Zmz,Zm2,Zna,Znb,Zne,Znf,Zng,Zos,Zot,Zou,Zo6,Zo7,Zo8,Zo9,Zpc,eq_self,true_and,and_true]
    tactic =>
    rw [if_pos hg]
    sym =>
    simp [Zaa,Zab,Zad,Zae,Zaf,Zak,Zal,Zam,Zao,Zaz,Za0,Za1,Za2,Za3,Za4,Za5,Za6,Za7,Zrh,Za8,Za9,Zba,Zbb,Zbd,Zbf,Zdc,Zdd,Zde,Zdi,Zev,Zew,Zex,Zez,Ze0,Ze2,Zfd,Zfe,Zfh,Zfi,Zfj,Zfk,Zfl,Zfn,Zfr,Zfs,Zfz,Zf1,Zf3,Zf4,Zjr,Zjw,Zla,Zlb,Zle,Zlj,Zlz,Zmt,Zmv,Zmw,Zmx,Zmz,Zm2,Zna,Znb,Zne,Znf,Zng,Zos,Zot,Zou,Zo6,Zo7,Zo8,Zo9,Zpc,eq_self,true_and,and_true,callable_5]
    tactic =>
    refine cl none (alive_con) trivial ?_
    sym =>
    simp [Zaa,Zab,Zad,Zae,Zaf,Zak,Zal,Zam,Zao,Zaz,Za0,Za1,Za2,Za3,Za4,Za5,Za6,Za7,Zrh,Za8,Za9,Zba,Zbb,Zbd,Zbf,Zdc,Zdd,Zde,Zdi,Zev,Zew,Zex,Zez,Ze0,Ze2,Zfd,Zfe,Zfh,Zfi,Zfj,Zfk,Zfl,Zfn,Zfr,Zfs,Zfz,Zf1,Zf3,Zf4,Zjr,Zjw,Zla,Zlb,Zle,Zlj,Zlz,Zmt,Zmv,Zmw,Zmx,Zmz,Zm2,Zna,Znb,Zne,Znf,Zng,Zos,Zot,Zou,Zo6,Zo7,Zo8,Zo9,Zpc,eq_self,true_and,and_true]
    tactic =>
    refine endA ?_
    sym =>
    simp [Zaa,Zab,Zad,Zae,Zaf,Zak,Zal,Zam,Zao,Zaz,Za0,Za1,Za2,Za3,Za4,Za5,Za6,Za7,Zrh,Za8,Za9,Zba,Zbb,Zbd,Zbf,Zdc,Zdd,Zde,Zdi,Zev,Zew,Zex,Zez,Ze0,Ze2,Zfd,Zfe,Zfh,Zfi,Zfj,Zfk,Zfl,Zfn,Zfr,Zfs,Zfz,Zf1,Zf3,Zf4,Zjr,Zjw,Zla,Zlb,Zle,Zlj,Zlz,Zmt,Zmv,Zmw,Zmx,Zmz,Zm2,Zna,Znb,Zne,Znf,Zng,Zos,Zot,Zou,Zo6,Zo7,Zo8,Zo9,Zpc,eq_self,true_and,and_true]
  have h1 := rcount_con n hn
  have h2 := count_con n hn
  have h3 := pad_con n hn
  by_cases h : n < 1
  · have e1 : padI n = 0 := by unfold padI; rw [if_pos h]
    have e2 : cntI n = 0 := by unfold cntI; rw [if_pos h]
    rw [e1] at h3
    rw [e2] at h1 h2
    refine con_j b3 rfl ?_
    sym =>
    simp [Zaa,Zab,Zad,Zae,Zaf,Zak,Zal,Zam,Zao,Zaz,Za0,Za1,Za2,Za3,Za4,Za5,Za6,Za7,Zrh,Za8,Za9,Zba,Zbb,Zbd,Zbf,Zdc,Zdd,Zde,Zdi,Zev,Zew,Zex,Zez,Ze0,Ze2,Zfd,Zfe,Zfh,Zfi,Zfj,Zfk,Zfl,Zfn,Zfr,Zfs,Zfz,Zf1,Zf3,Zf4,Zjr,Zjw,Zla,Zlb,Zle,Zlj,Zlz,Zmt,Zmv,Zmw,Zmx,Zmz,Zm2,Zna,Znb,Zne,Znf,Zng,Zos,Zot,Zou,Zo6,Zo7,Zo8,Zo9,Zpc,eq_self,true_and,and_true]
    tactic =>
    rw [if_neg hg]
    sym =>
    simp [Zaa,Zab,Zad,Zae,Zaf,Zak,Zal,Zam,Zao,Zaz,Za0,Za1,Za2,Za3,Za4,Za5,Za6,Za7,Zrh,Za8,Za9,Zba,Zbb,Zbd,Zbf,Zdc,Zdd,Zde,Zdi,Zev,Zew,Zex,Zez,Ze0,Ze2,Zfd,Zfe,Zfh,Zfi,Zfj,Zfk,Zfl,Zfn,Zfr,Zfs,Zfz,Zf1,Zf3,Zf4,Zjr,Zjw,Zla,Zlb,Zle,Zlj,Zlz,Zmt,Zmv,Zmw,Zmx,Zmz,Zm2,Zna,Znb,Zne,Znf,Zng,Zos,Zot,Zou,Zo6,Zo7,Zo8,Zo9,Zpc,eq_self,true_and,and_true,callable_6]
    tactic =>
    refine cl none (h1) trivial ?_
    sym =>
    simp [Zaa,Zab,Zad,Zae,Zaf,Zak,Zal,Zam,Zao,Zaz,Za0,Za1,Za2,Za3,Za4,Za5,Za6,Za7,Zrh,Za8,Za9,Zba,Zbb,Zbd,Zbf,Zdc,Zdd,Zde,Zdi,Zev,Zew,Zex,Zez,Ze0,Ze2,Zfd,Zfe,Zfh,Zfi,Zfj,Zfk,Zfl,Zfn,Zfr,Zfs,Zfz,Zf1,Zf3,Zf4,Zjr,Zjw,Zla,Zlb,Zle,Zlj,Zlz,Zmt,Zmv,Zmw,Zmx,Zmz,Zm2,Zna,Znb,Zne,Znf,Zng,Zos,Zot,Zou,Zo6,Zo7,Zo8,Zo9,Zpc,eq_self,true_and,and_true,callable_7]
    tactic =>
    refine cl none (h2) trivial ?_
    sym =>
    simp [Zaa,Zab,Zad,Zae,Zaf,Zak,Zal,Zam,Zao,Zaz,Za0,Za1,Za2,Za3,Za4,Za5,Za6,Za7,Zrh,Za8,Za9,Zba,Zbb,Zbd,Zbf,Zdc,Zdd,Zde,Zdi,Zev,Zew,Zex,Zez,Ze0,Ze2,Zfd,Zfe,Zfh,Zfi,Zfj,Zfk,Zfl,Zfn,Zfr,Zfs,Zfz,Zf1,Zf3,Zf4,Zjr,Zjw,Zla,Zlb,Zle,Zlj,Zlz,Zmt,Zmv,Zmw,Zmx,Zmz,Zm2,Zna,Znb,Zne,Znf,Zng,Zos,Zot,Zou,Zo6,Zo7,Zo8,Zo9,Zpc,eq_self,true_and,and_true,h,callable_8]
    tactic =>
    refine cl none (h3) trivial ?_
    sym =>
    simp [Zaa,Zab,Zad,Zae,Zaf,Zak,Zal,Zam,Zao,Zaz,Za0,Za1,Za2,Za3,Za4,Za5,Za6,Za7,Zrh,Za8,Za9,Zba,Zbb,Zbd,Zbf,Zdc,Zdd,Zde,Zdi,Zev,Zew,Zex,Zez,Ze0,Ze2,Zfd,Zfe,Zfh,Zfi,Zfj,Zfk,Zfl,Zfn,Zfr,Zfs,Zfz,Zf1,Zf3,Zf4,Zjr,Zjw,Zla,Zlb,Zle,Zlj,Zlz,Zmt,Zmv,Zmw,Zmx,Zmz,Zm2,Zna,Znb,Zne,Znf,Zng,Zos,Zot,Zou,Zo6,Zo7,Zo8,Zo9,Zpc,eq_self,true_and,and_true,callable_5]
    tactic =>
    refine cl none (alive_con) trivial ?_
    sym =>
    simp [Zaa,Zab,Zad,Zae,Zaf,Zak,Zal,Zam,Zao,Zaz,Za0,Za1,Za2,Za3,Za4,Za5,Za6,Za7,Zrh,Za8,Za9,Zba,Zbb,Zbd,Zbf,Zdc,Zdd,Zde,Zdi,Zev,Zew,Zex,Zez,Ze0,Ze2,Zfd,Zfe,Zfh,Zfi,Zfj,Zfk,Zfl,Zfn,Zfr,Zfs,Zfz,Zf1,Zf3,Zf4,Zjr,Zjw,Zla,Zlb,Zle,Zlj,Zlz,Zmt,Zmv,Zmw,Zmx,Zmz,Zm2,Zna,Znb,Zne,Znf,Zng,Zos,Zot,Zou,Zo6,Zo7,Zo8,Zo9,Zpc,eq_self,true_and,and_true]
    tactic =>
    refine endA ?_
    sym =>
    simp [Zaa,Zab,Zad,Zae,Zaf,Zak,Zal,Zam,Zao,Zaz,Za0,Za1,Za2,Za3,Za4,Za5,Za6,Za7,Zrh,Za8,Za9,Zba,Zbb,Zbd,Zbf,Zdc,Zdd,Zde,Zdi,Zev,Zew,Zex,Zez,Ze0,Ze2,Zfd,Zfe,Zfh,Zfi,Zfj,Zfk,Zfl,Zfn,Zfr,Zfs,Zfz,Zf1,Zf3,Zf4,Zjr,Zjw,Zla,Zlb,Zle,Zlj,Zlz,Zmt,Zmv,Zmw,Zmx,Zmz,Zm2,Zna,Znb,Zne,Znf,Zng,Zos,Zot,Zou,Zo6,Zo7,Zo8,Zo9,Zpc,eq_self,true_and,and_true]
  · have hcp := cnt_pad n (by omega)
    have hbd := pad_bd n
    obtain ⟨c, hc⟩ : ∃ c, c = cntI n := ⟨_, rfl⟩
    obtain ⟨p, hp⟩ : ∃ p, p = padI n := ⟨_, rfl⟩
    rw [← hc] at h1 h2 hcp
    rw [← hp] at h3 hcp hbd
    have hge : (1 : Int) ≤ n := by omega
    refine con_j b3 rfl ?_
    sym =>
    simp [Zaa,Zab,Zad,Zae,Zaf,Zak,Zal,Zam,Zao,Zaz,Za0,Za1,Za2,Za3,Za4,Za5,Za6,Za7,Zrh,Za8,Za9,Zba,Zbb,Zbd,Zbf,Zdc,Zdd,Zde,Zdi,Zev,Zew,Zex,Zez,Ze0,Ze2,Zfd,Zfe,Zfh,Zfi,Zfj,Zfk,Zfl,Zfn,Zfr,Zfs,Zfz,Zf1,Zf3,Zf4,Zjr,Zjw,Zla,Zlb,Zle,Zlj,Zlz,Zmt,Zmv,Zmw,Zmx,Zmz,Zm2,Zna,Znb,Zne,Znf,Zng,Zos,Zot,Zou,Zo6,Zo7,Zo8,Zo9,Zpc,eq_self,true_and,and_true]
    tactic =>
    rw [if_neg hg]
    sym =>
    simp [Zaa,Zab,Zad,Zae,Zaf,Zak,Zal,Zam,Zao,Zaz,Za0,Za1,Za2,Za3,Za4,Za5,Za6,Za7,Zrh,Za8,Za9,Zba,Zbb,Zbd,Zbf,Zdc,Zdd,Zde,Zdi,Zev,Zew,Zex,Zez,Ze0,Ze2,Zfd,Zfe,Zfh,Zfi,Zfj,Zfk,Zfl,Zfn,Zfr,Zfs,Zfz,Zf1,Zf3,Zf4,Zjr,Zjw,Zla,Zlb,Zle,Zlj,Zlz,Zmt,Zmv,Zmw,Zmx,Zmz,Zm2,Zna,Znb,Zne,Znf,Zng,Zos,Zot,Zou,Zo6,Zo7,Zo8,Zo9,Zpc,eq_self,true_and,and_true,callable_6]
    tactic =>
    refine cl none (h1) trivial ?_
    sym =>
    simp [Zaa,Zab,Zad,Zae,Zaf,Zak,Zal,Zam,Zao,Zaz,Za0,Za1,Za2,Za3,Za4,Za5,Za6,Za7,Zrh,Za8,Za9,Zba,Zbb,Zbd,Zbf,Zdc,Zdd,Zde,Zdi,Zev,Zew,Zex,Zez,Ze0,Ze2,Zfd,Zfe,Zfh,Zfi,Zfj,Zfk,Zfl,Zfn,Zfr,Zfs,Zfz,Zf1,Zf3,Zf4,Zjr,Zjw,Zla,Zlb,Zle,Zlj,Zlz,Zmt,Zmv,Zmw,Zmx,Zmz,Zm2,Zna,Znb,Zne,Znf,Zng,Zos,Zot,Zou,Zo6,Zo7,Zo8,Zo9,Zpc,eq_self,true_and,and_true,callable_7]
    tactic =>
    refine cl none (h2) trivial ?_
    sym =>
    simp [Zaa,Zab,Zad,Zae,Zaf,Zak,Zal,Zam,Zao,Zaz,Za0,Za1,Za2,Za3,Za4,Za5,Za6,Za7,Zrh,Za8,Za9,Zba,Zbb,Zbd,Zbf,Zdc,Zdd,Zde,Zdi,Zev,Zew,Zex,Zez,Ze0,Ze2,Zfd,Zfe,Zfh,Zfi,Zfj,Zfk,Zfl,Zfn,Zfr,Zfs,Zfz,Zf1,Zf3,Zf4,Zjr,Zjw,Zla,Zlb,Zle,Zlj,Zlz,Zmt,Zmv,Zmw,Zmx,Zmz,Zm2,Zna,Znb,Zne,Znf,Zng,Zos,Zot,Zou,Zo6,Zo7,Zo8,Zo9,Zpc,eq_self,true_and,and_true,h,hge,callable_8]
    tactic =>
    refine cl none (h3) trivial ?_
    sym =>
    simp [Zaa,Zab,Zad,Zae,Zaf,Zak,Zal,Zam,Zao,Zaz,Za0,Za1,Za2,Za3,Za4,Za5,Za6,Za7,Zrh,Za8,Za9,Zba,Zbb,Zbd,Zbf,Zdc,Zdd,Zde,Zdi,Zev,Zew,Zex,Zez,Ze0,Ze2,Zfd,Zfe,Zfh,Zfi,Zfj,Zfk,Zfl,Zfn,Zfr,Zfs,Zfz,Zf1,Zf3,Zf4,Zjr,Zjw,Zla,Zlb,Zle,Zlj,Zlz,Zmt,Zmv,Zmw,Zmx,Zmz,Zm2,Zna,Znb,Zne,Znf,Zng,Zos,Zot,Zou,Zo6,Zo7,Zo8,Zo9,Zpc,eq_self,true_and,and_true]
    tactic =>
    have e : IntKind.i64.wrap (IntKind.i64.wrap (512 * c) - n) = p := by rw [w64 (512 * c) (by omega), w64 _ (by omega)]; omega
    rw [e, if_pos rfl]
    sym =>
    simp [Zaa,Zab,Zad,Zae,Zaf,Zak,Zal,Zam,Zao,Zaz,Za0,Za1,Za2,Za3,Za4,Za5,Za6,Za7,Zrh,Za8,Za9,Zba,Zbb,Zbd,Zbf,Zdc,Zdd,Zde,Zdi,Zev,Zew,Zex,Zez,Ze0,Ze2,Zfd,Zfe,Zfh,Zfi,Zfj,Zfk,Zfl,Zfn,Zfr,Zfs,Zfz,Zf1,Zf3,Zf4,Zjr,Zjw,Zla,Zlb,Zle,Zlj,Zlz,Zmt,Zmv,Zmw,Zmx,Zmz,Zm2,Zna,Znb,Zne,Znf,Zng,Zos,Zot,Zou,Zo6,Zo7,Zo8,Zo9,Zpc,eq_self,true_and,and_true,callable_5]
    tactic =>
    refine cl none (alive_con) trivial ?_
    sym =>
    simp [Zaa,Zab,Zad,Zae,Zaf,Zak,Zal,Zam,Zao,Zaz,Za0,Za1,Za2,Za3,Za4,Za5,Za6,Za7,Zrh,Za8,Za9,Zba,Zbb,Zbd,Zbf,Zdc,Zdd,Zde,Zdi,Zev,Zew,Zex,Zez,Ze0,Ze2,Zfd,Zfe,Zfh,Zfi,Zfj,Zfk,Zfl,Zfn,Zfr,Zfs,Zfz,Zf1,Zf3,Zf4,Zjr,Zjw,Zla,Zlb,Zle,Zlj,Zlz,Zmt,Zmv,Zmw,Zmx,Zmz,Zm2,Zna,Znb,Zne,Znf,Zng,Zos,Zot,Zou,Zo6,Zo7,Zo8,Zo9,Zpc,eq_self,true_and,and_true]
    tactic =>
    refine endA ?_
    sym =>
    simp [Zaa,Zab,Zad,Zae,Zaf,Zak,Zal,Zam,Zao,Zaz,Za0,Za1,Za2,Za3,Za4,Za5,Za6,Za7,Zrh,Za8,Za9,Zba,Zbb,Zbd,Zbf,Zdc,Zdd,Zde,Zdi,Zev,Zew,Zex,Zez,Ze0,Ze2,Zfd,Zfe,Zfh,Zfi,Zfj,Zfk,Zfl,Zfn,Zfr,Zfs,Zfz,Zf1,Zf3,Zf4,Zjr,Zjw,Zla,Zlb,Zle,Zlj,Zlz,Zmt,Zmv,Zmw,Zmx,Zmz,Zm2,Zna,Znb,Zne,Znf,Zng,Zos,Zot,Zou,Zo6,Zo7,Zo8,Zo9,Zpc,eq_self,true_and,and_true]
theorem i64_lim {n : Int} (h : IntKind.i64.min ≤ n ∧ n ≤ IntKind.i64.max) : -9223372036854775808 ≤ n ∧ n ≤ 9223372036854775807 := by
  have h1 : IntKind.i64.min = -9223372036854775808 := by decide
  have h2 : IntKind.i64.max = 9223372036854775807 := by decide
  omega
theorem law3' (n : Int) (hn : IntKind.i64.min ≤ n ∧ n ≤ IntKind.i64.max) : Con Tryd.prog 3 [] [I n] [] (Bo true) := counts_law n (i64_lim hn)
end Go.Proofs.YtdjjibmjinllnaaDoor.BlkB
