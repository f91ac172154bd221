import Derived.Test.YtdjjibmjinllnaaDoorBlkA
namespace Go.Proofs.YtdjjibmjinllnaaDoor.BlkB
open Go Go.Sim Go.Sim.E Go.RowKit Go.Proofs Go.Proofs.YtdjjibmjinllnaaDoor.Cod Go.Proofs.YtdjjibmjinllnaaDoor.Tab Go.Proofs.YtdjjibmjinllnaaDoor.Bse Go.Proofs.YtdjjibmjinllnaaDoor.BlkA
set_option linter.unusedVariables false
set_option linter.unusedSimpArgs false
set_option maxRecDepth 100000
set_option maxHeartbeats 4000000
theorem alive_con : Con Tryd.prog 5 [] [] [] (Bo true) := by
  have p1 : padI ((([97] : List Int).length : Nat) : Int) = IN 511 := by unfold padI; simp only [IN]; decide
  have c1 : cntI ((([97] : List Int).length : Nat) : Int) = 1 := by decide
  have c513 : cntI 513 = 2 := by decide
  have p1b : padI 1 = 511 := by decide
  obtain ⟨m, hm⟩ : ∃ m : Nat, m = 511 := ⟨_, rfl⟩
  obtain ⟨q, hq⟩ : ∃ q : Nat, q = 1024 := ⟨_, rfl⟩
  have h1 := fill_con [97] (by decide)
  rw [p1] at h1
  have hit : (IN 511).toNat = m := by rw [hm]; rfl
  rw [hit] at h1
  obtain ⟨a, ha⟩ : ∃ a : List Int, a = [97] := ⟨_, rfl⟩
  have hal : a.length = 1 := by rw [ha]; rfl
  have hzl := zs_length m
  have hfl : (a ++ zs m).length = 512 := by rw [List.length_append, hal, hzl, hm]
  have h2 := open_con a (zs m) (by rw [hal, hzl, hm]; decide) (by rw [hfl, hal]; decide)
  have h3 := count_con 513 (by decide)
  rw [c513] at h3
  have h4 := end_con
  have h5 := clean_con a m (by rw [ha, hm]; exact p1) (by rw [hal]; decide)
  have h6 := pad_con 1 (by decide)
  rw [p1b] at h6
  have hI1 : IN a.length = 1 := by rw [hal]; rfl
  rw [hI1] at h2 h5
  have hzq := zs_length q
  rw [← hq] at h4
  obtain ⟨f, hf⟩ : ∃ f, f = a ++ zs m := ⟨_, rfl⟩
  have h1' : Con Tryd.prog 9 [] [.fz 1 [Y 97]] [] (fB f) := by rw [hf, ha]; exact h1
  rw [← hf] at h2 h5 hfl
  have hs0 : bysS (cB a) = ⟨#[97]⟩ := by rw [ha]; rfl
  have hs : ((bysS (cB a)).toList == (⟨#[97]⟩ : ByteArray).toList) = true := by rw [hs0]; exact beq_self_eq_true _
  have hso := bys_ok a
  have hla := cB_length a
  refine con_j b5 rfl ?_
  sym =>
  simp [Zab,Zad,Zak,Zam,Zaz,Za0,Za1,Za2,Za3,Za4,Za5,Za6,Za7,Za9,Zba,Zbb,Zbd,Zbf,Zbp,Zbr,Zb7,Zcn,Zcz,Zdc,Zdd,Zde,Zdi,Zev,Zew,Zex,Zez,Ze0,Ze2,Ze3,Ze5,Ze9,Zfc,Zfd,Zfe,Zfh,Zfi,Zfl,Zfn,Zfz,Zf8,Zgl,Zgm,Zgo,Zgp,Zgq,Zhb,Zhc,Zhf,Zhg,Zhh,Zh6,Zh7,Ziq,Zir,Zi7,Zjl,Zjm,Zjp,Zjr,Zjw,Zka,Zkb,Zky,Zk0,Zk4,Zla,Zlb,Zle,Zlj,Zll,Zlt,Zlx,Zlz,Zl2,Zl3,Zl4,Zmt,Zmv,Zmw,Zmx,Zmz,Zm2,Zm9,Zna,Znb,Zne,Znf,Zng,Znh,Znl,Znm,Znn,Zno,Znp,Zos,Zou,Zo7,Zo8,Zpc,List.length_append,eq_self,true_and,and_true,callable_9]
  tactic =>
  refine cl none (h1') trivial ?_
  sym =>
  simp [Zab,Zad,Zak,Zam,Zaz,Za0,Za1,Za2,Za3,Za4,Za5,Za6,Za7,Za9,Zba,Zbb,Zbd,Zbf,Zbp,Zbr,Zb7,Zcn,Zcz,Zdc,Zdd,Zde,Zdi,Zev,Zew,Zex,Zez,Ze0,Ze2,Ze3,Ze5,Ze9,Zfc,Zfd,Zfe,Zfh,Zfi,Zfl,Zfn,Zfz,Zf8,Zgl,Zgm,Zgo,Zgp,Zgq,Zhb,Zhc,Zhf,Zhg,Zhh,Zh6,Zh7,Ziq,Zir,Zi7,Zjl,Zjm,Zjp,Zjr,Zjw,Zka,Zkb,Zky,Zk0,Zk4,Zla,Zlb,Zle,Zlj,Zll,Zlt,Zlx,Zlz,Zl2,Zl3,Zl4,Zmt,Zmv,Zmw,Zmx,Zmz,Zm2,Zm9,Zna,Znb,Zne,Znf,Zng,Znh,Znl,Znm,Znn,Zno,Znp,Zos,Zou,Zo7,Zo8,Zpc,List.length_append,eq_self,true_and,and_true,callable_10]
  tactic =>
  refine cl none (h2) trivial ?_
  sym =>
  simp [Zab,Zad,Zak,Zam,Zaz,Za0,Za1,Za2,Za3,Za4,Za5,Za6,Za7,Za9,Zba,Zbb,Zbd,Zbf,Zbp,Zbr,Zb7,Zcn,Zcz,Zdc,Zdd,Zde,Zdi,Zev,Zew,Zex,Zez,Ze0,Ze2,Ze3,Ze5,Ze9,Zfc,Zfd,Zfe,Zfh,Zfi,Zfl,Zfn,Zfz,Zf8,Zgl,Zgm,Zgo,Zgp,Zgq,Zhb,Zhc,Zhf,Zhg,Zhh,Zh6,Zh7,Ziq,Zir,Zi7,Zjl,Zjm,Zjp,Zjr,Zjw,Zka,Zkb,Zky,Zk0,Zk4,Zla,Zlb,Zle,Zlj,Zll,Zlt,Zlx,Zlz,Zl2,Zl3,Zl4,Zmt,Zmv,Zmw,Zmx,Zmz,Zm2,Zm9,Zna,Znb,Zne,Znf,Zng,Znh,Znl,Znm,Znn,Zno,Znp,Zos,Zou,Zo7,Zo8,Zpc,List.length_append,eq_self,true_and,and_true]
  tactic =>
  have hI5 : IN f.length = 512 := by rw [hfl]; rfl
  rw [hI5, if_pos rfl]
  sym =>
  simp [Zab,Zad,Zak,Zam,Zaz,Za0,Za1,Za2,Za3,Za4,Za5,Za6,Za7,Za9,Zba,Zbb,Zbd,Zbf,Zbp,Zbr,Zb7,Zcn,Zcz,Zdc,Zdd,Zde,Zdi,Zev,Zew,Zex,Zez,Ze0,Ze2,Ze3,Ze5,Ze9,Zfc,Zfd,Zfe,Zfh,Zfi,Zfl,Zfn,Zfz,Zf8,Zgl,Zgm,Zgo,Zgp,Zgq,Zhb,Zhc,Zhf,Zhg,Zhh,Zh6,Zh7,Ziq,Zir,Zi7,Zjl,Zjm,Zjp,Zjr,Zjw,Zka,Zkb,Zky,Zk0,Zk4,Zla,Zlb,Zle,Zlj,Zll,Zlt,Zlx,Zlz,Zl2,Zl3,Zl4,Zmt,Zmv,Zmw,Zmx,Zmz,Zm2,Zm9,Zna,Znb,Zne,Znf,Zng,Znh,Znl,Znm,Znn,Zno,Znp,Zos,Zou,Zo7,Zo8,Zpc,List.length_append,eq_self,true_and,and_true,hs,hso,hla,callable_7]
  tactic =>
  refine cl none (h3) trivial ?_
  sym =>
  simp [Zab,Zad,Zak,Zam,Zaz,Za0,Za1,Za2,Za3,Za4,Za5,Za6,Za7,Za9,Zba,Zbb,Zbd,Zbf,Zbp,Zbr,Zb7,Zcn,Zcz,Zdc,Zdd,Zde,Zdi,Zev,Zew,Zex,Zez,Ze0,Ze2,Ze3,Ze5,Ze9,Zfc,Zfd,Zfe,Zfh,Zfi,Zfl,Zfn,Zfz,Zf8,Zgl,Zgm,Zgo,Zgp,Zgq,Zhb,Zhc,Zhf,Zhg,Zhh,Zh6,Zh7,Ziq,Zir,Zi7,Zjl,Zjm,Zjp,Zjr,Zjw,Zka,Zkb,Zky,Zk0,Zk4,Zla,Zlb,Zle,Zlj,Zll,Zlt,Zlx,Zlz,Zl2,Zl3,Zl4,Zmt,Zmv,Zmw,Zmx,Zmz,Zm2,Zm9,Zna,Znb,Zne,Znf,Zng,Znh,Znl,Znm,Znn,Zno,Znp,Zos,Zou,Zo7,Zo8,Zpc,List.length_append,eq_self,true_and,and_true,callable_11]
  tactic =>
  refine cl none (h4) trivial ?_
  sym =>
  simp [Zab,Zad,Zak,Zam,Zaz,Za0,Za1,Za2,Za3,Za4,Za5,Za6,Za7,Za9,Zba,Zbb,Zbd,Zbf,Zbp,Zbr,Zb7,Zcn,Zcz,Zdc,Zdd,Zde,Zdi,Zev,Zew,Zex,Zez,Ze0,Ze2,Ze3,Ze5,Ze9,Zfc,Zfd,Zfe,Zfh,Zfi,Zfl,Zfn,Zfz,Zf8,Zgl,Zgm,Zgo,Zgp,Zgq,Zhb,Zhc,Zhf,Zhg,Zhh,Zh6,Zh7,Ziq,Zir,Zi7,Zjl,Zjm,Zjp,Zjr,Zjw,Zka,Zkb,Zky,Zk0,Zk4,Zla,Zlb,Zle,Zlj,Zll,Zlt,Zlx,Zlz,Zl2,Zl3,Zl4,Zmt,Zmv,Zmw,Zmx,Zmz,Zm2,Zm9,Zna,Znb,Zne,Znf,Zng,Znh,Znl,Znm,Znn,Zno,Znp,Zos,Zou,Zo7,Zo8,Zpc,List.length_append,eq_self,true_and,and_true]
  tactic =>
  have hI6 : IN (zs q).length = 1024 := by rw [hzq, hq]; rfl
  rw [hI6, if_pos rfl]
  sym =>
  simp [Zab,Zad,Zak,Zam,Zaz,Za0,Za1,Za2,Za3,Za4,Za5,Za6,Za7,Za9,Zba,Zbb,Zbd,Zbf,Zbp,Zbr,Zb7,Zcn,Zcz,Zdc,Zdd,Zde,Zdi,Zev,Zew,Zex,Zez,Ze0,Ze2,Ze3,Ze5,Ze9,Zfc,Zfd,Zfe,Zfh,Zfi,Zfl,Zfn,Zfz,Zf8,Zgl,Zgm,Zgo,Zgp,Zgq,Zhb,Zhc,Zhf,Zhg,Zhh,Zh6,Zh7,Ziq,Zir,Zi7,Zjl,Zjm,Zjp,Zjr,Zjw,Zka,Zkb,Zky,Zk0,Zk4,Zla,Zlb,Zle,Zlj,Zll,Zlt,Zlx,Zlz,Zl2,Zl3,Zl4,Zmt,Zmv,Zmw,Zmx,Zmz,Zm2,Zm9,Zna,Znb,Zne,Znf,Zng,Znh,Znl,Znm,Znn,Zno,Znp,Zos,Zou,Zo7,Zo8,Zpc,List.length_append,eq_self,true_and,and_true,callable_13]
  tactic =>
  refine cl none (h5) trivial ?_
  sym =>
  simp [Zab,Zad,Zak,Zam,Zaz,Za0,Za1,Za2,Za3,Za4,Za5,Za6,Za7,Za9,Zba,Zbb,Zbd,Zbf,Zbp,Zbr,Zb7,Zcn,Zcz,Zdc,Zdd,Zde,Zdi,Zev,Zew,Zex,Zez,Ze0,Ze2,Ze3,Ze5,Ze9,Zfc,Zfd,Zfe,Zfh,Zfi,Zfl,Zfn,Zfz,Zf8,Zgl,Zgm,Zgo,Zgp,Zgq,Zhb,Zhc,Zhf,Zhg,Zhh,Zh6,Zh7,Ziq,Zir,Zi7,Zjl,Zjm,Zjp,Zjr,Zjw,Zka,Zkb,Zky,Zk0,Zk4,Zla,Zlb,Zle,Zlj,Zll,Zlt,Zlx,Zlz,Zl2,Zl3,Zl4,Zmt,Zmv,Zmw,Zmx,Zmz,Zm2,Zm9,Zna,Znb,Zne,Znf,Zng,Znh,Znl,Znm,Znn,Zno,Znp,Zos,Zou,Zo7,Zo8,Zpc,List.length_append,eq_self,true_and,and_true,callable_8]
  tactic =>
  refine cl none (h6) trivial ?_
  sym =>
  simp [Zab,Zad,Zak,Zam,Zaz,Za0,Za1,Za2,Za3,Za4,Za5,Za6,Za7,Za9,Zba,Zbb,Zbd,Zbf,Zbp,Zbr,Zb7,Zcn,Zcz,Zdc,Zdd,Zde,Zdi,Zev,Zew,Zex,Zez,Ze0,Ze2,Ze3,Ze5,Ze9,Zfc,Zfd,Zfe,Zfh,Zfi,Zfl,Zfn,Zfz,Zf8,Zgl,Zgm,Zgo,Zgp,Zgq,Zhb,Zhc,Zhf,Zhg,Zhh,Zh6,Zh7,Ziq,Zir,Zi7,Zjl,Zjm,Zjp,Zjr,Zjw,Zka,Zkb,Zky,Zk0,Zk4,Zla,Zlb,Zle,Zlj,Zll,Zlt,Zlx,Zlz,Zl2,Zl3,Zl4,Zmt,Zmv,Zmw,Zmx,Zmz,Zm2,Zm9,Zna,Znb,Zne,Znf,Zng,Znh,Znl,Znm,Znn,Zno,Znp,Zos,Zou,Zo7,Zo8,Zpc,List.length_append,eq_self,true_and,and_true]
  tactic =>
  refine endA ?_
  sym =>
  simp [Zab,Zad,Zak,Zam,Zaz,Za0,Za1,Za2,Za3,Za4,Za5,Za6,Za7,Za9,Zba,Zbb,Zbd,Zbf,Zbp,Zbr,Zb7,Zcn,Zcz,Zdc,Zdd,Zde,Zdi,Zev,Zew,Zex,Zez,Ze0,Ze2,Ze3,Ze5,Ze9,Zfc,Zfd,Zfe,Zfh,Zfi,Zfl,Zfn,Zfz,Zf8,Zgl,Zgm,Zgo,Zgp,Zgq,Zhb,Zhc,Zhf,Zhg,Zhh,Zh6,Zh7,Ziq,Zir,Zi7,Zjl,Zjm,Zjp,Zjr,Zjw,Zka,Zkb,Zky,Zk0,Zk4,Zla,Zlb,Zle,Zlj,Zll,Zlt,Zlx,Zlz,Zl2,Zl3,Zl4,Zmt,Zmv,Zmw,Zmx,Zmz,Zm2,Zm9,Zna,Znb,Zne,Znf,Zng,Znh,Znl,Znm,Znn,Zno,Znp,Zos,Zou,Zo7,Zo8,Zpc,List.length_append,eq_self,true_and,and_true]
def i4 (b t f z : List Int) (k : Nat) (s : St) : Prop := ∃ i : Nat, i + k = z.length ∧ s = ⟨[(0, fB b), (5, fB f), (6, I (IN b.length)), (7, fB b), (8, I 0), (9, fB z), (35, fB z), (36, I (IN z.length)), (37, I (IN i))], [], 0⟩
theorem back_law (b t : List Int) (hb : byt8 b) (ht : byt8 t) : Con Tryd.prog 4 [] [fB b, fB t] [] (Bo true) := by
  by_cases hg : 2000 < IN b.length
  · refine con_j b4 rfl ?_
    sym =>
    simp [Zaa,Zab,Zad,Zae,Zaf,Zag,Zah,Zai,Zak,Zal,Zam,Zan,Zao,Zap,Zaq,Zav,Zaw,Zay,Zaz,Za0,Za1,Za2,Za3,Za4,Za5,Za6,Za7,Za8,Za9,Zba,Zbb,Zbd,Zbf,Zbt,Zb1,Zb7,Zcn,Zc5,Zdc,Zdd,Zde,Zdi,Zev,Zew,Zex,Zez,Ze0,Ze2,Ze3,Ze4,Ze5,Zfc,Zfd,Zfe,Zff,Zfg,Zfh,Zfi,Zfj,Zfl,Zfn,Zfq,Zfs,Zfz,Zf0,Zf1,Zf3,Zgr,Zgu,Zg4,Zg6,Zhb,Zhc,Zho,Zh6,Zh7,Zix,Ziy,Ziz,Zi0,Zi1,Zjr,Zjw,Zka,Zkb,Zky,Zk0,Zk4,Zla,Zlb,Zle,Zlj,Zll,Zlt,Zlx,Zlz,Zl2,Zl3,Zl4,Zmt,Zmv,Zmw,Zmx,Zmz,Zm2,Zm6,Zm9,Zna,Znb,Zne,Znf,Zng,Znh,Zns,Znt,Znw,Zn1,Zn5,Zod,Zos,Zot,Zou,Zov,Zo3,Zo6,Zo7,Zo8,Zo9,Zpc,Zpi,Zqf,Zqg,Zqh,Zqm,List.append_assoc,List.length_append,eq_self,true_and,and_true,Nat.zero_add,Nat.mul_one]
    tactic =>
    simp only [eq_true hg]
    sym =>
    simp [Zaa,Zab,Zad,Zae,Zaf,Zag,Zah,Zai,Zak,Zal,Zam,Zan,Zao,Zap,Zaq,Zav,Zaw,Zay,Zaz,Za0,Za1,Za2,Za3,Za4,Za5,Za6,Za7,Za8,Za9,Zba,Zbb,Zbd,Zbf,Zbt,Zb1,Zb7,Zcn,Zc5,Zdc,Zdd,Zde,Zdi,Zev,Zew,Zex,Zez,Ze0,Ze2,Ze3,Ze4,Ze5,Zfc,Zfd,Zfe,Zff,Zfg,Zfh,Zfi,Zfj,Zfl,Zfn,Zfq,Zfs,Zfz,Zf0,Zf1,Zf3,Zgr,Zgu,Zg4,Zg6,Zhb,Zhc,Zho,Zh6,Zh7,Zix,Ziy,Ziz,Zi0,Zi1,Zjr,Zjw,Zka,Zkb,Zky,Zk0,Zk4,Zla,Zlb,Zle,Zlj,Zll,Zlt,Zlx,Zlz,Zl2,Zl3,Zl4,Zmt,Zmv,Zmw,Zmx,Zmz,Zm2,Zm6,Zm9,Zna,Znb,Zne,Znf,Zng,Znh,Zns,Znt,Znw,Zn1,Zn5,Zod,Zos,Zot,Zou,Zov,Zo3,Zo6,Zo7,Zo8,Zo9,Zpc,Zpi,Zqf,Zqg,Zqh,Zqm,List.append_assoc,List.length_append,eq_self,true_and,and_true,Nat.zero_add,Nat.mul_one,callable_5]
    tactic =>
    refine cl none (alive_con) trivial ?_
    sym =>
    simp [Zaa,Zab,Zad,Zae,Zaf,Zag,Zah,Zai,Zak,Zal,Zam,Zan,Zao,Zap,Zaq,Zav,Zaw,Zay,Zaz,Za0,Za1,Za2,Za3,Za4,Za5,Za6,Za7,Za8,Za9,Zba,Zbb,Zbd,Zbf,Zbt,Zb1,Zb7,Zcn,Zc5,Zdc,Zdd,Zde,Zdi,Zev,Zew,Zex,Zez,Ze0,Ze2,Ze3,Ze4,Ze5,Zfc,Zfd,Zfe,Zff,Zfg,Zfh,Zfi,Zfj,Zfl,Zfn,Zfq,Zfs,Zfz,Zf0,Zf1,Zf3,Zgr,Zgu,Zg4,Zg6,Zhb,Zhc,Zho,Zh6,Zh7,Zix,Ziy,Ziz,Zi0,Zi1,Zjr,Zjw,Zka,Zkb,Zky,Zk0,Zk4,Zla,Zlb,Zle,Zlj,Zll,Zlt,Zlx,Zlz,Zl2,Zl3,Zl4,Zmt,Zmv,Zmw,Zmx,Zmz,Zm2,Zm6,Zm9,Zna,Znb,Zne,Znf,Zng,Znh,Zns,Znt,Znw,Zn1,Zn5,Zod,Zos,Zot,Zou,Zov,Zo3,Zo6,Zo7,Zo8,Zo9,Zpc,Zpi,Zqf,Zqg,Zqh,Zqm,List.append_assoc,List.length_append,eq_self,true_and,and_true,Nat.zero_add,Nat.mul_one]
    tactic =>
    refine endA ?_
    sym =>
    simp [Zaa,Zab,Zad,Zae,Zaf,Zag,Zah,Zai,Zak,Zal,Zam,Zan,Zao,Zap,Zaq,Zav,Zaw,Zay,Zaz,Za0,Za1,Za2,Za3,Za4,Za5,Za6,Za7,Za8,Za9,Zba,Zbb,Zbd,Zbf,Zbt,Zb1,Zb7,Zcn,Zc5,Zdc,Zdd,Zde,Zdi,Zev,Zew,Zex,Zez,Ze0,Ze2,Ze3,Ze4,Ze5,Zfc,Zfd,Zfe,Zff,Zfg,Zfh,Zfi,Zfj,Zfl,Zfn,Zfq,Zfs,Zfz,Zf0,Zf1,Zf3,Zgr,Zgu,Zg4,Zg6,Zhb,Zhc,Zho,Zh6,Zh7,Zix,Ziy,Ziz,Zi0,Zi1,Zjr,Zjw,Zka,Zkb,Zky,Zk0,Zk4,Zla,Zlb,Zle,Zlj,Zll,Zlt,Zlx,Zlz,Zl2,Zl3,Zl4,Zmt,Zmv,Zmw,Zmx,Zmz,Zm2,Zm6,Zm9,Zna,Znb,Zne,Znf,Zng,Znh,Zns,Znt,Znw,Zn1,Zn5,Zod,Zos,Zot,Zou,Zov,Zo3,Zo6,Zo7,Zo8,Zo9,Zpc,Zpi,Zqf,Zqg,Zqh,Zqm,List.append_assoc,List.length_append,eq_self,true_and,and_true,Nat.zero_add,Nat.mul_one]
  by_cases hg2 : 1000 < IN t.length
  · refine con_j b4 rfl ?_
    sym =>
    simp [Zaa,Zab,Zad,Zae,Zaf,Zag,Zah,Zai,Zak,Zal,Zam,Zan,Zao,Zap,Zaq,Zav,Zaw,Zay,Zaz,Za0,Za1,Za2,Za3,Za4,Za5,Za6,Za7,Za8,Za9,Zba,Zbb,Zbd,Zbf,Zbt,Zb1,Zb7,Zcn,Zc5,Zdc,Zdd,Zde,Zdi,Zev,Zew,Zex,Zez,Ze0,Ze2,Ze3,Ze4,Ze5,Zfc,Zfd,Zfe,Zff,Zfg,Zfh,Zfi,Zfj,Zfl,Zfn,Zfq,Zfs,Zfz,Zf0,Zf1,Zf3,Zgr,Zgu,Zg4,Zg6,Zhb,Zhc,Zho,Zh6,Zh7,Zix,Ziy,Ziz,Zi0,Zi1,Zjr,Zjw,Zka,Zkb,Zky,Zk0,Zk4,Zla,Zlb,Zle,Zlj,Zll,Zlt,Zlx,Zlz,Zl2,Zl3,Zl4,Zmt,Zmv,Zmw,Zmx,Zmz,Zm2,Zm6,Zm9,Zna,Znb,Zne,Znf,Zng,Znh,Zns,Znt,Znw,Zn1,Zn5,Zod,Zos,Zot,Zou,Zov,Zo3,Zo6,Zo7,Zo8,Zo9,Zpc,Zpi,Zqf,Zqg,Zqh,Zqm,List.append_assoc,List.length_append,eq_self,true_and,and_true,Nat.zero_add,Nat.mul_one]
    tactic =>
    simp only [eq_false hg]
    sym =>
    simp [Zaa,Zab,Zad,Zae,Zaf,Zag,Zah,Zai,Zak,Zal,Zam,Zan,Zao,Zap,Zaq,Zav,Zaw,Zay,Zaz,Za0,Za1,Za2,Za3,Za4,Za5,Za6,Za7,Za8,Za9,Zba,Zbb,Zbd,Zbf,Zbt,Zb1,Zb7,Zcn,Zc5,Zdc,Zdd,Zde,Zdi,Zev,Zew,Zex,Zez,Ze0,Ze2,Ze3,Ze4,Ze5,Zfc,Zfd,Zfe,Zff,Zfg,Zfh,Zfi,Zfj,Zfl,Zfn,Zfq,Zfs,Zfz,Zf0,Zf1,Zf3,Zgr,Zgu,Zg4,Zg6,Zhb,Zhc,Zho,Zh6,Zh7,Zix,Ziy,Ziz,Zi0,Zi1,Zjr,Zjw,Zka,Zkb,Zky,Zk0,Zk4,Zla,Zlb,Zle,Zlj,Zll,Zlt,Zlx,Zlz,Zl2,Zl3,Zl4,Zmt,Zmv,Zmw,Zmx,Zmz,Zm2,Zm6,Zm9,Zna,Znb,Zne,Znf,Zng,Znh,Zns,Znt,Znw,Zn1,Zn5,Zod,Zos,Zot,Zou,Zov,Zo3,Zo6,Zo7,Zo8,Zo9,Zpc,Zpi,Zqf,Zqg,Zqh,Zqm,List.append_assoc,List.length_append,eq_self,true_and,and_true,Nat.zero_add,Nat.mul_one]
    tactic =>
    simp only [eq_true hg2]
    sym =>
    simp [Zaa,Zab,Zad,Zae,Zaf,Zag,Zah,Zai,Zak,Zal,Zam,Zan,Zao,Zap,Zaq,Zav,Zaw,Zay,Zaz,Za0,Za1,Za2,Za3,Za4,Za5,Za6,Za7,Za8,Za9,Zba,Zbb,Zbd,Zbf,Zbt,Zb1,Zb7,Zcn,Zc5,Zdc,Zdd,Zde,Zdi,Zev,Zew,Zex,Zez,Ze0,Ze2,Ze3,Ze4,Ze5,Zfc,Zfd,Zfe,Zff,Zfg,Zfh,Zfi,Zfj,Zfl,Zfn,Zfq,Zfs,Zfz,Zf0,Zf1,Zf3,Zgr,Zgu,Zg4,Zg6,Zhb,Zhc,Zho,Zh6,Zh7,Zix,Ziy,Ziz,Zi0,Zi1,Zjr,Zjw,Zka,Zkb,Zky,Zk0,Zk4,Zla,Zlb,Zle,Zlj,Zll,Zlt,Zlx,Zlz,Zl2,Zl3,Zl4,Zmt,Zmv,Zmw,Zmx,Zmz,Zm2,Zm6,Zm9,Zna,Znb,Zne,Znf,Zng,Znh,Zns,Znt,Znw,Zn1,Zn5,Zod,Zos,Zot,Zou,Zov,Zo3,Zo6,Zo7,Zo8,Zo9,Zpc,Zpi,Zqf,Zqg,Zqh,Zqm,List.append_assoc,List.length_append,eq_self,true_and,and_true,Nat.zero_add,Nat.mul_one,callable_5]
    tactic =>
    refine cl none (alive_con) trivial ?_
    sym =>
    simp [Zaa,Zab,Zad,Zae,Zaf,Zag,Zah,Zai,Zak,Zal,Zam,Zan,Zao,Zap,Zaq,Zav,Zaw,Zay,Zaz,Za0,Za1,Za2,Za3,Za4,Za5,Za6,Za7,Za8,Za9,Zba,Zbb,Zbd,Zbf,Zbt,Zb1,Zb7,Zcn,Zc5,Zdc,Zdd,Zde,Zdi,Zev,Zew,Zex,Zez,Ze0,Ze2,Ze3,Ze4,Ze5,Zfc,Zfd,Zfe,Zff,Zfg,Zfh,Zfi,Zfj,Zfl,Zfn,Zfq,Zfs,Zfz,Zf0,Zf1,Zf3,Zgr,Zgu,Zg4,Zg6,Zhb,Zhc,Zho,Zh6,Zh7,Zix,Ziy,Ziz,Zi0,Zi1,Zjr,Zjw,Zka,Zkb,Zky,Zk0,Zk4,Zla,Zlb,Zle,Zlj,Zll,Zlt,Zlx,Zlz,Zl2,Zl3,Zl4,Zmt,Zmv,Zmw,Zmx,Zmz,Zm2,Zm6,Zm9,Zna,Znb,Zne,Znf,Zng,Znh,Zns,Znt,Znw,Zn1,Zn5,Zod,Zos,Zot,Zou,Zov,Zo3,Zo6,Zo7,Zo8,Zo9,Zpc,Zpi,Zqf,Zqg,Zqh,Zqm,List.append_assoc,List.length_append,eq_self,true_and,and_true,Nat.zero_add,Nat.mul_one]
    tactic =>
    refine endA ?_
    sym =>
    simp [Zaa,Zab,Zad,Zae,Zaf,Zag,Zah,Zai,Zak,Zal,Zam,Zan,Zao,Zap,Zaq,Zav,Zaw,Zay,Zaz,Za0,Za1,Za2,Za3,Za4,Za5,Za6,Za7,Za8,Za9,Zba,Zbb,Zbd,Zbf,Zbt,Zb1,Zb7,Zcn,Zc5,Zdc,Zdd,Zde,Zdi,Zev,Zew,Zex,Zez,Ze0,Ze2,Ze3,Ze4,Ze5,Zfc,Zfd,Zfe,Zff,Zfg,Zfh,Zfi,Zfj,Zfl,Zfn,Zfq,Zfs,Zfz,Zf0,Zf1,Zf3,Zgr,Zgu,Zg4,Zg6,Zhb,Zhc,Zho,Zh6,Zh7,Zix,Ziy,Ziz,Zi0,Zi1,Zjr,Zjw,Zka,Zkb,Zky,Zk0,Zk4,Zla,Zlb,Zle,Zlj,Zll,Zlt,Zlx,Zlz,Zl2,Zl3,Zl4,Zmt,Zmv,Zmw,Zmx,Zmz,Zm2,Zm6,Zm9,Zna,Znb,Zne,Znf,Zng,Znh,Zns,Znt,Znw,Zn1,Zn5,Zod,Zos,Zot,Zou,Zov,Zo3,Zo6,Zo7,Zo8,Zo9,Zpc,Zpi,Zqf,Zqg,Zqh,Zqm,List.append_assoc,List.length_append,eq_self,true_and,and_true,Nat.zero_add,Nat.mul_one]
  have hbl : b.length ≤ 2000 := by simp only [IN] at hg; omega
  have htl : t.length ≤ 1000 := by simp only [IN] at hg2; omega
  have hbd := pad_bd b.length
  obtain ⟨m, hm⟩ : ∃ m : Nat, padI b.length = IN m := ⟨(padI b.length).toNat, by simp only [IN]; omega⟩
  have hm0 : (m : Int) = padI b.length := hm.symm
  have hm5 : m < 512 := by omega
  have hmt : (padI b.length).toNat = m := by rw [hm]; rfl
  have h1 := fill_con b (by omega)
  rw [hmt] at h1
  have hzl := zs_length m
  have hfl : (b ++ zs m).length = b.length + m := by rw [List.length_append, hzl]
  have hcnt : 512 * cntI b.length = (b.length : Int) + m := by
    by_cases h : (b.length : Int) < 1
    · unfold cntI; rw [if_pos h]
      have : padI b.length = 0 := by unfold padI; rw [if_pos h]
      omega
    · rw [cnt_pad b.length (by omega)]; omega
  have h2 := open_con b (zs m ++ t) (by rw [List.length_append, hzl]; omega) (by rw [List.length_append, List.length_append, hzl]; omega)
  have h3 := clean_con b m hm (by omega)
  have h4 := nsame_con b b (by omega)
  rw [decide_eq_true rfl] at h4
  have h5 := count_con (IN b.length) (by simp only [IN]; omega)
  have h6 := pad_con (IN b.length) (by simp only [IN]; omega)
  have h6' : padI (IN b.length) = IN m := hm
  rw [h6'] at h6
  have h7 := end_con
  obtain ⟨q, hq⟩ : ∃ q : Nat, q = 1024 := ⟨_, rfl⟩
  rw [← hq] at h7
  have hzq := zs_length q
  obtain ⟨f, hf⟩ : ∃ f, f = b ++ zs m := ⟨_, rfl⟩
  rw [← hf] at h1 h3 hfl
  have hft : b ++ (zs m ++ t) = f ++ t := by rw [hf, List.append_assoc]
  rw [hft] at h2
  have hcf := cB_length f
  have hct := cB_length t
  have hoF := cB_okF f
  have hoT := cB_okF t
  refine con_j b4 rfl ?_
  sym =>
  simp [Zaa,Zab,Zad,Zae,Zaf,Zag,Zah,Zai,Zak,Zal,Zam,Zan,Zao,Zap,Zaq,Zav,Zaw,Zay,Zaz,Za0,Za1,Za2,Za3,Za4,Za5,Za6,Za7,Za8,Za9,Zba,Zbb,Zbd,Zbf,Zbt,Zb1,Zb7,Zcn,Zc5,Zdc,Zdd,Zde,Zdi,Zev,Zew,Zex,Zez,Ze0,Ze2,Ze3,Ze4,Ze5,Zfc,Zfd,Zfe,Zff,Zfg,Zfh,Zfi,Zfj,Zfl,Zfn,Zfq,Zfs,Zfz,Zf0,Zf1,Zf3,Zgr,Zgu,Zg4,Zg6,Zhb,Zhc,Zho,Zh6,Zh7,Zix,Ziy,Ziz,Zi0,Zi1,Zjr,Zjw,Zka,Zkb,Zky,Zk0,Zk4,Zla,Zlb,Zle,Zlj,Zll,Zlt,Zlx,Zlz,Zl2,Zl3,Zl4,Zmt,Zmv,Zmw,Zmx,Zmz,Zm2,Zm6,Zm9,Zna,Znb,Zne,Znf,Zng,Znh,Zns,Znt,Znw,Zn1,Zn5,Zod,Zos,Zot,Zou,Zov,Zo3,Zo6,Zo7,Zo8,Zo9,Zpc,Zpi,Zqf,Zqg,Zqh,Zqm,List.append_assoc,List.length_append,eq_self,true_and,and_true,Nat.zero_add,Nat.mul_one]
  tactic =>
  simp only [eq_false hg]
  sym =>
  simp [Zaa,Zab,Zad,Zae,Zaf,Zag,Zah,Zai,Zak,Zal,Zam,Zan,Zao,Zap,Zaq,Zav,Zaw,Zay,Zaz,Za0,Za1,Za2,Za3,Za4,Za5,Za6,Za7,Za8,Za9,Zba,Zbb,Zbd,Zbf,Zbt,Zb1,Zb7,Zcn,Zc5,Zdc,Zdd,Zde,Zdi,Zev,Zew,Zex,Zez,Ze0,Ze2,Ze3,Ze4,Ze5,Zfc,Zfd,Zfe,Zff,Zfg,Zfh,Zfi,Zfj,Zfl,Zfn,Zfq,Zfs,Zfz,Zf0,Zf1,Zf3,Zgr,Zgu,Zg4,Zg6,Zhb,Zhc,Zho,Zh6,Zh7,Zix,Ziy,Ziz,Zi0,Zi1,Zjr,Zjw,Zka,Zkb,Zky,Zk0,Zk4,Zla,Zlb,Zle,Zlj,Zll,Zlt,Zlx,Zlz,Zl2,Zl3,Zl4,Zmt,Zmv,Zmw,Zmx,Zmz,Zm2,Zm6,Zm9,Zna,Znb,Zne,Znf,Zng,Znh,Zns,Znt,Znw,Zn1,Zn5,Zod,Zos,Zot,Zou,Zov,Zo3,Zo6,Zo7,Zo8,Zo9,Zpc,Zpi,Zqf,Zqg,Zqh,Zqm,List.append_assoc,List.length_append,eq_self,true_and,and_true,Nat.zero_add,Nat.mul_one]
  tactic =>
  simp only [eq_false hg2]
  sym =>
  simp [Zaa,Zab,Zad,Zae,Zaf,Zag,Zah,Zai,Zak,Zal,Zam,Zan,Zao,Zap,Zaq,Zav,Zaw,Zay,Zaz,Za0,Za1,Za2,Za3,Za4,Za5,Za6,Za7,Za8,Za9,Zba,Zbb,Zbd,Zbf,Zbt,Zb1,Zb7,Zcn,Zc5,Zdc,Zdd,Zde,Zdi,Zev,Zew,Zex,Zez,Ze0,Ze2,Ze3,Ze4,Ze5,Zfc,Zfd,Zfe,Zff,Zfg,Zfh,Zfi,Zfj,Zfl,Zfn,Zfq,Zfs,Zfz,Zf0,Zf1,Zf3,Zgr,Zgu,Zg4,Zg6,Zhb,Zhc,Zho,Zh6,Zh7,Zix,Ziy,Ziz,Zi0,Zi1,Zjr,Zjw,Zka,Zkb,Zky,Zk0,Zk4,Zla,Zlb,Zle,Zlj,Zll,Zlt,Zlx,Zlz,Zl2,Zl3,Zl4,Zmt,Zmv,Zmw,Zmx,Zmz,Zm2,Zm6,Zm9,Zna,Znb,Zne,Znf,Zng,Znh,Zns,Znt,Znw,Zn1,Zn5,Zod,Zos,Zot,Zou,Zov,Zo3,Zo6,Zo7,Zo8,Zo9,Zpc,Zpi,Zqf,Zqg,Zqh,Zqm,List.append_assoc,List.length_append,eq_self,true_and,and_true,Nat.zero_add,Nat.mul_one,callable_9]
  tactic =>
  refine cl none (h1) trivial ?_
  sym =>
  simp [Zaa,Zab,Zad,Zae,Zaf,Zag,Zah,Zai,Zak,Zal,Zam,Zan,Zao,Zap,Zaq,Zav,Zaw,Zay,Zaz,Za0,Za1,Za2,Za3,Za4,Za5,Za6,Za7,Za8,Za9,Zba,Zbb,Zbd,Zbf,Zbt,Zb1,Zb7,Zcn,Zc5,Zdc,Zdd,Zde,Zdi,Zev,Zew,Zex,Zez,Ze0,Ze2,Ze3,Ze4,Ze5,Zfc,Zfd,Zfe,Zff,Zfg,Zfh,Zfi,Zfj,Zfl,Zfn,Zfq,Zfs,Zfz,Zf0,Zf1,Zf3,Zgr,Zgu,Zg4,Zg6,Zhb,Zhc,Zho,Zh6,Zh7,Zix,Ziy,Ziz,Zi0,Zi1,Zjr,Zjw,Zka,Zkb,Zky,Zk0,Zk4,Zla,Zlb,Zle,Zlj,Zll,Zlt,Zlx,Zlz,Zl2,Zl3,Zl4,Zmt,Zmv,Zmw,Zmx,Zmz,Zm2,Zm6,Zm9,Zna,Znb,Zne,Znf,Zng,Znh,Zns,Znt,Znw,Zn1,Zn5,Zod,Zos,Zot,Zou,Zov,Zo3,Zo6,Zo7,Zo8,Zo9,Zpc,Zpi,Zqf,Zqg,Zqh,Zqm,List.append_assoc,List.length_append,eq_self,true_and,and_true,Nat.zero_add,Nat.mul_one,hcf,hct]
  tactic =>
  have htk : List.take (f.length + t.length) (cB f ++ cB t) = cB (f ++ t) := by
    rw [List.take_of_length_le (by rw [List.length_append, hcf, hct]; exact Nat.le_refl _), cB_append]
  have hftl : (f ++ t).length = f.length + t.length := List.length_append
  rw [htk]
  refine ⟨⟨hoF, by omega, by omega⟩, ⟨hoT, by omega, by omega, by omega⟩, callable_10, ⟨Nat.le_refl _, cB_okI _, cB_okI _⟩, ?_⟩
  rw [hftl] at h2
  refine cl none (h2) trivial ?_
  sym =>
  simp [Zaa,Zab,Zad,Zae,Zaf,Zag,Zah,Zai,Zak,Zal,Zam,Zan,Zao,Zap,Zaq,Zav,Zaw,Zay,Zaz,Za0,Za1,Za2,Za3,Za4,Za5,Za6,Za7,Za8,Za9,Zba,Zbb,Zbd,Zbf,Zbt,Zb1,Zb7,Zcn,Zc5,Zdc,Zdd,Zde,Zdi,Zev,Zew,Zex,Zez,Ze0,Ze2,Ze3,Ze4,Ze5,Zfc,Zfd,Zfe,Zff,Zfg,Zfh,Zfi,Zfj,Zfl,Zfn,Zfq,Zfs,Zfz,Zf0,Zf1,Zf3,Zgr,Zgu,Zg4,Zg6,Zhb,Zhc,Zho,Zh6,Zh7,Zix,Ziy,Ziz,Zi0,Zi1,Zjr,Zjw,Zka,Zkb,Zky,Zk0,Zk4,Zla,Zlb,Zle,Zlj,Zll,Zlt,Zlx,Zlz,Zl2,Zl3,Zl4,Zmt,Zmv,Zmw,Zmx,Zmz,Zm2,Zm6,Zm9,Zna,Znb,Zne,Znf,Zng,Znh,Zns,Znt,Znw,Zn1,Zn5,Zod,Zos,Zot,Zou,Zov,Zo3,Zo6,Zo7,Zo8,Zo9,Zpc,Zpi,Zqf,Zqg,Zqh,Zqm,List.append_assoc,List.length_append,eq_self,true_and,and_true,Nat.zero_add,Nat.mul_one,callable_11]
  tactic =>
  refine cl none (h7) trivial ?_
  sym =>
  simp [Zaa,Zab,Zad,Zae,Zaf,Zag,Zah,Zai,Zak,Zal,Zam,Zan,Zao,Zap,Zaq,Zav,Zaw,Zay,Zaz,Za0,Za1,Za2,Za3,Za4,Za5,Za6,Za7,Za8,Za9,Zba,Zbb,Zbd,Zbf,Zbt,Zb1,Zb7,Zcn,Zc5,Zdc,Zdd,Zde,Zdi,Zev,Zew,Zex,Zez,Ze0,Ze2,Ze3,Ze4,Ze5,Zfc,Zfd,Zfe,Zff,Zfg,Zfh,Zfi,Zfj,Zfl,Zfn,Zfq,Zfs,Zfz,Zf0,Zf1,Zf3,Zgr,Zgu,Zg4,Zg6,Zhb,Zhc,Zho,Zh6,Zh7,Zix,Ziy,Ziz,Zi0,Zi1,Zjr,Zjw,Zka,Zkb,Zky,Zk0,Zk4,Zla,Zlb,Zle,Zlj,Zll,Zlt,Zlx,Zlz,Zl2,Zl3,Zl4,Zmt,Zmv,Zmw,Zmx,Zmz,Zm2,Zm6,Zm9,Zna,Znb,Zne,Znf,Zng,Znh,Zns,Znt,Znw,Zn1,Zn5,Zod,Zos,Zot,Zou,Zov,Zo3,Zo6,Zo7,Zo8,Zo9,Zpc,Zpi,Zqf,Zqg,Zqh,Zqm,List.append_assoc,List.length_append,eq_self,true_and,and_true,Nat.zero_add,Nat.mul_one]
  tactic =>
  refine lpA (i4 b t f (zs q)) (zs q).length [] _ ⟨0, by omega, rfl⟩ (wkA ?_) ?_
  · sym =>
    simp [Zaa,Zab,Zad,Zae,Zaf,Zag,Zah,Zai,Zak,Zal,Zam,Zan,Zao,Zap,Zaq,Zav,Zaw,Zay,Zaz,Za0,Za1,Za2,Za3,Za4,Za5,Za6,Za7,Za8,Za9,Zba,Zbb,Zbd,Zbf,Zbt,Zb1,Zb7,Zcn,Zc5,Zdc,Zdd,Zde,Zdi,Zev,Zew,Zex,Zez,Ze0,Ze2,Ze3,Ze4,Ze5,Zfc,Zfd,Zfe,Zff,Zfg,Zfh,Zfi,Zfj,Zfl,Zfn,Zfq,Zfs,Zfz,Zf0,Zf1,Zf3,Zgr,Zgu,Zg4,Zg6,Zhb,Zhc,Zho,Zh6,Zh7,Zix,Ziy,Ziz,Zi0,Zi1,Zjr,Zjw,Zka,Zkb,Zky,Zk0,Zk4,Zla,Zlb,Zle,Zlj,Zll,Zlt,Zlx,Zlz,Zl2,Zl3,Zl4,Zmt,Zmv,Zmw,Zmx,Zmz,Zm2,Zm6,Zm9,Zna,Znb,Zne,Znf,Zng,Znh,Zns,Znt,Znw,Zn1,Zn5,Zod,Zos,Zot,Zou,Zov,Zo3,Zo6,Zo7,Zo8,Zo9,Zpc,Zpi,Zqf,Zqg,Zqh,Zqm,List.append_assoc,List.length_append,eq_self,true_and,and_true,Nat.zero_add,Nat.mul_one]
  rintro k s ⟨i, hi, rfl⟩
  obtain ⟨z, hz⟩ : ∃ z, z = zs q := ⟨_, rfl⟩
  rw [← hz] at hi hzq ⊢
  by_cases h : i < z.length
  · have hI : IN i < IN z.length := by simp only [IN]; omega
    have hw := w64s i (by omega)
    have hgz : (cB z).getD i .un = Y 0 := by rw [cB_get z i h, hz, zs_get _ _ (by omega)]
    have hqz := cB_length z
    sym =>
    simp [Zaa,Zab,Zad,Zae,Zaf,Zag,Zah,Zai,Zak,Zal,Zam,Zan,Zao,Zap,Zaq,Zav,Zaw,Zay,Zaz,Za0,Za1,Za2,Za3,Za4,Za5,Za6,Za7,Za8,Za9,Zba,Zbb,Zbd,Zbf,Zbt,Zb1,Zb7,Zcn,Zc5,Zdc,Zdd,Zde,Zdi,Zev,Zew,Zex,Zez,Ze0,Ze2,Ze3,Ze4,Ze5,Zfc,Zfd,Zfe,Zff,Zfg,Zfh,Zfi,Zfj,Zfl,Zfn,Zfq,Zfs,Zfz,Zf0,Zf1,Zf3,Zgr,Zgu,Zg4,Zg6,Zhb,Zhc,Zho,Zh6,Zh7,Zix,Ziy,Ziz,Zi0,Zi1,Zjr,Zjw,Zka,Zkb,Zky,Zk0,Zk4,Zla,Zlb,Zle,Zlj,Zll,Zlt,Zlx,Zlz,Zl2,Zl3,Zl4,Zmt,Zmv,Zmw,Zmx,Zmz,Zm2,Zm6,Zm9,Zna,Znb,Zne,Znf,Zng,Znh,Zns,Znt,Znw,Zn1,Zn5,Zod,Zos,Zot,Zou,Zov,Zo3,Zo6,Zo7,Zo8,Zo9,Zpc,Zpi,Zqf,Zqg,Zqh,Zqm,List.append_assoc,List.length_append,eq_self,true_and,and_true,Nat.zero_add,Nat.mul_one,hI,h,hw,hgz,hqz]
    tactic =>
    refine ⟨by omega, by omega, ?_⟩
    unfold NextL; refine ⟨(k - 1), [], _, by omega, ⟨i + 1, by omega, rfl⟩, wkA ?_⟩
    sym =>
    simp [Zaa,Zab,Zad,Zae,Zaf,Zag,Zah,Zai,Zak,Zal,Zam,Zan,Zao,Zap,Zaq,Zav,Zaw,Zay,Zaz,Za0,Za1,Za2,Za3,Za4,Za5,Za6,Za7,Za8,Za9,Zba,Zbb,Zbd,Zbf,Zbt,Zb1,Zb7,Zcn,Zc5,Zdc,Zdd,Zde,Zdi,Zev,Zew,Zex,Zez,Ze0,Ze2,Ze3,Ze4,Ze5,Zfc,Zfd,Zfe,Zff,Zfg,Zfh,Zfi,Zfj,Zfl,Zfn,Zfq,Zfs,Zfz,Zf0,Zf1,Zf3,Zgr,Zgu,Zg4,Zg6,Zhb,Zhc,Zho,Zh6,Zh7,Zix,Ziy,Ziz,Zi0,Zi1,Zjr,Zjw,Zka,Zkb,Zky,Zk0,Zk4,Zla,Zlb,Zle,Zlj,Zll,Zlt,Zlx,Zlz,Zl2,Zl3,Zl4,Zmt,Zmv,Zmw,Zmx,Zmz,Zm2,Zm6,Zm9,Zna,Znb,Zne,Znf,Zng,Znh,Zns,Znt,Znw,Zn1,Zn5,Zod,Zos,Zot,Zou,Zov,Zo3,Zo6,Zo7,Zo8,Zo9,Zpc,Zpi,Zqf,Zqg,Zqh,Zqm,List.append_assoc,List.length_append,eq_self,true_and,and_true,Nat.zero_add,Nat.mul_one]
  · have hI : ¬ IN i < IN z.length := by simp only [IN]; omega
    have hIz : IN z.length = 1024 := by rw [hzq, hq]; rfl
    have hIf : IN f.length = IN (b.length + m) := by rw [hfl]
    sym =>
    simp [Zaa,Zab,Zad,Zae,Zaf,Zag,Zah,Zai,Zak,Zal,Zam,Zan,Zao,Zap,Zaq,Zav,Zaw,Zay,Zaz,Za0,Za1,Za2,Za3,Za4,Za5,Za6,Za7,Za8,Za9,Zba,Zbb,Zbd,Zbf,Zbt,Zb1,Zb7,Zcn,Zc5,Zdc,Zdd,Zde,Zdi,Zev,Zew,Zex,Zez,Ze0,Ze2,Ze3,Ze4,Ze5,Zfc,Zfd,Zfe,Zff,Zfg,Zfh,Zfi,Zfj,Zfl,Zfn,Zfq,Zfs,Zfz,Zf0,Zf1,Zf3,Zgr,Zgu,Zg4,Zg6,Zhb,Zhc,Zho,Zh6,Zh7,Zix,Ziy,Ziz,Zi0,Zi1,Zjr,Zjw,Zka,Zkb,Zky,Zk0,Zk4,Zla,Zlb,Zle,Zlj,Zll,Zlt,Zlx,Zlz,Zl2,Zl3,Zl4,Zmt,Zmv,Zmw,Zmx,Zmz,Zm2,Zm6,Zm9,Zna,Znb,Zne,Znf,Zng,Znh,Zns,Znt,Znw,Zn1,Zn5,Zod,Zos,Zot,Zou,Zov,Zo3,Zo6,Zo7,Zo8,Zo9,Zpc,Zpi,Zqf,Zqg,Zqh,Zqm,List.append_assoc,List.length_append,eq_self,true_and,and_true,Nat.zero_add,Nat.mul_one,h,hI,callable_12]
    tactic =>
    refine cl none (h4) trivial ?_
    sym =>
    simp [Zaa,Zab,Zad,Zae,Zaf,Zag,Zah,Zai,Zak,Zal,Zam,Zan,Zao,Zap,Zaq,Zav,Zaw,Zay,Zaz,Za0,Za1,Za2,Za3,Za4,Za5,Za6,Za7,Za8,Za9,Zba,Zbb,Zbd,Zbf,Zbt,Zb1,Zb7,Zcn,Zc5,Zdc,Zdd,Zde,Zdi,Zev,Zew,Zex,Zez,Ze0,Ze2,Ze3,Ze4,Ze5,Zfc,Zfd,Zfe,Zff,Zfg,Zfh,Zfi,Zfj,Zfl,Zfn,Zfq,Zfs,Zfz,Zf0,Zf1,Zf3,Zgr,Zgu,Zg4,Zg6,Zhb,Zhc,Zho,Zh6,Zh7,Zix,Ziy,Ziz,Zi0,Zi1,Zjr,Zjw,Zka,Zkb,Zky,Zk0,Zk4,Zla,Zlb,Zle,Zlj,Zll,Zlt,Zlx,Zlz,Zl2,Zl3,Zl4,Zmt,Zmv,Zmw,Zmx,Zmz,Zm2,Zm6,Zm9,Zna,Znb,Zne,Znf,Zng,Znh,Zns,Znt,Znw,Zn1,Zn5,Zod,Zos,Zot,Zou,Zov,Zo3,Zo6,Zo7,Zo8,Zo9,Zpc,Zpi,Zqf,Zqg,Zqh,Zqm,List.append_assoc,List.length_append,eq_self,true_and,and_true,Nat.zero_add,Nat.mul_one,callable_13]
    tactic =>
    refine cl none (h3) trivial ?_
    sym =>
    simp [Zaa,Zab,Zad,Zae,Zaf,Zag,Zah,Zai,Zak,Zal,Zam,Zan,Zao,Zap,Zaq,Zav,Zaw,Zay,Zaz,Za0,Za1,Za2,Za3,Za4,Za5,Za6,Za7,Za8,Za9,Zba,Zbb,Zbd,Zbf,Zbt,Zb1,Zb7,Zcn,Zc5,Zdc,Zdd,Zde,Zdi,Zev,Zew,Zex,Zez,Ze0,Ze2,Ze3,Ze4,Ze5,Zfc,Zfd,Zfe,Zff,Zfg,Zfh,Zfi,Zfj,Zfl,Zfn,Zfq,Zfs,Zfz,Zf0,Zf1,Zf3,Zgr,Zgu,Zg4,Zg6,Zhb,Zhc,Zho,Zh6,Zh7,Zix,Ziy,Ziz,Zi0,Zi1,Zjr,Zjw,Zka,Zkb,Zky,Zk0,Zk4,Zla,Zlb,Zle,Zlj,Zll,Zlt,Zlx,Zlz,Zl2,Zl3,Zl4,Zmt,Zmv,Zmw,Zmx,Zmz,Zm2,Zm6,Zm9,Zna,Znb,Zne,Znf,Zng,Znh,Zns,Znt,Znw,Zn1,Zn5,Zod,Zos,Zot,Zou,Zov,Zo3,Zo6,Zo7,Zo8,Zo9,Zpc,Zpi,Zqf,Zqg,Zqh,Zqm,List.append_assoc,List.length_append,eq_self,true_and,and_true,Nat.zero_add,Nat.mul_one,callable_7]
    tactic =>
    refine cl none (h5) trivial ?_
    sym =>
    simp [Zaa,Zab,Zad,Zae,Zaf,Zag,Zah,Zai,Zak,Zal,Zam,Zan,Zao,Zap,Zaq,Zav,Zaw,Zay,Zaz,Za0,Za1,Za2,Za3,Za4,Za5,Za6,Za7,Za8,Za9,Zba,Zbb,Zbd,Zbf,Zbt,Zb1,Zb7,Zcn,Zc5,Zdc,Zdd,Zde,Zdi,Zev,Zew,Zex,Zez,Ze0,Ze2,Ze3,Ze4,Ze5,Zfc,Zfd,Zfe,Zff,Zfg,Zfh,Zfi,Zfj,Zfl,Zfn,Zfq,Zfs,Zfz,Zf0,Zf1,Zf3,Zgr,Zgu,Zg4,Zg6,Zhb,Zhc,Zho,Zh6,Zh7,Zix,Ziy,Ziz,Zi0,Zi1,Zjr,Zjw,Zka,Zkb,Zky,Zk0,Zk4,Zla,Zlb,Zle,Zlj,Zll,Zlt,Zlx,Zlz,Zl2,Zl3,Zl4,Zmt,Zmv,Zmw,Zmx,Zmz,Zm2,Zm6,Zm9,Zna,Znb,Zne,Znf,Zng,Znh,Zns,Znt,Znw,Zn1,Zn5,Zod,Zos,Zot,Zou,Zov,Zo3,Zo6,Zo7,Zo8,Zo9,Zpc,Zpi,Zqf,Zqg,Zqh,Zqm,List.append_assoc,List.length_append,eq_self,true_and,and_true,Nat.zero_add,Nat.mul_one]
    tactic =>
    have e1 : IntKind.i64.wrap (512 * cntI (IN b.length)) = IN f.length := by
      have : 512 * cntI (IN b.length) = (b.length : Int) + m := hcnt
      rw [this, w64 _ (by omega), hfl]; simp only [IN]; omega
    have e2 : IntKind.i64.wrap (IN (b.length + m)) = IN f.length := by rw [hfl]; exact w64 _ (by simp only [IN]; omega)
    rw [e1, if_pos rfl]
    sym =>
    simp [Zaa,Zab,Zad,Zae,Zaf,Zag,Zah,Zai,Zak,Zal,Zam,Zan,Zao,Zap,Zaq,Zav,Zaw,Zay,Zaz,Za0,Za1,Za2,Za3,Za4,Za5,Za6,Za7,Za8,Za9,Zba,Zbb,Zbd,Zbf,Zbt,Zb1,Zb7,Zcn,Zc5,Zdc,Zdd,Zde,Zdi,Zev,Zew,Zex,Zez,Ze0,Ze2,Ze3,Ze4,Ze5,Zfc,Zfd,Zfe,Zff,Zfg,Zfh,Zfi,Zfj,Zfl,Zfn,Zfq,Zfs,Zfz,Zf0,Zf1,Zf3,Zgr,Zgu,Zg4,Zg6,Zhb,Zhc,Zho,Zh6,Zh7,Zix,Ziy,Ziz,Zi0,Zi1,Zjr,Zjw,Zka,Zkb,Zky,Zk0,Zk4,Zla,Zlb,Zle,Zlj,Zll,Zlt,Zlx,Zlz,Zl2,Zl3,Zl4,Zmt,Zmv,Zmw,Zmx,Zmz,Zm2,Zm6,Zm9,Zna,Znb,Zne,Znf,Zng,Znh,Zns,Znt,Znw,Zn1,Zn5,Zod,Zos,Zot,Zou,Zov,Zo3,Zo6,Zo7,Zo8,Zo9,Zpc,Zpi,Zqf,Zqg,Zqh,Zqm,List.append_assoc,List.length_append,eq_self,true_and,and_true,Nat.zero_add,Nat.mul_one,callable_8]
    tactic =>
    refine cl none (h6) trivial ?_
    sym =>
    simp [Zaa,Zab,Zad,Zae,Zaf,Zag,Zah,Zai,Zak,Zal,Zam,Zan,Zao,Zap,Zaq,Zav,Zaw,Zay,Zaz,Za0,Za1,Za2,Za3,Za4,Za5,Za6,Za7,Za8,Za9,Zba,Zbb,Zbd,Zbf,Zbt,Zb1,Zb7,Zcn,Zc5,Zdc,Zdd,Zde,Zdi,Zev,Zew,Zex,Zez,Ze0,Ze2,Ze3,Ze4,Ze5,Zfc,Zfd,Zfe,Zff,Zfg,Zfh,Zfi,Zfj,Zfl,Zfn,Zfq,Zfs,Zfz,Zf0,Zf1,Zf3,Zgr,Zgu,Zg4,Zg6,Zhb,Zhc,Zho,Zh6,Zh7,Zix,Ziy,Ziz,Zi0,Zi1,Zjr,Zjw,Zka,Zkb,Zky,Zk0,Zk4,Zla,Zlb,Zle,Zlj,Zll,Zlt,Zlx,Zlz,Zl2,Zl3,Zl4,Zmt,Zmv,Zmw,Zmx,Zmz,Zm2,Zm6,Zm9,Zna,Znb,Zne,Znf,Zng,Znh,Zns,Znt,Znw,Zn1,Zn5,Zod,Zos,Zot,Zou,Zov,Zo3,Zo6,Zo7,Zo8,Zo9,Zpc,Zpi,Zqf,Zqg,Zqh,Zqm,List.append_assoc,List.length_append,eq_self,true_and,and_true,Nat.zero_add,Nat.mul_one,e2]
    tactic =>
    rw [hIz, if_pos rfl]
    sym =>
    simp [Zaa,Zab,Zad,Zae,Zaf,Zag,Zah,Zai,Zak,Zal,Zam,Zan,Zao,Zap,Zaq,Zav,Zaw,Zay,Zaz,Za0,Za1,Za2,Za3,Za4,Za5,Za6,Za7,Za8,Za9,Zba,Zbb,Zbd,Zbf,Zbt,Zb1,Zb7,Zcn,Zc5,Zdc,Zdd,Zde,Zdi,Zev,Zew,Zex,Zez,Ze0,Ze2,Ze3,Ze4,Ze5,Zfc,Zfd,Zfe,Zff,Zfg,Zfh,Zfi,Zfj,Zfl,Zfn,Zfq,Zfs,Zfz,Zf0,Zf1,Zf3,Zgr,Zgu,Zg4,Zg6,Zhb,Zhc,Zho,Zh6,Zh7,Zix,Ziy,Ziz,Zi0,Zi1,Zjr,Zjw,Zka,Zkb,Zky,Zk0,Zk4,Zla,Zlb,Zle,Zlj,Zll,Zlt,Zlx,Zlz,Zl2,Zl3,Zl4,Zmt,Zmv,Zmw,Zmx,Zmz,Zm2,Zm6,Zm9,Zna,Znb,Zne,Znf,Zng,Znh,Zns,Znt,Znw,Zn1,Zn5,Zod,Zos,Zot,Zou,Zov,Zo3,Zo6,Zo7,Zo8,Zo9,Zpc,Zpi,Zqf,Zqg,Zqh,Zqm,List.append_assoc,List.length_append,eq_self,true_and,and_true,Nat.zero_add,Nat.mul_one,callable_5]
    tactic =>
    refine cl none (alive_con) trivial ?_
    sym =>
    simp [Zaa,Zab,Zad,Zae,Zaf,Zag,Zah,Zai,Zak,Zal,Zam,Zan,Zao,Zap,Zaq,Zav,Zaw,Zay,Zaz,Za0,Za1,Za2,Za3,Za4,Za5,Za6,Za7,Za8,Za9,Zba,Zbb,Zbd,Zbf,Zbt,Zb1,Zb7,Zcn,Zc5,Zdc,Zdd,Zde,Zdi,Zev,Zew,Zex,Zez,Ze0,Ze2,Ze3,Ze4,Ze5,Zfc,Zfd,Zfe,Zff,Zfg,Zfh,Zfi,Zfj,Zfl,Zfn,Zfq,Zfs,Zfz,Zf0,Zf1,Zf3,Zgr,Zgu,Zg4,Zg6,Zhb,Zhc,Zho,Zh6,Zh7,Zix,Ziy,Ziz,Zi0,Zi1,Zjr,Zjw,Zka,Zkb,Zky,Zk0,Zk4,Zla,Zlb,Zle,Zlj,Zll,Zlt,Zlx,Zlz,Zl2,Zl3,Zl4,Zmt,Zmv,Zmw,Zmx,Zmz,Zm2,Zm6,Zm9,Zna,Znb,Zne,Znf,Zng,Znh,Zns,Znt,Znw,Zn1,Zn5,Zod,Zos,Zot,Zou,Zov,Zo3,Zo6,Zo7,Zo8,Zo9,Zpc,Zpi,Zqf,Zqg,Zqh,Zqm,List.append_assoc,List.length_append,eq_self,true_and,and_true,Nat.zero_add,Nat.mul_one]
    tactic =>
    refine endA ?_
    sym =>
    simp [Zaa,Zab,Zad,Zae,Zaf,Zag,Zah,Zai,Zak,Zal,Zam,Zan,Zao,Zap,Zaq,Zav,Zaw,Zay,Zaz,Za0,Za1,Za2,Za3,Za4,Za5,Za6,Za7,Za8,Za9,Zba,Zbb,Zbd,Zbf,Zbt,Zb1,Zb7,Zcn,Zc5,Zdc,Zdd,Zde,Zdi,Zev,Zew,Zex,Zez,Ze0,Ze2,Ze3,Ze4,Ze5,Zfc,Zfd,Zfe,Zff,Zfg,Zfh,Zfi,Zfj,Zfl,Zfn,Zfq,Zfs,Zfz,Zf0,Zf1,Zf3,Zgr,Zgu,Zg4,Zg6,Zhb,Zhc,Zho,Zh6,Zh7,Zix,Ziy,Ziz,Zi0,Zi1,Zjr,Zjw,Zka,Zkb,Zky,Zk0,Zk4,Zla,Zlb,Zle,Zlj,Zll,Zlt,Zlx,Zlz,Zl2,Zl3,Zl4,Zmt,Zmv,Zmw,Zmx,Zmz,Zm2,Zm6,Zm9,Zna,Znb,Zne,Znf,Zng,Znh,Zns,Znt,Znw,Zn1,Zn5,Zod,Zos,Zot,Zou,Zov,Zo3,Zo6,Zo7,Zo8,Zo9,Zpc,Zpi,Zqf,Zqg,Zqh,Zqm,List.append_assoc,List.length_append,eq_self,true_and,and_true,Nat.zero_add,Nat.mul_one]
theorem fm_ints (l : List Int) : (l.flatMap fun n => [AV.sc (Value.int IntKind.u8 n)]) = cB l := by
  induction l with
  | nil => rfl
  | cons a l ih => rw [List.flatMap_cons, ih]; rfl
theorem u8_lim {n : Int} (h : IntKind.u8.min ≤ n ∧ n ≤ IntKind.u8.max) : 0 ≤ n ∧ n < 256 := by
  have h1 : IntKind.u8.min = 0 := by decide
  have h2 : IntKind.u8.max = 255 := by decide
  omega
theorem law4' (l k : List Int) (h : ∀ x ∈ l, IntKind.u8.min ≤ x ∧ x ≤ IntKind.u8.max) (g : ∀ x ∈ k, IntKind.u8.min ≤ x ∧ x ≤ IntKind.u8.max) : Con Tryd.prog 4 [] [.fz l.length (l.flatMap fun n => [AV.sc (Value.int IntKind.u8 n)]), .fz k.length (k.flatMap fun n => [AV.sc (Value.int IntKind.u8 n)])] [] (Bo true) := by
  rw [fm_ints, fm_ints]
  exact back_law l k (fun x hx => u8_lim (h x hx)) (fun x hx => u8_lim (g x hx))
end Go.Proofs.YtdjjibmjinllnaaDoor.BlkB
