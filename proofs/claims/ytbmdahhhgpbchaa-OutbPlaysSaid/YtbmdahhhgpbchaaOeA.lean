import Derived.Test.YtbmdahhhgpbchaaObC
namespace Go.Proofs.Ytbmdahhhgpbchaa.OeA
open Go Go.Sim Go.Sim.E Go.RowKit Go.Proofs Go.Proofs.Ytbmdahhhgpbchaa.Cod Go.Proofs.Ytbmdahhhgpbchaa.Tab Go.Proofs.Ytbmdahhhgpbchaa.Bse Go.Proofs.Ytbmdahhhgpbchaa.SpnP Go.Proofs.Ytbmdahhhgpbchaa.SwA Go.Proofs.Ytbmdahhhgpbchaa.SwB Go.Proofs.Ytbmdahhhgpbchaa.SwC Go.Proofs.Ytbmdahhhgpbchaa.SwS Go.Proofs.Ytbmdahhhgpbchaa.SwD Go.Proofs.Ytbmdahhhgpbchaa.SwF Go.Proofs.Ytbmdahhhgpbchaa.SwG Go.Proofs.Ytbmdahhhgpbchaa.SwL Go.Proofs.Ytbmdahhhgpbchaa.ObA Go.Proofs.Ytbmdahhhgpbchaa.ObB Go.Proofs.Ytbmdahhhgpbchaa.ObC
set_option linter.unusedVariables false
set_option linter.unusedSimpArgs false
set_option maxRecDepth 100000
set_option maxHeartbeats 4000000
def oC (src : List Int) (t : Int) (s o : List Rg) (T : Tm) : List AV := [fB src, I t, fR s, fR o, Bo T.1, I T.2.1, I T.2.2]
def z300 : List Int := List.replicate 300 0
theorem z300_l : z300.length = 300 := by simp [z300]
theorem z300_c : List.replicate 300 (AV.sc (Value.int IntKind.u8 0)) = cB z300 := by simp [z300, cB, List.map_replicate]
theorem z300_i : IN z300.length = 300 := by rw [z300_l]; rfl
abbrev oz (s o : List Rg) (T : Tm) : AV := .ag [.fz 300 (cB z300), I 300, fR s, fR o, Bo T.1, I T.2.1, I T.2.2]
def L2 : List Rg := [(0, 256), (256, 300)]
def o2 : List Rg := [(0, 300)]
def twoT : Tm := (true, 2, 2)
theorem ozV (s o : List Rg) (T : Tm) : oV z300 300 s o T = oz s o T := by unfold oV oz fB; rw [z300_l]
theorem v1 : Con Try.prog 31 [(0, ⟨cB z300, 1, 0⟩)] [.lv 0 0 300, I 0] [(0, ⟨cB z300, 1, 0⟩)] (.tu [oz [] [] oneT, I 0]) := by
  have h := hnew_con z300 0 (by rw [z300_l]; omega) (by rw [z300_i]; decide)
  rw [z300_i] at h
  have e1 : addS [] 0 0 = [] := by decide
  have e2 : tmF 300 [] oneT = oneT := by decide
  rw [e1, e2] at h
  rw [ozV, z300_l] at h
  exact h
theorem v2 : Con Try.prog 32 [] [oz [] [] oneT] [] (.tu [oz [] o2 oneT, fP z300 L2]) := by
  have h := poll_con z300 [] [] oneT 300 z300_i.symm (by rw [z300_l]; omega) (Ok.nil _) (Ok.nil _) 0 (by decide)
  have e : pollF 300 [] 0 9 [] = (L2, o2) := by decide
  rw [e, ozV, ozV] at h
  exact h
theorem o2_ok : Ok 300 o2 := ((Ok.nil 300).add (by omega) 0 300 (by omega)).1
theorem v3 : Con Try.prog 32 [] [oz [] o2 oneT] [] (.tu [oz [] o2 oneT, fP z300 []]) := by
  have h := poll_con z300 [] o2 oneT 300 z300_i.symm (by rw [z300_l]; omega) (Ok.nil _) o2_ok 0 (by decide)
  have e : pollF 300 [] 0 9 o2 = ([], o2) := by decide
  rw [e, ozV] at h
  exact h
theorem v4 : Con Try.prog 35 [] [oz [] o2 oneT] [] (.tu [oz [] [] twoT, Bo true]) := by
  have h := btick_con z300 300 [] o2 oneT TOk.one
  have e : otF 300 [] o2 oneT = [] := by decide
  have e2 : tkF oneT = (twoT, true) := by decide
  rw [e, e2, ozV, ozV] at h
  exact h
theorem v5 : Con Try.prog 32 [] [oz [] [] twoT] [] (.tu [oz [] o2 twoT, fP z300 L2]) := by
  have h := poll_con z300 [] [] twoT 300 z300_i.symm (by rw [z300_l]; omega) (Ok.nil _) (Ok.nil _) 0 (by decide)
  have e : pollF 300 [] 0 9 [] = (L2, o2) := by decide
  rw [e, ozV, ozV] at h
  exact h
theorem v6 : Con Try.prog 33 [] [oz [] o2 twoT, I 300, .fz 0 []] [] (.tu [oz o2 [] offT, Bo true]) := by
  have h := back_con z300 300 [] o2 twoT 300 [] (by omega) (Ok.nil _) o2_ok (by simp)
  have e1 : acS 300 [] 300 [] = o2 := by decide
  have e2 : acO 300 [] o2 300 [] = [] := by decide
  have e3 : acT 300 [] 300 [] twoT = offT := by decide
  have e4 : acM 300 [] 300 [] = true := by decide
  rw [e1, e2, e3, e4, ozV, ozV] at h
  exact h
theorem v7 : Con Try.prog 36 [] [oz o2 [] offT] [] (Bo true) := by
  have h := bdone_con z300 300 o2 [] offT (by decide)
  rw [show decide (lfF 300 o2 = 0) = true from by decide, ozV] at h
  exact h
theorem v8 : Con Try.prog 37 [] [oz o2 [] offT] [] (I 0) := by
  have h := wait_con z300 300 o2 [] offT
  rw [ozV] at h
  exact h
theorem alive_con : Con Try.prog 30 [] [] [] (Bo true) := by
  have hL : (cP z300 L2).getD 3 .un = .fz 44 (cB (pc z300 (256, 300))) := by
    have h := cP_q1 z300 L2 1 (by decide)
    have h2 : (pc z300 (256, 300)).length = 44 := by simp [pc, z300]
    rw [show L2[1] = (256, 300) from rfl] at h
    unfold fB at h
    rw [h2] at h
    exact h
  have hl : L2.length = 2 := rfl
  refine con_j b30 rfl ?_
  sym =>
  simp [Zab,Zad,Zak,Zam,Zaz,Za0,Za1,Za2,Za3,Za4,Za5,Za6,Za7,Za9,Zba,Zbb,Zbd,Zbf,Zbt,Zbv,Zb1,Zb7,Zcn,Zcv,Zc1,Zc3,Zdc,Zdd,Zde,Zdi,Zdm,Zrj,Zrl,Zrm,Zrn,Zro,Zrp,Zrq,Zrr,Zrs,Zru,Zrv,Zrw,Zrx,Zry,Zrz,Zr0,Zr2,Zr9,Zsd,Zse,Zsf,Zsg,Zsh,Zsj,Zsm,Zsn,Zso,Zsp,Zsr,Zs0,Zs7,Zta,Ztf,Ztg,Zev,Zew,Zex,Zez,Ze0,Ze1,Ze2,Ze3,Ze5,Ze8,Zfc,Zfd,Zfe,Zfh,Zfi,Zfl,Zfn,Zfz,Zgr,Zgs,Zgt,Zgu,Zgw,Zgy,Zg4,Zg6,Zhb,Zhc,Zho,Zh6,Zh7,Zin,Zis,Zit,Ziu,Ziv,Ziw,Zi6,Zjh,Zji,Zjn,Zjr,Zjs,Zjw,Zj7,Zka,Zkx,Zky,Zk0,Zk1,Zla,Zlb,Zlc,Zld,Zle,Zlf,Zlh,Zlj,Zlk,Zlm,Zlr,Zlt,Zlx,Zlz,Zl2,Zmt,Zmv,Zmw,Zmx,Zmz,Zm2,Zm5,Zm6,Zm7,Zm9,Zna,Znb,Zne,Znf,Zng,Znh,Znn,Zno,Znp,Zn5,Zn7,Zrd,Zos,Zo7,Zo8,Zpc,List.length_replicate,eq_self,true_and,and_true,Nat.zero_add]
  tactic =>
  rw [z300_c]
  refine ⟨callable_31, cB_okI _, ?_⟩
  refine clG [some ⟨cB z300, 1, 0⟩] none v1 rfl ⟨⟨cB_okI _, trivial⟩, trivial, rfl⟩ ?_
  sym =>
  simp [Zab,Zad,Zak,Zam,Zaz,Za0,Za1,Za2,Za3,Za4,Za5,Za6,Za7,Za9,Zba,Zbb,Zbd,Zbf,Zbt,Zbv,Zb1,Zb7,Zcn,Zcv,Zc1,Zc3,Zdc,Zdd,Zde,Zdi,Zdm,Zrj,Zrl,Zrm,Zrn,Zro,Zrp,Zrq,Zrr,Zrs,Zru,Zrv,Zrw,Zrx,Zry,Zrz,Zr0,Zr2,Zr9,Zsd,Zse,Zsf,Zsg,Zsh,Zsj,Zsm,Zsn,Zso,Zsp,Zsr,Zs0,Zs7,Zta,Ztf,Ztg,Zev,Zew,Zex,Zez,Ze0,Ze1,Ze2,Ze3,Ze5,Ze8,Zfc,Zfd,Zfe,Zfh,Zfi,Zfl,Zfn,Zfz,Zgr,Zgs,Zgt,Zgu,Zgw,Zgy,Zg4,Zg6,Zhb,Zhc,Zho,Zh6,Zh7,Zin,Zis,Zit,Ziu,Ziv,Ziw,Zi6,Zjh,Zji,Zjn,Zjr,Zjs,Zjw,Zj7,Zka,Zkx,Zky,Zk0,Zk1,Zla,Zlb,Zlc,Zld,Zle,Zlf,Zlh,Zlj,Zlk,Zlm,Zlr,Zlt,Zlx,Zlz,Zl2,Zmt,Zmv,Zmw,Zmx,Zmz,Zm2,Zm5,Zm6,Zm7,Zm9,Zna,Znb,Zne,Znf,Zng,Znh,Znn,Zno,Znp,Zn5,Zn7,Zrd,Zos,Zo7,Zo8,Zpc,List.length_replicate,eq_self,true_and,and_true,Nat.zero_add,callable_32]
  tactic =>
  refine cl none (v2) trivial ?_
  sym =>
  simp [Zab,Zad,Zak,Zam,Zaz,Za0,Za1,Za2,Za3,Za4,Za5,Za6,Za7,Za9,Zba,Zbb,Zbd,Zbf,Zbt,Zbv,Zb1,Zb7,Zcn,Zcv,Zc1,Zc3,Zdc,Zdd,Zde,Zdi,Zdm,Zrj,Zrl,Zrm,Zrn,Zro,Zrp,Zrq,Zrr,Zrs,Zru,Zrv,Zrw,Zrx,Zry,Zrz,Zr0,Zr2,Zr9,Zsd,Zse,Zsf,Zsg,Zsh,Zsj,Zsm,Zsn,Zso,Zsp,Zsr,Zs0,Zs7,Zta,Ztf,Ztg,Zev,Zew,Zex,Zez,Ze0,Ze1,Ze2,Ze3,Ze5,Ze8,Zfc,Zfd,Zfe,Zfh,Zfi,Zfl,Zfn,Zfz,Zgr,Zgs,Zgt,Zgu,Zgw,Zgy,Zg4,Zg6,Zhb,Zhc,Zho,Zh6,Zh7,Zin,Zis,Zit,Ziu,Ziv,Ziw,Zi6,Zjh,Zji,Zjn,Zjr,Zjs,Zjw,Zj7,Zka,Zkx,Zky,Zk0,Zk1,Zla,Zlb,Zlc,Zld,Zle,Zlf,Zlh,Zlj,Zlk,Zlm,Zlr,Zlt,Zlx,Zlz,Zl2,Zmt,Zmv,Zmw,Zmx,Zmz,Zm2,Zm5,Zm6,Zm7,Zm9,Zna,Znb,Zne,Znf,Zng,Znh,Znn,Zno,Znp,Zn5,Zn7,Zrd,Zos,Zo7,Zo8,Zpc,List.length_replicate,eq_self,true_and,and_true,Nat.zero_add,callable_32]
  tactic =>
  refine cl none (v3) trivial ?_
  sym =>
  simp [Zab,Zad,Zak,Zam,Zaz,Za0,Za1,Za2,Za3,Za4,Za5,Za6,Za7,Za9,Zba,Zbb,Zbd,Zbf,Zbt,Zbv,Zb1,Zb7,Zcn,Zcv,Zc1,Zc3,Zdc,Zdd,Zde,Zdi,Zdm,Zrj,Zrl,Zrm,Zrn,Zro,Zrp,Zrq,Zrr,Zrs,Zru,Zrv,Zrw,Zrx,Zry,Zrz,Zr0,Zr2,Zr9,Zsd,Zse,Zsf,Zsg,Zsh,Zsj,Zsm,Zsn,Zso,Zsp,Zsr,Zs0,Zs7,Zta,Ztf,Ztg,Zev,Zew,Zex,Zez,Ze0,Ze1,Ze2,Ze3,Ze5,Ze8,Zfc,Zfd,Zfe,Zfh,Zfi,Zfl,Zfn,Zfz,Zgr,Zgs,Zgt,Zgu,Zgw,Zgy,Zg4,Zg6,Zhb,Zhc,Zho,Zh6,Zh7,Zin,Zis,Zit,Ziu,Ziv,Ziw,Zi6,Zjh,Zji,Zjn,Zjr,Zjs,Zjw,Zj7,Zka,Zkx,Zky,Zk0,Zk1,Zla,Zlb,Zlc,Zld,Zle,Zlf,Zlh,Zlj,Zlk,Zlm,Zlr,Zlt,Zlx,Zlz,Zl2,Zmt,Zmv,Zmw,Zmx,Zmz,Zm2,Zm5,Zm6,Zm7,Zm9,Zna,Znb,Zne,Znf,Zng,Znh,Znn,Zno,Znp,Zn5,Zn7,Zrd,Zos,Zo7,Zo8,Zpc,List.length_replicate,eq_self,true_and,and_true,Nat.zero_add,callable_35]
  tactic =>
  refine cl none (v4) trivial ?_
  sym =>
  simp [Zab,Zad,Zak,Zam,Zaz,Za0,Za1,Za2,Za3,Za4,Za5,Za6,Za7,Za9,Zba,Zbb,Zbd,Zbf,Zbt,Zbv,Zb1,Zb7,Zcn,Zcv,Zc1,Zc3,Zdc,Zdd,Zde,Zdi,Zdm,Zrj,Zrl,Zrm,Zrn,Zro,Zrp,Zrq,Zrr,Zrs,Zru,Zrv,Zrw,Zrx,Zry,Zrz,Zr0,Zr2,Zr9,Zsd,Zse,Zsf,Zsg,Zsh,Zsj,Zsm,Zsn,Zso,Zsp,Zsr,Zs0,Zs7,Zta,Ztf,Ztg,Zev,Zew,Zex,Zez,Ze0,Ze1,Ze2,Ze3,Ze5,Ze8,Zfc,Zfd,Zfe,Zfh,Zfi,Zfl,Zfn,Zfz,Zgr,Zgs,Zgt,Zgu,Zgw,Zgy,Zg4,Zg6,Zhb,Zhc,Zho,Zh6,Zh7,Zin,Zis,Zit,Ziu,Ziv,Ziw,Zi6,Zjh,Zji,Zjn,Zjr,Zjs,Zjw,Zj7,Zka,Zkx,Zky,Zk0,Zk1,Zla,Zlb,Zlc,Zld,Zle,Zlf,Zlh,Zlj,Zlk,Zlm,Zlr,Zlt,Zlx,Zlz,Zl2,Zmt,Zmv,Zmw,Zmx,Zmz,Zm2,Zm5,Zm6,Zm7,Zm9,Zna,Znb,Zne,Znf,Zng,Znh,Znn,Zno,Znp,Zn5,Zn7,Zrd,Zos,Zo7,Zo8,Zpc,List.length_replicate,eq_self,true_and,and_true,Nat.zero_add,callable_32]
  tactic =>
  refine cl none (v5) trivial ?_
  sym =>
  simp [Zab,Zad,Zak,Zam,Zaz,Za0,Za1,Za2,Za3,Za4,Za5,Za6,Za7,Za9,Zba,Zbb,Zbd,Zbf,Zbt,Zbv,Zb1,Zb7,Zcn,Zcv,Zc1,Zc3,Zdc,Zdd,Zde,Zdi,Zdm,Zrj,Zrl,Zrm,Zrn,Zro,Zrp,Zrq,Zrr,Zrs,Zru,Zrv,Zrw,Zrx,Zry,Zrz,Zr0,Zr2,Zr9,Zsd,Zse,Zsf,Zsg,Zsh,Zsj,Zsm,Zsn,Zso,Zsp,Zsr,Zs0,Zs7,Zta,Ztf,Ztg,Zev,Zew,Zex,Zez,Ze0,Ze1,Ze2,Ze3,Ze5,Ze8,Zfc,Zfd,Zfe,Zfh,Zfi,Zfl,Zfn,Zfz,Zgr,Zgs,Zgt,Zgu,Zgw,Zgy,Zg4,Zg6,Zhb,Zhc,Zho,Zh6,Zh7,Zin,Zis,Zit,Ziu,Ziv,Ziw,Zi6,Zjh,Zji,Zjn,Zjr,Zjs,Zjw,Zj7,Zka,Zkx,Zky,Zk0,Zk1,Zla,Zlb,Zlc,Zld,Zle,Zlf,Zlh,Zlj,Zlk,Zlm,Zlr,Zlt,Zlx,Zlz,Zl2,Zmt,Zmv,Zmw,Zmx,Zmz,Zm2,Zm5,Zm6,Zm7,Zm9,Zna,Znb,Zne,Znf,Zng,Znh,Znn,Zno,Znp,Zn5,Zn7,Zrd,Zos,Zo7,Zo8,Zpc,List.length_replicate,eq_self,true_and,and_true,Nat.zero_add,callable_33]
  tactic =>
  refine cl none (v6) trivial ?_
  have h44 : IN 44 = 44 := rfl
  sym =>
  simp [Zab,Zad,Zak,Zam,Zaz,Za0,Za1,Za2,Za3,Za4,Za5,Za6,Za7,Za9,Zba,Zbb,Zbd,Zbf,Zbt,Zbv,Zb1,Zb7,Zcn,Zcv,Zc1,Zc3,Zdc,Zdd,Zde,Zdi,Zdm,Zrj,Zrl,Zrm,Zrn,Zro,Zrp,Zrq,Zrr,Zrs,Zru,Zrv,Zrw,Zrx,Zry,Zrz,Zr0,Zr2,Zr9,Zsd,Zse,Zsf,Zsg,Zsh,Zsj,Zsm,Zsn,Zso,Zsp,Zsr,Zs0,Zs7,Zta,Ztf,Ztg,Zev,Zew,Zex,Zez,Ze0,Ze1,Ze2,Ze3,Ze5,Ze8,Zfc,Zfd,Zfe,Zfh,Zfi,Zfl,Zfn,Zfz,Zgr,Zgs,Zgt,Zgu,Zgw,Zgy,Zg4,Zg6,Zhb,Zhc,Zho,Zh6,Zh7,Zin,Zis,Zit,Ziu,Ziv,Ziw,Zi6,Zjh,Zji,Zjn,Zjr,Zjs,Zjw,Zj7,Zka,Zkx,Zky,Zk0,Zk1,Zla,Zlb,Zlc,Zld,Zle,Zlf,Zlh,Zlj,Zlk,Zlm,Zlr,Zlt,Zlx,Zlz,Zl2,Zmt,Zmv,Zmw,Zmx,Zmz,Zm2,Zm5,Zm6,Zm7,Zm9,Zna,Znb,Zne,Znf,Zng,Znh,Znn,Zno,Znp,Zn5,Zn7,Zrd,Zos,Zo7,Zo8,Zpc,List.length_replicate,eq_self,true_and,and_true,Nat.zero_add,hl,hL,h44,callable_36]
  tactic =>
  refine ⟨by rw [cP_length]; decide, by rw [cP_length]; decide, ?_⟩
  refine cl none (v7) trivial ?_
  sym =>
  simp [Zab,Zad,Zak,Zam,Zaz,Za0,Za1,Za2,Za3,Za4,Za5,Za6,Za7,Za9,Zba,Zbb,Zbd,Zbf,Zbt,Zbv,Zb1,Zb7,Zcn,Zcv,Zc1,Zc3,Zdc,Zdd,Zde,Zdi,Zdm,Zrj,Zrl,Zrm,Zrn,Zro,Zrp,Zrq,Zrr,Zrs,Zru,Zrv,Zrw,Zrx,Zry,Zrz,Zr0,Zr2,Zr9,Zsd,Zse,Zsf,Zsg,Zsh,Zsj,Zsm,Zsn,Zso,Zsp,Zsr,Zs0,Zs7,Zta,Ztf,Ztg,Zev,Zew,Zex,Zez,Ze0,Ze1,Ze2,Ze3,Ze5,Ze8,Zfc,Zfd,Zfe,Zfh,Zfi,Zfl,Zfn,Zfz,Zgr,Zgs,Zgt,Zgu,Zgw,Zgy,Zg4,Zg6,Zhb,Zhc,Zho,Zh6,Zh7,Zin,Zis,Zit,Ziu,Ziv,Ziw,Zi6,Zjh,Zji,Zjn,Zjr,Zjs,Zjw,Zj7,Zka,Zkx,Zky,Zk0,Zk1,Zla,Zlb,Zlc,Zld,Zle,Zlf,Zlh,Zlj,Zlk,Zlm,Zlr,Zlt,Zlx,Zlz,Zl2,Zmt,Zmv,Zmw,Zmx,Zmz,Zm2,Zm5,Zm6,Zm7,Zm9,Zna,Znb,Zne,Znf,Zng,Znh,Znn,Zno,Znp,Zn5,Zn7,Zrd,Zos,Zo7,Zo8,Zpc,List.length_replicate,eq_self,true_and,and_true,Nat.zero_add,callable_37]
  tactic =>
  refine cl none (v8) trivial ?_
  sym =>
  simp [Zab,Zad,Zak,Zam,Zaz,Za0,Za1,Za2,Za3,Za4,Za5,Za6,Za7,Za9,Zba,Zbb,Zbd,Zbf,Zbt,Zbv,Zb1,Zb7,Zcn,Zcv,Zc1,Zc3,Zdc,Zdd,Zde,Zdi,Zdm,Zrj,Zrl,Zrm,Zrn,Zro,Zrp,Zrq,Zrr,Zrs,Zru,Zrv,Zrw,Zrx,Zry,Zrz,Zr0,Zr2,Zr9,Zsd,Zse,Zsf,Zsg,Zsh,Zsj,Zsm,Zsn,Zso,Zsp,Zsr,Zs0,Zs7,Zta,Ztf,Ztg,Zev,Zew,Zex,Zez,Ze0,Ze1,Ze2,Ze3,Ze5,Ze8,Zfc,Zfd,Zfe,Zfh,Zfi,Zfl,Zfn,Zfz,Zgr,Zgs,Zgt,Zgu,Zgw,Zgy,Zg4,Zg6,Zhb,Zhc,Zho,Zh6,Zh7,Zin,Zis,Zit,Ziu,Ziv,Ziw,Zi6,Zjh,Zji,Zjn,Zjr,Zjs,Zjw,Zj7,Zka,Zkx,Zky,Zk0,Zk1,Zla,Zlb,Zlc,Zld,Zle,Zlf,Zlh,Zlj,Zlk,Zlm,Zlr,Zlt,Zlx,Zlz,Zl2,Zmt,Zmv,Zmw,Zmx,Zmz,Zm2,Zm5,Zm6,Zm7,Zm9,Zna,Znb,Zne,Znf,Zng,Znh,Znn,Zno,Znp,Zn5,Zn7,Zrd,Zos,Zo7,Zo8,Zpc,List.length_replicate,eq_self,true_and,and_true,Nat.zero_add]
  tactic =>
  refine endA ?_
  sym =>
  simp [Zab,Zad,Zak,Zam,Zaz,Za0,Za1,Za2,Za3,Za4,Za5,Za6,Za7,Za9,Zba,Zbb,Zbd,Zbf,Zbt,Zbv,Zb1,Zb7,Zcn,Zcv,Zc1,Zc3,Zdc,Zdd,Zde,Zdi,Zdm,Zrj,Zrl,Zrm,Zrn,Zro,Zrp,Zrq,Zrr,Zrs,Zru,Zrv,Zrw,Zrx,Zry,Zrz,Zr0,Zr2,Zr9,Zsd,Zse,Zsf,Zsg,Zsh,Zsj,Zsm,Zsn,Zso,Zsp,Zsr,Zs0,Zs7,Zta,Ztf,Ztg,Zev,Zew,Zex,Zez,Ze0,Ze1,Ze2,Ze3,Ze5,Ze8,Zfc,Zfd,Zfe,Zfh,Zfi,Zfl,Zfn,Zfz,Zgr,Zgs,Zgt,Zgu,Zgw,Zgy,Zg4,Zg6,Zhb,Zhc,Zho,Zh6,Zh7,Zin,Zis,Zit,Ziu,Ziv,Ziw,Zi6,Zjh,Zji,Zjn,Zjr,Zjs,Zjw,Zj7,Zka,Zkx,Zky,Zk0,Zk1,Zla,Zlb,Zlc,Zld,Zle,Zlf,Zlh,Zlj,Zlk,Zlm,Zlr,Zlt,Zlx,Zlz,Zl2,Zmt,Zmv,Zmw,Zmx,Zmz,Zm2,Zm5,Zm6,Zm7,Zm9,Zna,Znb,Zne,Znf,Zng,Znh,Znn,Zno,Znp,Zn5,Zn7,Zrd,Zos,Zo7,Zo8,Zpc,List.length_replicate,eq_self,true_and,and_true,Nat.zero_add]
end Go.Proofs.Ytbmdahhhgpbchaa.OeA
