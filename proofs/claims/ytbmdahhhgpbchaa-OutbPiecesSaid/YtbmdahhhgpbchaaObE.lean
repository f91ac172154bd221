import Derived.Test.YtbmdahhhgpbchaaObC
namespace Go.Proofs.Ytbmdahhhgpbchaa.ObE
open Go Go.Sim Go.Sim.E Go.RowKit Go.Proofs Go.Proofs.Ytbmdahhhgpbchaa.Cod Go.Proofs.Ytbmdahhhgpbchaa.Tab Go.Proofs.Ytbmdahhhgpbchaa.Bse Go.Proofs.Ytbmdahhhgpbchaa.SpnP Go.Proofs.Ytbmdahhhgpbchaa.SwA Go.Proofs.Ytbmdahhhgpbchaa.SwB Go.Proofs.Ytbmdahhhgpbchaa.SwC Go.Proofs.Ytbmdahhhgpbchaa.SwS Go.Proofs.Ytbmdahhhgpbchaa.SwD Go.Proofs.Ytbmdahhhgpbchaa.SwF Go.Proofs.Ytbmdahhhgpbchaa.SwG Go.Proofs.Ytbmdahhhgpbchaa.SwL Go.Proofs.Ytbmdahhhgpbchaa.ObA Go.Proofs.Ytbmdahhhgpbchaa.ObB Go.Proofs.Ytbmdahhhgpbchaa.ObC
set_option linter.unusedVariables false
set_option linter.unusedSimpArgs false
set_option maxRecDepth 100000
set_option maxHeartbeats 4000000
abbrev Stp := Int × Int × List Rg
def enS (x : Stp) : List AV := [.sc (.int .u8 x.1), I x.2.1, fR x.2.2]
def cS (l : List Stp) : List AV := l.flatMap enS
abbrev fS (l : List Stp) : AV := .fz l.length (cS l)
@[simp] theorem cS_length (l : List Stp) : (cS l).length = l.length * 3 := flat_length enS 3 l (fun _ _ => rfl)
@[simp] theorem cS_okI (l : List Stp) : okI (cS l) := okI_flat (fun a => by simp [enS]) l
theorem cS_q0 (l : List Stp) (i : Nat) (h : i < l.length) : (cS l).getD (i * 3) .un = .sc (.int .u8 l[i].1) := by
  have := flat_at enS (s := 3) l (fun _ _ => rfl) i 0 h (by omega)
  rw [List.getD_eq_getElem?_getD]
  simpa [enS, cS, List.getElem?_eq_getElem h] using congrArg (fun x => x.getD AV.un) this
theorem cS_q1 (l : List Stp) (i : Nat) (h : i < l.length) : (cS l).getD (i * 3 + 1) .un = I l[i].2.1 := by
  have := flat_at enS (s := 3) l (fun _ _ => rfl) i 1 h (by omega)
  rw [List.getD_eq_getElem?_getD]
  simpa [enS, cS, List.getElem?_eq_getElem h] using congrArg (fun x => x.getD AV.un) this
theorem cS_q2 (l : List Stp) (i : Nat) (h : i < l.length) : (cS l).getD (i * 3 + 2) .un = fR l[i].2.2 := by
  have := flat_at enS (s := 3) l (fun _ _ => rfl) i 2 h (by omega)
  rw [List.getD_eq_getElem?_getD]
  simpa [enS, cS, List.getElem?_eq_getElem h] using congrArg (fun x => x.getD AV.un) this
theorem cS_takes (l : List Stp) (k : Nat) : (cS l).take (k * 3) = cS (l.take k) := by
  induction l generalizing k with
  | nil => simp [cS]
  | cons r l ih =>
    cases k with
    | zero => simp [cS]
    | succ k =>
      rw [show (k + 1) * 3 = k * 3 + 3 from by omega]
      show ([_, _, _] ++ cS l).take (k * 3 + 3) = [_, _, _] ++ cS (l.take k)
      simp [ih]
def oC (src : List Int) (t : Int) (s o : List Rg) (T : Tm) : List AV := [fB src, I t, fR s, fR o, Bo T.1, I T.2.1, I T.2.2]
def i6a (src : List Int) (l : List Stp) (s o : List Rg) (T : Tm) (k : Nat) (q : St) : Prop := ∃ (i : Nat) (own : List Int), i + k = src.length ∧ own.length = src.length ∧
  q = ⟨[(0, fB src), (1, fS l), (5, .lv 0 0 src.length), (6, .pt 1 0), (31, I (IN src.length)), (32, I (IN i))], [(0, ⟨cB own, 1, 0⟩), (1, ⟨oC src (IN src.length) s o T, 1, 0⟩)], 2⟩
def i6b (src : List Int) (t : Int) (q : List Stp) (k : Nat) (st : St) : Prop := ∃ (i : Nat) (s o : List Rg) (T : Tm), i + k = q.length ∧ Ok t s ∧ Ok t o ∧ TOk T ∧
  st = ⟨[(0, fB src), (6, .pt 0 0), (46, fS q), (47, I (IN q.length)), (48, I (IN i))], [(0, ⟨oC src t s o T, 1, 0⟩)], 1⟩
def i6c (src : List Int) (t : Int) (q : List Stp) (i : Nat) (x : Stp) (s o o2 : List Rg) (T : Tm) (rs : List Rg) (k : Nat) (st : St) : Prop := ∃ j : Nat, j + k = rs.length ∧
  st = ⟨[(0, fB src), (6, .pt 0 0), (10, .pt 1 0), (11, .pt 2 0), (46, fS q), (47, I (IN q.length)), (48, I (IN i)), (65, fP src rs), (66, I (IN rs.length)), (67, I (IN j))],
    [(0, ⟨oC src t s o T, 1, 0⟩), (1, ⟨[.sc (.int .u8 x.1), I x.2.1, fR x.2.2], 1, 0⟩), (2, ⟨oC src t s o2 T, 1, 0⟩)], 3⟩
def z300 : List Int := List.replicate 300 0
theorem z300_l : z300.length = 300 := by simp [z300]
theorem z300_c : List.replicate 300 (AV.sc (Value.int IntKind.u8 0)) = cB z300 := by simp [z300, cB, List.map_replicate]
theorem z300_i : IN z300.length = 300 := by rw [z300_l]; rfl
abbrev oz (s o : List Rg) (T : Tm) : AV := .ag [.fz 300 (cB z300), I 300, fR s, fR o, Bo T.1, I T.2.1, I T.2.2]
def L2 : List Rg := [(0, 256), (256, 300)]
def o2 : List Rg := [(0, 300)]
def twoT : Tm := (true, 2, 2)
theorem ozV (s o : List Rg) (T : Tm) : oV z300 300 s o T = oz s o T := by unfold oV oz fB; rw [z300_l]
theorem v1 : Con Try.prog 31 [(0, ⟨cB z300, 1, 0⟩)] [.lv 0 0 300, I 0] [(0, ⟨cB z300, 1, 0⟩)] (.tu [oz [] [] oneT, I 0]) := by
  have h := hnew_con z300 0 (by rw [z300_l]; omega) (by rw [z300_i]; decide)
  rw [z300_i] at h
  have e1 : addS [] 0 0 = [] := by decide
  have e2 : tmF 300 [] oneT = oneT := by decide
  rw [e1, e2] at h
  rw [ozV, z300_l] at h
  exact h
theorem v2 : Con Try.prog 32 [] [oz [] [] oneT] [] (.tu [oz [] o2 oneT, fP z300 L2]) := by
  have h := poll_con z300 [] [] oneT 300 z300_i.symm (by rw [z300_l]; omega) (Ok.nil _) (Ok.nil _) 0 (by decide)
  have e : pollF 300 [] 0 9 [] = (L2, o2) := by decide
  rw [e, ozV, ozV] at h
  exact h
theorem o2_ok : Ok 300 o2 := ((Ok.nil 300).add (by omega) 0 300 (by omega)).1
theorem v3 : Con Try.prog 32 [] [oz [] o2 oneT] [] (.tu [oz [] o2 oneT, fP z300 []]) := by
  have h := poll_con z300 [] o2 oneT 300 z300_i.symm (by rw [z300_l]; omega) (Ok.nil _) o2_ok 0 (by decide)
  have e : pollF 300 [] 0 9 o2 = ([], o2) := by decide
  rw [e, ozV] at h
  exact h
theorem v4 : Con Try.prog 35 [] [oz [] o2 oneT] [] (.tu [oz [] [] twoT, Bo true]) := by
  have h := btick_con z300 300 [] o2 oneT TOk.one
  have e : otF 300 [] o2 oneT = [] := by decide
  have e2 : tkF oneT = (twoT, true) := by decide
  rw [e, e2, ozV, ozV] at h
  exact h
theorem v5 : Con Try.prog 32 [] [oz [] [] twoT] [] (.tu [oz [] o2 twoT, fP z300 L2]) := by
  have h := poll_con z300 [] [] twoT 300 z300_i.symm (by rw [z300_l]; omega) (Ok.nil _) (Ok.nil _) 0 (by decide)
  have e : pollF 300 [] 0 9 [] = (L2, o2) := by decide
  rw [e, ozV, ozV] at h
  exact h
theorem v6 : Con Try.prog 33 [] [oz [] o2 twoT, I 300, .fz 0 []] [] (.tu [oz o2 [] offT, Bo true]) := by
  have h := back_con z300 300 [] o2 twoT 300 [] (by omega) (Ok.nil _) o2_ok (by simp)
  have e1 : acS 300 [] 300 [] = o2 := by decide
  have e2 : acO 300 [] o2 300 [] = [] := by decide
  have e3 : acT 300 [] 300 [] twoT = offT := by decide
  have e4 : acM 300 [] 300 [] = true := by decide
  rw [e1, e2, e3, e4, ozV, ozV] at h
  exact h
theorem v7 : Con Try.prog 36 [] [oz o2 [] offT] [] (Bo true) := by
  have h := bdone_con z300 300 o2 [] offT (by decide)
  rw [show decide (lfF 300 o2 = 0) = true from by decide, ozV] at h
  exact h
theorem v8 : Con Try.prog 37 [] [oz o2 [] offT] [] (I 0) := by
  have h := wait_con z300 300 o2 [] offT
  rw [ozV] at h
  exact h
theorem alive_con : Con Try.prog 30 [] [] [] (Bo true) := by
  have hL : (cP z300 L2).getD 3 .un = .fz 44 (cB (pc z300 (256, 300))) := by
    have h := cP_q1 z300 L2 1 (by decide)
    have h2 : (pc z300 (256, 300)).length = 44 := by simp [pc, z300]
    rw [show L2[1] = (256, 300) from rfl] at h
    unfold fB at h
    rw [h2] at h
    exact h
  have hl : L2.length = 2 := rfl
  refine con_j b30 rfl ?_
  sym =>
  simp [Zab,Zad,Zak,Zam,Zaz,Za0,Za1,Za2,Za3,Za4,Za5,Za6,Za7,Za9,Zba,Zbb,Zbd,Zbf,Zbt,Zbv,Zb1,Zb7,Zcn,Zcv,Zc1,Zc3,Zdc,Zdd,Zde,Zdi,Zdm,Zrj,Zrl,Zrm,Zrn,Zro,Zrp,Zrq,Zrr,Zrs,Zru,Zrv,Zrw,Zrx,Zry,Zrz,Zr0,Zr2,Zr9,Zsd,Zse,Zsf,Zsg,Zsh,Zsj,Zsm,Zsn,Zso,Zsp,Zsr,Zs0,Zs7,Zta,Ztf,Ztg,Zev,Zew,Zex,Zez,Ze0,Ze1,Ze2,Ze3,Ze5,Ze8,Zfc,Zfd,Zfe,Zfh,Zfi,Zfl,Zfn,Zfz,Zgr,Zgs,Zgt,Zgu,Zgw,Zgy,Zg4,Zg6,Zhb,Zhc,Zho,Zh6,Zh7,Zin,Zis,Zit,Ziu,Ziv,Ziw,Zi6,Zjh,Zji,Zjn,Zjr,Zjs,Zjw,Zj7,Zka,Zkx,Zky,Zk0,Zk1,Zla,Zlb,Zlc,Zld,Zle,Zlf,Zlh,Zlj,Zlk,Zlm,Zlr,Zlt,Zlx,Zlz,Zl2,Zmt,Zmv,Zmw,Zmx,Zmz,Zm2,Zm5,Zm6,Zm7,Zm9,Zna,Znb,Zne,Znf,Zng,Znh,Znn,Zno,Znp,Zn5,Zn7,Zrd,Zos,Zo7,Zo8,Zpc,List.length_replicate,eq_self,true_and,and_true,Nat.zero_add]
  tactic =>
  rw [z300_c]
  refine ⟨callable_31, cB_okI _, ?_⟩
  refine clG [some ⟨cB z300, 1, 0⟩] none v1 rfl ⟨⟨cB_okI _, trivial⟩, trivial, rfl⟩ ?_
  sym =>
  simp [Zab,Zad,Zak,Zam,Zaz,Za0,Za1,Za2,Za3,Za4,Za5,Za6,Za7,Za9,Zba,Zbb,Zbd,Zbf,Zbt,Zbv,Zb1,Zb7,Zcn,Zcv,Zc1,Zc3,Zdc,Zdd,Zde,Zdi,Zdm,Zrj,Zrl,Zrm,Zrn,Zro,Zrp,Zrq,Zrr,Zrs,Zru,Zrv,Zrw,Zrx,Zry,Zrz,Zr0,Zr2,Zr9,Zsd,Zse,Zsf,Zsg,Zsh,Zsj,Zsm,Zsn,Zso,Zsp,Zsr,Zs0,Zs7,Zta,Ztf,Ztg,Zev,Zew,Zex,Zez,Ze0,Ze1,Ze2,Ze3,Ze5,Ze8,Zfc,Zfd,Zfe,Zfh,Zfi,Zfl,Zfn,Zfz,Zgr,Zgs,Zgt,Zgu,Zgw,Zgy,Zg4,Zg6,Zhb,Zhc,Zho,Zh6,Zh7,Zin,Zis,Zit,Ziu,Ziv,Ziw,Zi6,Zjh,Zji,Zjn,Zjr,Zjs,Zjw,Zj7,Zka,Zkx,Zky,Zk0,Zk1,Zla,Zlb,Zlc,Zld,Zle,Zlf,Zlh,Zlj,Zlk,Zlm,Zlr,Zlt,Zlx,Zlz,Zl2,Zmt,Zmv,Zmw,Zmx,Zmz,Zm2,Zm5,Zm6,Zm7,Zm9,Zna,Znb,Zne,Znf,Zng,Znh,Znn,Zno,Znp,Zn5,Zn7,Zrd,Zos,Zo7,Zo8,Zpc,List.length_replicate,eq_self,true_and,and_true,Nat.zero_add,callable_32]
  tactic =>
  refine cl none (v2) trivial ?_
  sym =>
  simp [Zab,Zad,Zak,Zam,Zaz,Za0,Za1,Za2,Za3,Za4,Za5,Za6,Za7,Za9,Zba,Zbb,Zbd,Zbf,Zbt,Zbv,Zb1,Zb7,Zcn,Zcv,Zc1,Zc3,Zdc,Zdd,Zde,Zdi,Zdm,Zrj,Zrl,Zrm,Zrn,Zro,Zrp,Zrq,Zrr,Zrs,Zru,Zrv,Zrw,Zrx,Zry,Zrz,Zr0,Zr2,Zr9,Zsd,Zse,Zsf,Zsg,Zsh,Zsj,Zsm,Zsn,Zso,Zsp,Zsr,Zs0,Zs7,Zta,Ztf,Ztg,Zev,Zew,Zex,Zez,Ze0,Ze1,Ze2,Ze3,Ze5,Ze8,Zfc,Zfd,Zfe,Zfh,Zfi,Zfl,Zfn,Zfz,Zgr,Zgs,Zgt,Zgu,Zgw,Zgy,Zg4,Zg6,Zhb,Zhc,Zho,Zh6,Zh7,Zin,Zis,Zit,Ziu,Ziv,Ziw,Zi6,Zjh,Zji,Zjn,Zjr,Zjs,Zjw,Zj7,Zka,Zkx,Zky,Zk0,Zk1,Zla,Zlb,Zlc,Zld,Zle,Zlf,Zlh,Zlj,Zlk,Zlm,Zlr,Zlt,Zlx,Zlz,Zl2,Zmt,Zmv,Zmw,Zmx,Zmz,Zm2,Zm5,Zm6,Zm7,Zm9,Zna,Znb,Zne,Znf,Zng,Znh,Znn,Zno,Znp,Zn5,Zn7,Zrd,Zos,Zo7,Zo8,Zpc,List.length_replicate,eq_self,true_and,and_true,Nat.zero_add,callable_32]
  tactic =>
  refine cl none (v3) trivial ?_
  sym =>
  simp [Zab,Zad,Zak,Zam,Zaz,Za0,Za1,Za2,Za3,Za4,Za5,Za6,Za7,Za9,Zba,Zbb,Zbd,Zbf,Zbt,Zbv,Zb1,Zb7,Zcn,Zcv,Zc1,Zc3,Zdc,Zdd,Zde,Zdi,Zdm,Zrj,Zrl,Zrm,Zrn,Zro,Zrp,Zrq,Zrr,Zrs,Zru,Zrv,Zrw,Zrx,Zry,Zrz,Zr0,Zr2,Zr9,Zsd,Zse,Zsf,Zsg,Zsh,Zsj,Zsm,Zsn,Zso,Zsp,Zsr,Zs0,Zs7,Zta,Ztf,Ztg,Zev,Zew,Zex,Zez,Ze0,Ze1,Ze2,Ze3,Ze5,Ze8,Zfc,Zfd,Zfe,Zfh,Zfi,Zfl,Zfn,Zfz,Zgr,Zgs,Zgt,Zgu,Zgw,Zgy,Zg4,Zg6,Zhb,Zhc,Zho,Zh6,Zh7,Zin,Zis,Zit,Ziu,Ziv,Ziw,Zi6,Zjh,Zji,Zjn,Zjr,Zjs,Zjw,Zj7,Zka,Zkx,Zky,Zk0,Zk1,Zla,Zlb,Zlc,Zld,Zle,Zlf,Zlh,Zlj,Zlk,Zlm,Zlr,Zlt,Zlx,Zlz,Zl2,Zmt,Zmv,Zmw,Zmx,Zmz,Zm2,Zm5,Zm6,Zm7,Zm9,Zna,Znb,Zne,Znf,Zng,Znh,Znn,Zno,Znp,Zn5,Zn7,Zrd,Zos,Zo7,Zo8,Zpc,List.length_replicate,eq_self,true_and,and_true,Nat.zero_add,callable_35]
  tactic =>
  refine cl none (v4) trivial ?_
  sym =>
  simp [Zab,Zad,Zak,Zam,Zaz,Za0,Za1,Za2,Za3,Za4,Za5,Za6,Za7,Za9,Zba,Zbb,Zbd,Zbf,Zbt,Zbv,Zb1,Zb7,Zcn,Zcv,Zc1,Zc3,Zdc,Zdd,Zde,Zdi,Zdm,Zrj,Zrl,Zrm,Zrn,Zro,Zrp,Zrq,Zrr,Zrs,Zru,Zrv,Zrw,Zrx,Zry,Zrz,Zr0,Zr2,Zr9,Zsd,Zse,Zsf,Zsg,Zsh,Zsj,Zsm,Zsn,Zso,Zsp,Zsr,Zs0,Zs7,Zta,Ztf,Ztg,Zev,Zew,Zex,Zez,Ze0,Ze1,Ze2,Ze3,Ze5,Ze8,Zfc,Zfd,Zfe,Zfh,Zfi,Zfl,Zfn,Zfz,Zgr,Zgs,Zgt,Zgu,Zgw,Zgy,Zg4,Zg6,Zhb,Zhc,Zho,Zh6,Zh7,Zin,Zis,Zit,Ziu,Ziv,Ziw,Zi6,Zjh,Zji,Zjn,Zjr,Zjs,Zjw,Zj7,Zka,Zkx,Zky,Zk0,Zk1,Zla,Zlb,Zlc,Zld,Zle,Zlf,Zlh,Zlj,Zlk,Zlm,Zlr,Zlt,Zlx,Zlz,Zl2,Zmt,Zmv,Zmw,Zmx,Zmz,Zm2,Zm5,Zm6,Zm7,Zm9,Zna,Znb,Zne,Znf,Zng,Znh,Znn,Zno,Znp,Zn5,Zn7,Zrd,Zos,Zo7,Zo8,Zpc,List.length_replicate,eq_self,true_and,and_true,Nat.zero_add,callable_32]
  tactic =>
  refine cl none (v5) trivial ?_
  sym =>
  simp [Zab,Zad,Zak,Zam,Zaz,Za0,Za1,Za2,Za3,Za4,Za5,Za6,Za7,Za9,Zba,Zbb,Zbd,Zbf,Zbt,Zbv,Zb1,Zb7,Zcn,Zcv,Zc1,Zc3,Zdc,Zdd,Zde,Zdi,Zdm,Zrj,Zrl,Zrm,Zrn,Zro,Zrp,Zrq,Zrr,Zrs,Zru,Zrv,Zrw,Zrx,Zry,Zrz,Zr0,Zr2,Zr9,Zsd,Zse,Zsf,Zsg,Zsh,Zsj,Zsm,Zsn,Zso,Zsp,Zsr,Zs0,Zs7,Zta,Ztf,Ztg,Zev,Zew,Zex,Zez,Ze0,Ze1,Ze2,Ze3,Ze5,Ze8,Zfc,Zfd,Zfe,Zfh,Zfi,Zfl,Zfn,Zfz,Zgr,Zgs,Zgt,Zgu,Zgw,Zgy,Zg4,Zg6,Zhb,Zhc,Zho,Zh6,Zh7,Zin,Zis,Zit,Ziu,Ziv,Ziw,Zi6,Zjh,Zji,Zjn,Zjr,Zjs,Zjw,Zj7,Zka,Zkx,Zky,Zk0,Zk1,Zla,Zlb,Zlc,Zld,Zle,Zlf,Zlh,Zlj,Zlk,Zlm,Zlr,Zlt,Zlx,Zlz,Zl2,Zmt,Zmv,Zmw,Zmx,Zmz,Zm2,Zm5,Zm6,Zm7,Zm9,Zna,Znb,Zne,Znf,Zng,Znh,Znn,Zno,Znp,Zn5,Zn7,Zrd,Zos,Zo7,Zo8,Zpc,List.length_replicate,eq_self,true_and,and_true,Nat.zero_add,callable_33]
  tactic =>
  refine cl none (v6) trivial ?_
  have h44 : IN 44 = 44 := rfl
  sym =>
  simp [Zab,Zad,Zak,Zam,Zaz,Za0,Za1,Za2,Za3,Za4,Za5,Za6,Za7,Za9,Zba,Zbb,Zbd,Zbf,Zbt,Zbv,Zb1,Zb7,Zcn,Zcv,Zc1,Zc3,Zdc,Zdd,Zde,Zdi,Zdm,Zrj,Zrl,Zrm,Zrn,Zro,Zrp,Zrq,Zrr,Zrs,Zru,Zrv,Zrw,Zrx,Zry,Zrz,Zr0,Zr2,Zr9,Zsd,Zse,Zsf,Zsg,Zsh,Zsj,Zsm,Zsn,Zso,Zsp,Zsr,Zs0,Zs7,Zta,Ztf,Ztg,Zev,Zew,Zex,Zez,Ze0,Ze1,Ze2,Ze3,Ze5,Ze8,Zfc,Zfd,Zfe,Zfh,Zfi,Zfl,Zfn,Zfz,Zgr,Zgs,Zgt,Zgu,Zgw,Zgy,Zg4,Zg6,Zhb,Zhc,Zho,Zh6,Zh7,Zin,Zis,Zit,Ziu,Ziv,Ziw,Zi6,Zjh,Zji,Zjn,Zjr,Zjs,Zjw,Zj7,Zka,Zkx,Zky,Zk0,Zk1,Zla,Zlb,Zlc,Zld,Zle,Zlf,Zlh,Zlj,Zlk,Zlm,Zlr,Zlt,Zlx,Zlz,Zl2,Zmt,Zmv,Zmw,Zmx,Zmz,Zm2,Zm5,Zm6,Zm7,Zm9,Zna,Znb,Zne,Znf,Zng,Znh,Znn,Zno,Znp,Zn5,Zn7,Zrd,Zos,Zo7,Zo8,Zpc,List.length_replicate,eq_self,true_and,and_true,Nat.zero_add,hl,hL,h44,callable_36]
  tactic =>
  refine ⟨by rw [cP_length]; decide, by rw [cP_length]; decide, ?_⟩
  refine cl none (v7) trivial ?_
  sym =>
  simp [Zab,Zad,Zak,Zam,Zaz,Za0,Za1,Za2,Za3,Za4,Za5,Za6,Za7,Za9,Zba,Zbb,Zbd,Zbf,Zbt,Zbv,Zb1,Zb7,Zcn,Zcv,Zc1,Zc3,Zdc,Zdd,Zde,Zdi,Zdm,Zrj,Zrl,Zrm,Zrn,Zro,Zrp,Zrq,Zrr,Zrs,Zru,Zrv,Zrw,Zrx,Zry,Zrz,Zr0,Zr2,Zr9,Zsd,Zse,Zsf,Zsg,Zsh,Zsj,Zsm,Zsn,Zso,Zsp,Zsr,Zs0,Zs7,Zta,Ztf,Ztg,Zev,Zew,Zex,Zez,Ze0,Ze1,Ze2,Ze3,Ze5,Ze8,Zfc,Zfd,Zfe,Zfh,Zfi,Zfl,Zfn,Zfz,Zgr,Zgs,Zgt,Zgu,Zgw,Zgy,Zg4,Zg6,Zhb,Zhc,Zho,Zh6,Zh7,Zin,Zis,Zit,Ziu,Ziv,Ziw,Zi6,Zjh,Zji,Zjn,Zjr,Zjs,Zjw,Zj7,Zka,Zkx,Zky,Zk0,Zk1,Zla,Zlb,Zlc,Zld,Zle,Zlf,Zlh,Zlj,Zlk,Zlm,Zlr,Zlt,Zlx,Zlz,Zl2,Zmt,Zmv,Zmw,Zmx,Zmz,Zm2,Zm5,Zm6,Zm7,Zm9,Zna,Znb,Zne,Znf,Zng,Znh,Znn,Zno,Znp,Zn5,Zn7,Zrd,Zos,Zo7,Zo8,Zpc,List.length_replicate,eq_self,true_and,and_true,Nat.zero_add,callable_37]
  tactic =>
  refine cl none (v8) trivial ?_
  sym =>
  simp [Zab,Zad,Zak,Zam,Zaz,Za0,Za1,Za2,Za3,Za4,Za5,Za6,Za7,Za9,Zba,Zbb,Zbd,Zbf,Zbt,Zbv,Zb1,Zb7,Zcn,Zcv,Zc1,Zc3,Zdc,Zdd,Zde,Zdi,Zdm,Zrj,Zrl,Zrm,Zrn,Zro,Zrp,Zrq,Zrr,Zrs,Zru,Zrv,Zrw,Zrx,Zry,Zrz,Zr0,Zr2,Zr9,Zsd,Zse,Zsf,Zsg,Zsh,Zsj,Zsm,Zsn,Zso,Zsp,Zsr,Zs0,Zs7,Zta,Ztf,Ztg,Zev,Zew,Zex,Zez,Ze0,Ze1,Ze2,Ze3,Ze5,Ze8,Zfc,Zfd,Zfe,Zfh,Zfi,Zfl,Zfn,Zfz,Zgr,Zgs,Zgt,Zgu,Zgw,Zgy,Zg4,Zg6,Zhb,Zhc,Zho,Zh6,Zh7,Zin,Zis,Zit,Ziu,Ziv,Ziw,Zi6,Zjh,Zji,Zjn,Zjr,Zjs,Zjw,Zj7,Zka,Zkx,Zky,Zk0,Zk1,Zla,Zlb,Zlc,Zld,Zle,Zlf,Zlh,Zlj,Zlk,Zlm,Zlr,Zlt,Zlx,Zlz,Zl2,Zmt,Zmv,Zmw,Zmx,Zmz,Zm2,Zm5,Zm6,Zm7,Zm9,Zna,Znb,Zne,Znf,Zng,Znh,Znn,Zno,Znp,Zn5,Zn7,Zrd,Zos,Zo7,Zo8,Zpc,List.length_replicate,eq_self,true_and,and_true,Nat.zero_add]
  tactic =>
  refine endA ?_
  sym =>
  simp [Zab,Zad,Zak,Zam,Zaz,Za0,Za1,Za2,Za3,Za4,Za5,Za6,Za7,Za9,Zba,Zbb,Zbd,Zbf,Zbt,Zbv,Zb1,Zb7,Zcn,Zcv,Zc1,Zc3,Zdc,Zdd,Zde,Zdi,Zdm,Zrj,Zrl,Zrm,Zrn,Zro,Zrp,Zrq,Zrr,Zrs,Zru,Zrv,Zrw,Zrx,Zry,Zrz,Zr0,Zr2,Zr9,Zsd,Zse,Zsf,Zsg,Zsh,Zsj,Zsm,Zsn,Zso,Zsp,Zsr,Zs0,Zs7,Zta,Ztf,Ztg,Zev,Zew,Zex,Zez,Ze0,Ze1,Ze2,Ze3,Ze5,Ze8,Zfc,Zfd,Zfe,Zfh,Zfi,Zfl,Zfn,Zfz,Zgr,Zgs,Zgt,Zgu,Zgw,Zgy,Zg4,Zg6,Zhb,Zhc,Zho,Zh6,Zh7,Zin,Zis,Zit,Ziu,Ziv,Ziw,Zi6,Zjh,Zji,Zjn,Zjr,Zjs,Zjw,Zj7,Zka,Zkx,Zky,Zk0,Zk1,Zla,Zlb,Zlc,Zld,Zle,Zlf,Zlh,Zlj,Zlk,Zlm,Zlr,Zlt,Zlx,Zlz,Zl2,Zmt,Zmv,Zmw,Zmx,Zmz,Zm2,Zm5,Zm6,Zm7,Zm9,Zna,Znb,Zne,Znf,Zng,Znh,Znn,Zno,Znp,Zn5,Zn7,Zrd,Zos,Zo7,Zo8,Zpc,List.length_replicate,eq_self,true_and,and_true,Nat.zero_add]
theorem pieces_con (src : List Int) (l : List Stp) : Con Try.prog 6 [] [fB src, fS l] [] (Bo true) := by
  refine con_j b6 rfl ?_
  by_cases h8 : (8000 : Int) < IN src.length
  · sym =>
    simp [Zaa,Zab,Zac,Zad,Zae,Zaf,Zag,Zah,Zai,Zak,Zal,Zam,Zan,Zao,Zap,Zaq,Zav,Zaw,Zay,Zaz,Za0,Za1,Za2,Za3,Za4,Za5,Za6,Za7,Za9,Zba,Zbb,Zbc,Zbd,Zbe,Zbf,Zbg,Zbk,Zbt,Zbu,Zbv,Zbw,Zb1,Zb7,Zch,Zci,Zcn,Zco,Zct,Zcv,Zc3,Zc5,Zc7,Zc8,Zdc,Zdd,Zde,Zdf,Zdg,Zdh,Zdi,Zdj,Zdk,Zdm,Zrj,Zrl,Zrm,Zrn,Zro,Zrp,Zrq,Zrr,Zrs,Zru,Zrv,Zrw,Zrx,Zry,Zrz,Zr0,Zr2,Zr9,Zsd,Zse,Zsf,Zsg,Zsh,Zsj,Zsm,Zsn,Zso,Zsp,Zsr,Zs0,Zs7,Zta,Ztf,Ztg,Zdo,Zdp,Zdq,Zdr,Zdt,Zdu,Zdv,Zdw,Zdx,Zdy,Zdz,Zd0,Zd1,Zd2,Zeb,Zek,Zeq,Zet,Zev,Zew,Zex,Zez,Ze0,Ze1,Ze2,Ze3,Ze5,Ze8,Zfc,Zfd,Zfe,Zfh,Zfi,Zfl,Zfn,Zfq,Zfz,Zf0,Zf1,Zf3,Zgd,Zgg,Zgr,Zgs,Zgt,Zgu,Zgv,Zgw,Zgx,Zg4,Zg5,Zg6,Zhb,Zhc,Zhm,Zhn,Zho,Zhs,Zht,Zhu,Zh6,Zh7,Zh9,Zif,Zig,Zik,Zil,Zim,Zin,Ziu,Ziv,Ziw,Zix,Ziy,Zi1,Zi6,Zi7,Zjh,Zji,Zjn,Zjr,Zjs,Zjw,Zj7,Zka,Zkx,Zky,Zk0,Zk1,Zla,Zlb,Zlc,Zld,Zle,Zlf,Zlh,Zlj,Zlk,Zll,Zlm,Zlr,Zlt,Zlx,Zlz,Zl2,Zmt,Zmv,Zmw,Zmx,Zmz,Zm2,Zm5,Zm6,Zm7,Zm9,Zna,Znb,Zne,Znf,Zng,Znh,Znn,Zno,Znp,Znr,Zns,Znt,Znu,Znw,Zn5,Zrd,Zos,Zot,Zov,Zo3,Zo7,Zo8,Zo9,Zpa,Zpc,Zpg,Zpi,Zpo,Zpu,Zqb,Zqc,Zqf,Zqg,Zqh,Zqi,Zqk,Zql,Zqm,Zqn,List.length_drop,List.length_set,eq_self,true_and,and_true,Nat.zero_add,Nat.mul_one,Nat.sub_zero,h8,callable_30]
    tactic =>
    refine cl none (alive_con) trivial ?_
    sym =>
    simp [Zaa,Zab,Zac,Zad,Zae,Zaf,Zag,Zah,Zai,Zak,Zal,Zam,Zan,Zao,Zap,Zaq,Zav,Zaw,Zay,Zaz,Za0,Za1,Za2,Za3,Za4,Za5,Za6,Za7,Za9,Zba,Zbb,Zbc,Zbd,Zbe,Zbf,Zbg,Zbk,Zbt,Zbu,Zbv,Zbw,Zb1,Zb7,Zch,Zci,Zcn,Zco,Zct,Zcv,Zc3,Zc5,Zc7,Zc8,Zdc,Zdd,Zde,Zdf,Zdg,Zdh,Zdi,Zdj,Zdk,Zdm,Zrj,Zrl,Zrm,Zrn,Zro,Zrp,Zrq,Zrr,Zrs,Zru,Zrv,Zrw,Zrx,Zry,Zrz,Zr0,Zr2,Zr9,Zsd,Zse,Zsf,Zsg,Zsh,Zsj,Zsm,Zsn,Zso,Zsp,Zsr,Zs0,Zs7,Zta,Ztf,Ztg,Zdo,Zdp,Zdq,Zdr,Zdt,Zdu,Zdv,Zdw,Zdx,Zdy,Zdz,Zd0,Zd1,Zd2,Zeb,Zek,Zeq,Zet,Zev,Zew,Zex,Zez,Ze0,Ze1,Ze2,Ze3,Ze5,Ze8,Zfc,Zfd,Zfe,Zfh,Zfi,Zfl,Zfn,Zfq,Zfz,Zf0,Zf1,Zf3,Zgd,Zgg,Zgr,Zgs,Zgt,Zgu,Zgv,Zgw,Zgx,Zg4,Zg5,Zg6,Zhb,Zhc,Zhm,Zhn,Zho,Zhs,Zht,Zhu,Zh6,Zh7,Zh9,Zif,Zig,Zik,Zil,Zim,Zin,Ziu,Ziv,Ziw,Zix,Ziy,Zi1,Zi6,Zi7,Zjh,Zji,Zjn,Zjr,Zjs,Zjw,Zj7,Zka,Zkx,Zky,Zk0,Zk1,Zla,Zlb,Zlc,Zld,Zle,Zlf,Zlh,Zlj,Zlk,Zll,Zlm,Zlr,Zlt,Zlx,Zlz,Zl2,Zmt,Zmv,Zmw,Zmx,Zmz,Zm2,Zm5,Zm6,Zm7,Zm9,Zna,Znb,Zne,Znf,Zng,Znh,Znn,Zno,Znp,Znr,Zns,Znt,Znu,Znw,Zn5,Zrd,Zos,Zot,Zov,Zo3,Zo7,Zo8,Zo9,Zpa,Zpc,Zpg,Zpi,Zpo,Zpu,Zqb,Zqc,Zqf,Zqg,Zqh,Zqi,Zqk,Zql,Zqm,Zqn,List.length_drop,List.length_set,eq_self,true_and,and_true,Nat.zero_add,Nat.mul_one,Nat.sub_zero]
    tactic =>
    refine endA ?_
    sym =>
    simp [Zaa,Zab,Zac,Zad,Zae,Zaf,Zag,Zah,Zai,Zak,Zal,Zam,Zan,Zao,Zap,Zaq,Zav,Zaw,Zay,Zaz,Za0,Za1,Za2,Za3,Za4,Za5,Za6,Za7,Za9,Zba,Zbb,Zbc,Zbd,Zbe,Zbf,Zbg,Zbk,Zbt,Zbu,Zbv,Zbw,Zb1,Zb7,Zch,Zci,Zcn,Zco,Zct,Zcv,Zc3,Zc5,Zc7,Zc8,Zdc,Zdd,Zde,Zdf,Zdg,Zdh,Zdi,Zdj,Zdk,Zdm,Zrj,Zrl,Zrm,Zrn,Zro,Zrp,Zrq,Zrr,Zrs,Zru,Zrv,Zrw,Zrx,Zry,Zrz,Zr0,Zr2,Zr9,Zsd,Zse,Zsf,Zsg,Zsh,Zsj,Zsm,Zsn,Zso,Zsp,Zsr,Zs0,Zs7,Zta,Ztf,Ztg,Zdo,Zdp,Zdq,Zdr,Zdt,Zdu,Zdv,Zdw,Zdx,Zdy,Zdz,Zd0,Zd1,Zd2,Zeb,Zek,Zeq,Zet,Zev,Zew,Zex,Zez,Ze0,Ze1,Ze2,Ze3,Ze5,Ze8,Zfc,Zfd,Zfe,Zfh,Zfi,Zfl,Zfn,Zfq,Zfz,Zf0,Zf1,Zf3,Zgd,Zgg,Zgr,Zgs,Zgt,Zgu,Zgv,Zgw,Zgx,Zg4,Zg5,Zg6,Zhb,Zhc,Zhm,Zhn,Zho,Zhs,Zht,Zhu,Zh6,Zh7,Zh9,Zif,Zig,Zik,Zil,Zim,Zin,Ziu,Ziv,Ziw,Zix,Ziy,Zi1,Zi6,Zi7,Zjh,Zji,Zjn,Zjr,Zjs,Zjw,Zj7,Zka,Zkx,Zky,Zk0,Zk1,Zla,Zlb,Zlc,Zld,Zle,Zlf,Zlh,Zlj,Zlk,Zll,Zlm,Zlr,Zlt,Zlx,Zlz,Zl2,Zmt,Zmv,Zmw,Zmx,Zmz,Zm2,Zm5,Zm6,Zm7,Zm9,Zna,Znb,Zne,Znf,Zng,Znh,Znn,Zno,Znp,Znr,Zns,Znt,Znu,Znw,Zn5,Zrd,Zos,Zot,Zov,Zo3,Zo7,Zo8,Zo9,Zpa,Zpc,Zpg,Zpi,Zpo,Zpu,Zqb,Zqc,Zqf,Zqg,Zqh,Zqi,Zqk,Zql,Zqm,Zqn,List.length_drop,List.length_set,eq_self,true_and,and_true,Nat.zero_add,Nat.mul_one,Nat.sub_zero]
  have h80 : src.length ≤ 8000 := by simp only [IN] at h8; omega
  have hp : plF (IN src.length) 0 = true := by rw [plF_iff]; exact ⟨Int.le_refl _, by simp only [IN]; omega, .inl rfl⟩
  have ht2 : 0 ≤ IN src.length ∧ IN src.length ≤ 20000 := by simp only [IN]; omega
  have ht : 0 ≤ IN src.length ∧ IN src.length ≤ 1099511627776 := by omega
  sym =>
  simp [Zaa,Zab,Zac,Zad,Zae,Zaf,Zag,Zah,Zai,Zak,Zal,Zam,Zan,Zao,Zap,Zaq,Zav,Zaw,Zay,Zaz,Za0,Za1,Za2,Za3,Za4,Za5,Za6,Za7,Za9,Zba,Zbb,Zbc,Zbd,Zbe,Zbf,Zbg,Zbk,Zbt,Zbu,Zbv,Zbw,Zb1,Zb7,Zch,Zci,Zcn,Zco,Zct,Zcv,Zc3,Zc5,Zc7,Zc8,Zdc,Zdd,Zde,Zdf,Zdg,Zdh,Zdi,Zdj,Zdk,Zdm,Zrj,Zrl,Zrm,Zrn,Zro,Zrp,Zrq,Zrr,Zrs,Zru,Zrv,Zrw,Zrx,Zry,Zrz,Zr0,Zr2,Zr9,Zsd,Zse,Zsf,Zsg,Zsh,Zsj,Zsm,Zsn,Zso,Zsp,Zsr,Zs0,Zs7,Zta,Ztf,Ztg,Zdo,Zdp,Zdq,Zdr,Zdt,Zdu,Zdv,Zdw,Zdx,Zdy,Zdz,Zd0,Zd1,Zd2,Zeb,Zek,Zeq,Zet,Zev,Zew,Zex,Zez,Ze0,Ze1,Ze2,Ze3,Ze5,Ze8,Zfc,Zfd,Zfe,Zfh,Zfi,Zfl,Zfn,Zfq,Zfz,Zf0,Zf1,Zf3,Zgd,Zgg,Zgr,Zgs,Zgt,Zgu,Zgv,Zgw,Zgx,Zg4,Zg5,Zg6,Zhb,Zhc,Zhm,Zhn,Zho,Zhs,Zht,Zhu,Zh6,Zh7,Zh9,Zif,Zig,Zik,Zil,Zim,Zin,Ziu,Ziv,Ziw,Zix,Ziy,Zi1,Zi6,Zi7,Zjh,Zji,Zjn,Zjr,Zjs,Zjw,Zj7,Zka,Zkx,Zky,Zk0,Zk1,Zla,Zlb,Zlc,Zld,Zle,Zlf,Zlh,Zlj,Zlk,Zll,Zlm,Zlr,Zlt,Zlx,Zlz,Zl2,Zmt,Zmv,Zmw,Zmx,Zmz,Zm2,Zm5,Zm6,Zm7,Zm9,Zna,Znb,Zne,Znf,Zng,Znh,Znn,Zno,Znp,Znr,Zns,Znt,Znu,Znw,Zn5,Zrd,Zos,Zot,Zov,Zo3,Zo7,Zo8,Zo9,Zpa,Zpc,Zpg,Zpi,Zpo,Zpu,Zqb,Zqc,Zqf,Zqg,Zqh,Zqi,Zqk,Zql,Zqm,Zqn,List.length_drop,List.length_set,eq_self,true_and,and_true,Nat.zero_add,Nat.mul_one,Nat.sub_zero,h8]
  tactic =>
  refine ⟨⟨cB_length _, cB_okF _, by omega, by omega⟩, ?_⟩
  sym =>
  simp [Zaa,Zab,Zac,Zad,Zae,Zaf,Zag,Zah,Zai,Zak,Zal,Zam,Zan,Zao,Zap,Zaq,Zav,Zaw,Zay,Zaz,Za0,Za1,Za2,Za3,Za4,Za5,Za6,Za7,Za9,Zba,Zbb,Zbc,Zbd,Zbe,Zbf,Zbg,Zbk,Zbt,Zbu,Zbv,Zbw,Zb1,Zb7,Zch,Zci,Zcn,Zco,Zct,Zcv,Zc3,Zc5,Zc7,Zc8,Zdc,Zdd,Zde,Zdf,Zdg,Zdh,Zdi,Zdj,Zdk,Zdm,Zrj,Zrl,Zrm,Zrn,Zro,Zrp,Zrq,Zrr,Zrs,Zru,Zrv,Zrw,Zrx,Zry,Zrz,Zr0,Zr2,Zr9,Zsd,Zse,Zsf,Zsg,Zsh,Zsj,Zsm,Zsn,Zso,Zsp,Zsr,Zs0,Zs7,Zta,Ztf,Ztg,Zdo,Zdp,Zdq,Zdr,Zdt,Zdu,Zdv,Zdw,Zdx,Zdy,Zdz,Zd0,Zd1,Zd2,Zeb,Zek,Zeq,Zet,Zev,Zew,Zex,Zez,Ze0,Ze1,Ze2,Ze3,Ze5,Ze8,Zfc,Zfd,Zfe,Zfh,Zfi,Zfl,Zfn,Zfq,Zfz,Zf0,Zf1,Zf3,Zgd,Zgg,Zgr,Zgs,Zgt,Zgu,Zgv,Zgw,Zgx,Zg4,Zg5,Zg6,Zhb,Zhc,Zhm,Zhn,Zho,Zhs,Zht,Zhu,Zh6,Zh7,Zh9,Zif,Zig,Zik,Zil,Zim,Zin,Ziu,Ziv,Ziw,Zix,Ziy,Zi1,Zi6,Zi7,Zjh,Zji,Zjn,Zjr,Zjs,Zjw,Zj7,Zka,Zkx,Zky,Zk0,Zk1,Zla,Zlb,Zlc,Zld,Zle,Zlf,Zlh,Zlj,Zlk,Zll,Zlm,Zlr,Zlt,Zlx,Zlz,Zl2,Zmt,Zmv,Zmw,Zmx,Zmz,Zm2,Zm5,Zm6,Zm7,Zm9,Zna,Znb,Zne,Znf,Zng,Znh,Znn,Zno,Znp,Znr,Zns,Znt,Znu,Znw,Zn5,Zrd,Zos,Zot,Zov,Zo3,Zo7,Zo8,Zo9,Zpa,Zpc,Zpg,Zpi,Zpo,Zpu,Zqb,Zqc,Zqf,Zqg,Zqh,Zqi,Zqk,Zql,Zqm,Zqn,List.length_drop,List.length_set,eq_self,true_and,and_true,Nat.zero_add,Nat.mul_one,Nat.sub_zero,callable_31]
  tactic =>
  refine ⟨cB_okI _, ?_⟩
  refine clG [some ⟨cB src, 1, 0⟩] none (hnew_con src 0 (by omega) hp) rfl ⟨⟨cB_okI _, trivial⟩, trivial, rfl⟩ ?_
  have hs0 : Ok (IN src.length) (addS [] 0 0) := Ok.nil _
  have hT0 : TOk (tmF (IN src.length) (addS [] 0 0) oneT) := TOk.timed TOk.one
  generalize addS [] 0 0 = s0 at *
  generalize tmF (IN src.length) s0 oneT = T0 at *
  sym =>
  simp [Zaa,Zab,Zac,Zad,Zae,Zaf,Zag,Zah,Zai,Zak,Zal,Zam,Zan,Zao,Zap,Zaq,Zav,Zaw,Zay,Zaz,Za0,Za1,Za2,Za3,Za4,Za5,Za6,Za7,Za9,Zba,Zbb,Zbc,Zbd,Zbe,Zbf,Zbg,Zbk,Zbt,Zbu,Zbv,Zbw,Zb1,Zb7,Zch,Zci,Zcn,Zco,Zct,Zcv,Zc3,Zc5,Zc7,Zc8,Zdc,Zdd,Zde,Zdf,Zdg,Zdh,Zdi,Zdj,Zdk,Zdm,Zrj,Zrl,Zrm,Zrn,Zro,Zrp,Zrq,Zrr,Zrs,Zru,Zrv,Zrw,Zrx,Zry,Zrz,Zr0,Zr2,Zr9,Zsd,Zse,Zsf,Zsg,Zsh,Zsj,Zsm,Zsn,Zso,Zsp,Zsr,Zs0,Zs7,Zta,Ztf,Ztg,Zdo,Zdp,Zdq,Zdr,Zdt,Zdu,Zdv,Zdw,Zdx,Zdy,Zdz,Zd0,Zd1,Zd2,Zeb,Zek,Zeq,Zet,Zev,Zew,Zex,Zez,Ze0,Ze1,Ze2,Ze3,Ze5,Ze8,Zfc,Zfd,Zfe,Zfh,Zfi,Zfl,Zfn,Zfq,Zfz,Zf0,Zf1,Zf3,Zgd,Zgg,Zgr,Zgs,Zgt,Zgu,Zgv,Zgw,Zgx,Zg4,Zg5,Zg6,Zhb,Zhc,Zhm,Zhn,Zho,Zhs,Zht,Zhu,Zh6,Zh7,Zh9,Zif,Zig,Zik,Zil,Zim,Zin,Ziu,Ziv,Ziw,Zix,Ziy,Zi1,Zi6,Zi7,Zjh,Zji,Zjn,Zjr,Zjs,Zjw,Zj7,Zka,Zkx,Zky,Zk0,Zk1,Zla,Zlb,Zlc,Zld,Zle,Zlf,Zlh,Zlj,Zlk,Zll,Zlm,Zlr,Zlt,Zlx,Zlz,Zl2,Zmt,Zmv,Zmw,Zmx,Zmz,Zm2,Zm5,Zm6,Zm7,Zm9,Zna,Znb,Zne,Znf,Zng,Znh,Znn,Zno,Znp,Znr,Zns,Znt,Znu,Znw,Zn5,Zrd,Zos,Zot,Zov,Zo3,Zo7,Zo8,Zo9,Zpa,Zpc,Zpg,Zpi,Zpo,Zpu,Zqb,Zqc,Zqf,Zqg,Zqh,Zqi,Zqk,Zql,Zqm,Zqn,List.length_drop,List.length_set,eq_self,true_and,and_true,Nat.zero_add,Nat.mul_one,Nat.sub_zero]
  tactic =>
  refine lpA (i6a src l s0 [] T0) src.length [(0, 5), (1, 12)] _ ⟨0, src, by omega, rfl, rfl⟩ (wkA ?_) ?_
  · unfold oC
    sym =>
    simp [Zaa,Zab,Zac,Zad,Zae,Zaf,Zag,Zah,Zai,Zak,Zal,Zam,Zan,Zao,Zap,Zaq,Zav,Zaw,Zay,Zaz,Za0,Za1,Za2,Za3,Za4,Za5,Za6,Za7,Za9,Zba,Zbb,Zbc,Zbd,Zbe,Zbf,Zbg,Zbk,Zbt,Zbu,Zbv,Zbw,Zb1,Zb7,Zch,Zci,Zcn,Zco,Zct,Zcv,Zc3,Zc5,Zc7,Zc8,Zdc,Zdd,Zde,Zdf,Zdg,Zdh,Zdi,Zdj,Zdk,Zdm,Zrj,Zrl,Zrm,Zrn,Zro,Zrp,Zrq,Zrr,Zrs,Zru,Zrv,Zrw,Zrx,Zry,Zrz,Zr0,Zr2,Zr9,Zsd,Zse,Zsf,Zsg,Zsh,Zsj,Zsm,Zsn,Zso,Zsp,Zsr,Zs0,Zs7,Zta,Ztf,Ztg,Zdo,Zdp,Zdq,Zdr,Zdt,Zdu,Zdv,Zdw,Zdx,Zdy,Zdz,Zd0,Zd1,Zd2,Zeb,Zek,Zeq,Zet,Zev,Zew,Zex,Zez,Ze0,Ze1,Ze2,Ze3,Ze5,Ze8,Zfc,Zfd,Zfe,Zfh,Zfi,Zfl,Zfn,Zfq,Zfz,Zf0,Zf1,Zf3,Zgd,Zgg,Zgr,Zgs,Zgt,Zgu,Zgv,Zgw,Zgx,Zg4,Zg5,Zg6,Zhb,Zhc,Zhm,Zhn,Zho,Zhs,Zht,Zhu,Zh6,Zh7,Zh9,Zif,Zig,Zik,Zil,Zim,Zin,Ziu,Ziv,Ziw,Zix,Ziy,Zi1,Zi6,Zi7,Zjh,Zji,Zjn,Zjr,Zjs,Zjw,Zj7,Zka,Zkx,Zky,Zk0,Zk1,Zla,Zlb,Zlc,Zld,Zle,Zlf,Zlh,Zlj,Zlk,Zll,Zlm,Zlr,Zlt,Zlx,Zlz,Zl2,Zmt,Zmv,Zmw,Zmx,Zmz,Zm2,Zm5,Zm6,Zm7,Zm9,Zna,Znb,Zne,Znf,Zng,Znh,Znn,Zno,Znp,Znr,Zns,Znt,Znu,Znw,Zn5,Zrd,Zos,Zot,Zov,Zo3,Zo7,Zo8,Zo9,Zpa,Zpc,Zpg,Zpi,Zpo,Zpu,Zqb,Zqc,Zqf,Zqg,Zqh,Zqi,Zqk,Zql,Zqm,Zqn,List.length_drop,List.length_set,eq_self,true_and,and_true,Nat.zero_add,Nat.mul_one,Nat.sub_zero]
    tactic =>
    exact rs_self (cB_okI _)
  rintro k q ⟨i, own, hk, ho, rfl⟩
  unfold oC
  have hw := w64s i (by omega)
  by_cases h : i < src.length
  · have hg := cB_get own i (by omega)
    have hi2 : i < own.length := by omega
    sym =>
    simp [Zaa,Zab,Zac,Zad,Zae,Zaf,Zag,Zah,Zai,Zak,Zal,Zam,Zan,Zao,Zap,Zaq,Zav,Zaw,Zay,Zaz,Za0,Za1,Za2,Za3,Za4,Za5,Za6,Za7,Za9,Zba,Zbb,Zbc,Zbd,Zbe,Zbf,Zbg,Zbk,Zbt,Zbu,Zbv,Zbw,Zb1,Zb7,Zch,Zci,Zcn,Zco,Zct,Zcv,Zc3,Zc5,Zc7,Zc8,Zdc,Zdd,Zde,Zdf,Zdg,Zdh,Zdi,Zdj,Zdk,Zdm,Zrj,Zrl,Zrm,Zrn,Zro,Zrp,Zrq,Zrr,Zrs,Zru,Zrv,Zrw,Zrx,Zry,Zrz,Zr0,Zr2,Zr9,Zsd,Zse,Zsf,Zsg,Zsh,Zsj,Zsm,Zsn,Zso,Zsp,Zsr,Zs0,Zs7,Zta,Ztf,Ztg,Zdo,Zdp,Zdq,Zdr,Zdt,Zdu,Zdv,Zdw,Zdx,Zdy,Zdz,Zd0,Zd1,Zd2,Zeb,Zek,Zeq,Zet,Zev,Zew,Zex,Zez,Ze0,Ze1,Ze2,Ze3,Ze5,Ze8,Zfc,Zfd,Zfe,Zfh,Zfi,Zfl,Zfn,Zfq,Zfz,Zf0,Zf1,Zf3,Zgd,Zgg,Zgr,Zgs,Zgt,Zgu,Zgv,Zgw,Zgx,Zg4,Zg5,Zg6,Zhb,Zhc,Zhm,Zhn,Zho,Zhs,Zht,Zhu,Zh6,Zh7,Zh9,Zif,Zig,Zik,Zil,Zim,Zin,Ziu,Ziv,Ziw,Zix,Ziy,Zi1,Zi6,Zi7,Zjh,Zji,Zjn,Zjr,Zjs,Zjw,Zj7,Zka,Zkx,Zky,Zk0,Zk1,Zla,Zlb,Zlc,Zld,Zle,Zlf,Zlh,Zlj,Zlk,Zll,Zlm,Zlr,Zlt,Zlx,Zlz,Zl2,Zmt,Zmv,Zmw,Zmx,Zmz,Zm2,Zm5,Zm6,Zm7,Zm9,Zna,Znb,Zne,Znf,Zng,Znh,Znn,Zno,Znp,Znr,Zns,Znt,Znu,Znw,Zn5,Zrd,Zos,Zot,Zov,Zo3,Zo7,Zo8,Zo9,Zpa,Zpc,Zpg,Zpi,Zpo,Zpu,Zqb,Zqc,Zqf,Zqg,Zqh,Zqi,Zqk,Zql,Zqm,Zqn,List.length_drop,List.length_set,eq_self,true_and,and_true,Nat.zero_add,Nat.mul_one,Nat.sub_zero,h,hw,hg,hi2,cB_length]
    tactic =>
    refine ⟨by omega, ⟨by omega, by omega⟩, ?_⟩
    unfold NextL; refine ⟨(k - 1), [(0, 0), (1, 1)], _, by omega, ⟨i + 1, own.set i (IntKind.u8.wrap (own.getD i 0 + 1)), by omega, by rw [List.length_set]; exact ho, rfl⟩, wkA ?_⟩
    rw [cB_set]
    unfold oC
    sym =>
    simp [Zaa,Zab,Zac,Zad,Zae,Zaf,Zag,Zah,Zai,Zak,Zal,Zam,Zan,Zao,Zap,Zaq,Zav,Zaw,Zay,Zaz,Za0,Za1,Za2,Za3,Za4,Za5,Za6,Za7,Za9,Zba,Zbb,Zbc,Zbd,Zbe,Zbf,Zbg,Zbk,Zbt,Zbu,Zbv,Zbw,Zb1,Zb7,Zch,Zci,Zcn,Zco,Zct,Zcv,Zc3,Zc5,Zc7,Zc8,Zdc,Zdd,Zde,Zdf,Zdg,Zdh,Zdi,Zdj,Zdk,Zdm,Zrj,Zrl,Zrm,Zrn,Zro,Zrp,Zrq,Zrr,Zrs,Zru,Zrv,Zrw,Zrx,Zry,Zrz,Zr0,Zr2,Zr9,Zsd,Zse,Zsf,Zsg,Zsh,Zsj,Zsm,Zsn,Zso,Zsp,Zsr,Zs0,Zs7,Zta,Ztf,Ztg,Zdo,Zdp,Zdq,Zdr,Zdt,Zdu,Zdv,Zdw,Zdx,Zdy,Zdz,Zd0,Zd1,Zd2,Zeb,Zek,Zeq,Zet,Zev,Zew,Zex,Zez,Ze0,Ze1,Ze2,Ze3,Ze5,Ze8,Zfc,Zfd,Zfe,Zfh,Zfi,Zfl,Zfn,Zfq,Zfz,Zf0,Zf1,Zf3,Zgd,Zgg,Zgr,Zgs,Zgt,Zgu,Zgv,Zgw,Zgx,Zg4,Zg5,Zg6,Zhb,Zhc,Zhm,Zhn,Zho,Zhs,Zht,Zhu,Zh6,Zh7,Zh9,Zif,Zig,Zik,Zil,Zim,Zin,Ziu,Ziv,Ziw,Zix,Ziy,Zi1,Zi6,Zi7,Zjh,Zji,Zjn,Zjr,Zjs,Zjw,Zj7,Zka,Zkx,Zky,Zk0,Zk1,Zla,Zlb,Zlc,Zld,Zle,Zlf,Zlh,Zlj,Zlk,Zll,Zlm,Zlr,Zlt,Zlx,Zlz,Zl2,Zmt,Zmv,Zmw,Zmx,Zmz,Zm2,Zm5,Zm6,Zm7,Zm9,Zna,Znb,Zne,Znf,Zng,Znh,Znn,Zno,Znp,Znr,Zns,Znt,Znu,Znw,Zn5,Zrd,Zos,Zot,Zov,Zo3,Zo7,Zo8,Zo9,Zpa,Zpc,Zpg,Zpi,Zpo,Zpu,Zqb,Zqc,Zqf,Zqg,Zqh,Zqi,Zqk,Zql,Zqm,Zqn,List.length_drop,List.length_set,eq_self,true_and,and_true,Nat.zero_add,Nat.mul_one,Nat.sub_zero]
    tactic =>
    exact rs_self (cB_okI _)
  have e1 : min (IN l.length) 40 = IN (l.take 40).length := by simp [IN]; omega
  have e2 : (cS l).take ((l.take 40).length * 3) = cS (l.take 40) := by rw [cS_takes]; congr 1; simp [List.take_take]
  have e3 : (l.take 40).length ≤ l.length := by simp; omega
  sym =>
  simp [Zaa,Zab,Zac,Zad,Zae,Zaf,Zag,Zah,Zai,Zak,Zal,Zam,Zan,Zao,Zap,Zaq,Zav,Zaw,Zay,Zaz,Za0,Za1,Za2,Za3,Za4,Za5,Za6,Za7,Za9,Zba,Zbb,Zbc,Zbd,Zbe,Zbf,Zbg,Zbk,Zbt,Zbu,Zbv,Zbw,Zb1,Zb7,Zch,Zci,Zcn,Zco,Zct,Zcv,Zc3,Zc5,Zc7,Zc8,Zdc,Zdd,Zde,Zdf,Zdg,Zdh,Zdi,Zdj,Zdk,Zdm,Zrj,Zrl,Zrm,Zrn,Zro,Zrp,Zrq,Zrr,Zrs,Zru,Zrv,Zrw,Zrx,Zry,Zrz,Zr0,Zr2,Zr9,Zsd,Zse,Zsf,Zsg,Zsh,Zsj,Zsm,Zsn,Zso,Zsp,Zsr,Zs0,Zs7,Zta,Ztf,Ztg,Zdo,Zdp,Zdq,Zdr,Zdt,Zdu,Zdv,Zdw,Zdx,Zdy,Zdz,Zd0,Zd1,Zd2,Zeb,Zek,Zeq,Zet,Zev,Zew,Zex,Zez,Ze0,Ze1,Ze2,Ze3,Ze5,Ze8,Zfc,Zfd,Zfe,Zfh,Zfi,Zfl,Zfn,Zfq,Zfz,Zf0,Zf1,Zf3,Zgd,Zgg,Zgr,Zgs,Zgt,Zgu,Zgv,Zgw,Zgx,Zg4,Zg5,Zg6,Zhb,Zhc,Zhm,Zhn,Zho,Zhs,Zht,Zhu,Zh6,Zh7,Zh9,Zif,Zig,Zik,Zil,Zim,Zin,Ziu,Ziv,Ziw,Zix,Ziy,Zi1,Zi6,Zi7,Zjh,Zji,Zjn,Zjr,Zjs,Zjw,Zj7,Zka,Zkx,Zky,Zk0,Zk1,Zla,Zlb,Zlc,Zld,Zle,Zlf,Zlh,Zlj,Zlk,Zll,Zlm,Zlr,Zlt,Zlx,Zlz,Zl2,Zmt,Zmv,Zmw,Zmx,Zmz,Zm2,Zm5,Zm6,Zm7,Zm9,Zna,Znb,Zne,Znf,Zng,Znh,Znn,Zno,Znp,Znr,Zns,Znt,Znu,Znw,Zn5,Zrd,Zos,Zot,Zov,Zo3,Zo7,Zo8,Zo9,Zpa,Zpc,Zpg,Zpi,Zpo,Zpu,Zqb,Zqc,Zqf,Zqg,Zqh,Zqi,Zqk,Zql,Zqm,Zqn,List.length_drop,List.length_set,eq_self,true_and,and_true,Nat.zero_add,Nat.mul_one,Nat.sub_zero,h,e1,e2,e3]
  tactic =>
  have hq40 : (l.take 40).length ≤ 40 := by simp; omega
  generalize l.take 40 = q at *
  obtain ⟨t, et⟩ : ∃ t, t = IN src.length := ⟨_, rfl⟩
  rw [← et] at hs0 ht2 ht hp ⊢
  refine lpA (i6b src t q) q.length [(0, 1)] _ ⟨0, s0, [], T0, by omega, hs0, Ok.nil _, hT0, rfl⟩ (wkA ?_) ?_
  · unfold oC
    sym =>
    simp [Zaa,Zab,Zac,Zad,Zae,Zaf,Zag,Zah,Zai,Zak,Zal,Zam,Zan,Zao,Zap,Zaq,Zav,Zaw,Zay,Zaz,Za0,Za1,Za2,Za3,Za4,Za5,Za6,Za7,Za9,Zba,Zbb,Zbc,Zbd,Zbe,Zbf,Zbg,Zbk,Zbt,Zbu,Zbv,Zbw,Zb1,Zb7,Zch,Zci,Zcn,Zco,Zct,Zcv,Zc3,Zc5,Zc7,Zc8,Zdc,Zdd,Zde,Zdf,Zdg,Zdh,Zdi,Zdj,Zdk,Zdm,Zrj,Zrl,Zrm,Zrn,Zro,Zrp,Zrq,Zrr,Zrs,Zru,Zrv,Zrw,Zrx,Zry,Zrz,Zr0,Zr2,Zr9,Zsd,Zse,Zsf,Zsg,Zsh,Zsj,Zsm,Zsn,Zso,Zsp,Zsr,Zs0,Zs7,Zta,Ztf,Ztg,Zdo,Zdp,Zdq,Zdr,Zdt,Zdu,Zdv,Zdw,Zdx,Zdy,Zdz,Zd0,Zd1,Zd2,Zeb,Zek,Zeq,Zet,Zev,Zew,Zex,Zez,Ze0,Ze1,Ze2,Ze3,Ze5,Ze8,Zfc,Zfd,Zfe,Zfh,Zfi,Zfl,Zfn,Zfq,Zfz,Zf0,Zf1,Zf3,Zgd,Zgg,Zgr,Zgs,Zgt,Zgu,Zgv,Zgw,Zgx,Zg4,Zg5,Zg6,Zhb,Zhc,Zhm,Zhn,Zho,Zhs,Zht,Zhu,Zh6,Zh7,Zh9,Zif,Zig,Zik,Zil,Zim,Zin,Ziu,Ziv,Ziw,Zix,Ziy,Zi1,Zi6,Zi7,Zjh,Zji,Zjn,Zjr,Zjs,Zjw,Zj7,Zka,Zkx,Zky,Zk0,Zk1,Zla,Zlb,Zlc,Zld,Zle,Zlf,Zlh,Zlj,Zlk,Zll,Zlm,Zlr,Zlt,Zlx,Zlz,Zl2,Zmt,Zmv,Zmw,Zmx,Zmz,Zm2,Zm5,Zm6,Zm7,Zm9,Zna,Znb,Zne,Znf,Zng,Znh,Znn,Zno,Znp,Znr,Zns,Znt,Znu,Znw,Zn5,Zrd,Zos,Zot,Zov,Zo3,Zo7,Zo8,Zo9,Zpa,Zpc,Zpg,Zpi,Zpo,Zpu,Zqb,Zqc,Zqf,Zqg,Zqh,Zqi,Zqk,Zql,Zqm,Zqn,List.length_drop,List.length_set,eq_self,true_and,and_true,Nat.zero_add,Nat.mul_one,Nat.sub_zero]
  rintro k st ⟨i, s, o, T, hi, hs, ho, hT, rfl⟩
  unfold oC
  have ls := hs.len ht2
  have lo := ho.len ht2
  have bs := hs.base ht.1
  generalize hb : endF (lim 0) s = b0 at *
  by_cases h : i < q.length
  · have hw := w64s i (by omega)
    have h0 := cS_q0 q i h
    have h1 := cS_q1 q i h
    have h2 := cS_q2 q i h
    sym =>
    simp [Zaa,Zab,Zac,Zad,Zae,Zaf,Zag,Zah,Zai,Zak,Zal,Zam,Zan,Zao,Zap,Zaq,Zav,Zaw,Zay,Zaz,Za0,Za1,Za2,Za3,Za4,Za5,Za6,Za7,Za9,Zba,Zbb,Zbc,Zbd,Zbe,Zbf,Zbg,Zbk,Zbt,Zbu,Zbv,Zbw,Zb1,Zb7,Zch,Zci,Zcn,Zco,Zct,Zcv,Zc3,Zc5,Zc7,Zc8,Zdc,Zdd,Zde,Zdf,Zdg,Zdh,Zdi,Zdj,Zdk,Zdm,Zrj,Zrl,Zrm,Zrn,Zro,Zrp,Zrq,Zrr,Zrs,Zru,Zrv,Zrw,Zrx,Zry,Zrz,Zr0,Zr2,Zr9,Zsd,Zse,Zsf,Zsg,Zsh,Zsj,Zsm,Zsn,Zso,Zsp,Zsr,Zs0,Zs7,Zta,Ztf,Ztg,Zdo,Zdp,Zdq,Zdr,Zdt,Zdu,Zdv,Zdw,Zdx,Zdy,Zdz,Zd0,Zd1,Zd2,Zeb,Zek,Zeq,Zet,Zev,Zew,Zex,Zez,Ze0,Ze1,Ze2,Ze3,Ze5,Ze8,Zfc,Zfd,Zfe,Zfh,Zfi,Zfl,Zfn,Zfq,Zfz,Zf0,Zf1,Zf3,Zgd,Zgg,Zgr,Zgs,Zgt,Zgu,Zgv,Zgw,Zgx,Zg4,Zg5,Zg6,Zhb,Zhc,Zhm,Zhn,Zho,Zhs,Zht,Zhu,Zh6,Zh7,Zh9,Zif,Zig,Zik,Zil,Zim,Zin,Ziu,Ziv,Ziw,Zix,Ziy,Zi1,Zi6,Zi7,Zjh,Zji,Zjn,Zjr,Zjs,Zjw,Zj7,Zka,Zkx,Zky,Zk0,Zk1,Zla,Zlb,Zlc,Zld,Zle,Zlf,Zlh,Zlj,Zlk,Zll,Zlm,Zlr,Zlt,Zlx,Zlz,Zl2,Zmt,Zmv,Zmw,Zmx,Zmz,Zm2,Zm5,Zm6,Zm7,Zm9,Zna,Znb,Zne,Znf,Zng,Znh,Znn,Zno,Znp,Znr,Zns,Znt,Znu,Znw,Zn5,Zrd,Zos,Zot,Zov,Zo3,Zo7,Zo8,Zo9,Zpa,Zpc,Zpg,Zpi,Zpo,Zpu,Zqb,Zqc,Zqf,Zqg,Zqh,Zqi,Zqk,Zql,Zqm,Zqn,List.length_drop,List.length_set,eq_self,true_and,and_true,Nat.zero_add,Nat.mul_one,Nat.sub_zero,h,h0,h1,h2,cS_length,callable_32]
    tactic =>
    and_intros <;> try (first | omega | rfl | assumption | exact cR_okF _ | exact cR_okI _ | exact cS_okI _ | exact rs_self (cR_okI _) | exact rs_self (cS_okI _) | (symm; refine List.take_of_length_le ?_; simp <;> omega))
    generalize q[i] = x at *
    refine cl none (poll_con src s o T t et (by omega) hs ho b0 hb) trivial ?_
    have pok := poll_ok (s := s) (b := b0) ht 9 o ho
    have pcn := poll_len (s := s) ht bs.1 ho 9
    generalize hR : pollF t s b0 9 o = R at *
    have g1 : ¬ (8 : Int) < IN R.1.length := by simp only [IN]; omega
    sym =>
    simp [Zaa,Zab,Zac,Zad,Zae,Zaf,Zag,Zah,Zai,Zak,Zal,Zam,Zan,Zao,Zap,Zaq,Zav,Zaw,Zay,Zaz,Za0,Za1,Za2,Za3,Za4,Za5,Za6,Za7,Za9,Zba,Zbb,Zbc,Zbd,Zbe,Zbf,Zbg,Zbk,Zbt,Zbu,Zbv,Zbw,Zb1,Zb7,Zch,Zci,Zcn,Zco,Zct,Zcv,Zc3,Zc5,Zc7,Zc8,Zdc,Zdd,Zde,Zdf,Zdg,Zdh,Zdi,Zdj,Zdk,Zdm,Zrj,Zrl,Zrm,Zrn,Zro,Zrp,Zrq,Zrr,Zrs,Zru,Zrv,Zrw,Zrx,Zry,Zrz,Zr0,Zr2,Zr9,Zsd,Zse,Zsf,Zsg,Zsh,Zsj,Zsm,Zsn,Zso,Zsp,Zsr,Zs0,Zs7,Zta,Ztf,Ztg,Zdo,Zdp,Zdq,Zdr,Zdt,Zdu,Zdv,Zdw,Zdx,Zdy,Zdz,Zd0,Zd1,Zd2,Zeb,Zek,Zeq,Zet,Zev,Zew,Zex,Zez,Ze0,Ze1,Ze2,Ze3,Ze5,Ze8,Zfc,Zfd,Zfe,Zfh,Zfi,Zfl,Zfn,Zfq,Zfz,Zf0,Zf1,Zf3,Zgd,Zgg,Zgr,Zgs,Zgt,Zgu,Zgv,Zgw,Zgx,Zg4,Zg5,Zg6,Zhb,Zhc,Zhm,Zhn,Zho,Zhs,Zht,Zhu,Zh6,Zh7,Zh9,Zif,Zig,Zik,Zil,Zim,Zin,Ziu,Ziv,Ziw,Zix,Ziy,Zi1,Zi6,Zi7,Zjh,Zji,Zjn,Zjr,Zjs,Zjw,Zj7,Zka,Zkx,Zky,Zk0,Zk1,Zla,Zlb,Zlc,Zld,Zle,Zlf,Zlh,Zlj,Zlk,Zll,Zlm,Zlr,Zlt,Zlx,Zlz,Zl2,Zmt,Zmv,Zmw,Zmx,Zmz,Zm2,Zm5,Zm6,Zm7,Zm9,Zna,Znb,Zne,Znf,Zng,Znh,Znn,Zno,Znp,Znr,Zns,Znt,Znu,Znw,Zn5,Zrd,Zos,Zot,Zov,Zo3,Zo7,Zo8,Zo9,Zpa,Zpc,Zpg,Zpi,Zpo,Zpu,Zqb,Zqc,Zqf,Zqg,Zqh,Zqi,Zqk,Zql,Zqm,Zqn,List.length_drop,List.length_set,eq_self,true_and,and_true,Nat.zero_add,Nat.mul_one,Nat.sub_zero,g1,callable_38]
    tactic =>
    refine cl none (waits_con src t s R.2 T (by omega) (by have := pok.1.len ht2; omega) ht b0 hb (by omega)) trivial ?_
    have c8 := cnt8 t b0 R.2
    have g2 : ¬ (8 : Int) < IN (cntF R.2 (segs t b0)) := by simp only [IN]; omega
    sym =>
    simp [Zaa,Zab,Zac,Zad,Zae,Zaf,Zag,Zah,Zai,Zak,Zal,Zam,Zan,Zao,Zap,Zaq,Zav,Zaw,Zay,Zaz,Za0,Za1,Za2,Za3,Za4,Za5,Za6,Za7,Za9,Zba,Zbb,Zbc,Zbd,Zbe,Zbf,Zbg,Zbk,Zbt,Zbu,Zbv,Zbw,Zb1,Zb7,Zch,Zci,Zcn,Zco,Zct,Zcv,Zc3,Zc5,Zc7,Zc8,Zdc,Zdd,Zde,Zdf,Zdg,Zdh,Zdi,Zdj,Zdk,Zdm,Zrj,Zrl,Zrm,Zrn,Zro,Zrp,Zrq,Zrr,Zrs,Zru,Zrv,Zrw,Zrx,Zry,Zrz,Zr0,Zr2,Zr9,Zsd,Zse,Zsf,Zsg,Zsh,Zsj,Zsm,Zsn,Zso,Zsp,Zsr,Zs0,Zs7,Zta,Ztf,Ztg,Zdo,Zdp,Zdq,Zdr,Zdt,Zdu,Zdv,Zdw,Zdx,Zdy,Zdz,Zd0,Zd1,Zd2,Zeb,Zek,Zeq,Zet,Zev,Zew,Zex,Zez,Ze0,Ze1,Ze2,Ze3,Ze5,Ze8,Zfc,Zfd,Zfe,Zfh,Zfi,Zfl,Zfn,Zfq,Zfz,Zf0,Zf1,Zf3,Zgd,Zgg,Zgr,Zgs,Zgt,Zgu,Zgv,Zgw,Zgx,Zg4,Zg5,Zg6,Zhb,Zhc,Zhm,Zhn,Zho,Zhs,Zht,Zhu,Zh6,Zh7,Zh9,Zif,Zig,Zik,Zil,Zim,Zin,Ziu,Ziv,Ziw,Zix,Ziy,Zi1,Zi6,Zi7,Zjh,Zji,Zjn,Zjr,Zjs,Zjw,Zj7,Zka,Zkx,Zky,Zk0,Zk1,Zla,Zlb,Zlc,Zld,Zle,Zlf,Zlh,Zlj,Zlk,Zll,Zlm,Zlr,Zlt,Zlx,Zlz,Zl2,Zmt,Zmv,Zmw,Zmx,Zmz,Zm2,Zm5,Zm6,Zm7,Zm9,Zna,Znb,Zne,Znf,Zng,Znh,Znn,Zno,Znp,Znr,Zns,Znt,Znu,Znw,Zn5,Zrd,Zos,Zot,Zov,Zo3,Zo7,Zo8,Zo9,Zpa,Zpc,Zpg,Zpi,Zpo,Zpu,Zqb,Zqc,Zqf,Zqg,Zqh,Zqi,Zqk,Zql,Zqm,Zqn,List.length_drop,List.length_set,eq_self,true_and,and_true,Nat.zero_add,Nat.mul_one,Nat.sub_zero,g2]
    tactic =>
    have R1 := pok.1
    have R2 := pok.2
    generalize R.1 = rs at *
    generalize R.2 = o2 at *
    refine lpA (i6c src t q i x s o o2 T rs) rs.length [(0, 0), (1, 4), (2, 11)] _ ⟨0, by omega, rfl⟩ (wkA ?_) ?_
    · unfold oC
      sym =>
      simp [Zaa,Zab,Zac,Zad,Zae,Zaf,Zag,Zah,Zai,Zak,Zal,Zam,Zan,Zao,Zap,Zaq,Zav,Zaw,Zay,Zaz,Za0,Za1,Za2,Za3,Za4,Za5,Za6,Za7,Za9,Zba,Zbb,Zbc,Zbd,Zbe,Zbf,Zbg,Zbk,Zbt,Zbu,Zbv,Zbw,Zb1,Zb7,Zch,Zci,Zcn,Zco,Zct,Zcv,Zc3,Zc5,Zc7,Zc8,Zdc,Zdd,Zde,Zdf,Zdg,Zdh,Zdi,Zdj,Zdk,Zdm,Zrj,Zrl,Zrm,Zrn,Zro,Zrp,Zrq,Zrr,Zrs,Zru,Zrv,Zrw,Zrx,Zry,Zrz,Zr0,Zr2,Zr9,Zsd,Zse,Zsf,Zsg,Zsh,Zsj,Zsm,Zsn,Zso,Zsp,Zsr,Zs0,Zs7,Zta,Ztf,Ztg,Zdo,Zdp,Zdq,Zdr,Zdt,Zdu,Zdv,Zdw,Zdx,Zdy,Zdz,Zd0,Zd1,Zd2,Zeb,Zek,Zeq,Zet,Zev,Zew,Zex,Zez,Ze0,Ze1,Ze2,Ze3,Ze5,Ze8,Zfc,Zfd,Zfe,Zfh,Zfi,Zfl,Zfn,Zfq,Zfz,Zf0,Zf1,Zf3,Zgd,Zgg,Zgr,Zgs,Zgt,Zgu,Zgv,Zgw,Zgx,Zg4,Zg5,Zg6,Zhb,Zhc,Zhm,Zhn,Zho,Zhs,Zht,Zhu,Zh6,Zh7,Zh9,Zif,Zig,Zik,Zil,Zim,Zin,Ziu,Ziv,Ziw,Zix,Ziy,Zi1,Zi6,Zi7,Zjh,Zji,Zjn,Zjr,Zjs,Zjw,Zj7,Zka,Zkx,Zky,Zk0,Zk1,Zla,Zlb,Zlc,Zld,Zle,Zlf,Zlh,Zlj,Zlk,Zll,Zlm,Zlr,Zlt,Zlx,Zlz,Zl2,Zmt,Zmv,Zmw,Zmx,Zmz,Zm2,Zm5,Zm6,Zm7,Zm9,Zna,Znb,Zne,Znf,Zng,Znh,Znn,Zno,Znp,Znr,Zns,Znt,Znu,Znw,Zn5,Zrd,Zos,Zot,Zov,Zo3,Zo7,Zo8,Zo9,Zpa,Zpc,Zpg,Zpi,Zpo,Zpu,Zqb,Zqc,Zqf,Zqg,Zqh,Zqi,Zqk,Zql,Zqm,Zqn,List.length_drop,List.length_set,eq_self,true_and,and_true,Nat.zero_add,Nat.mul_one,Nat.sub_zero]
    rintro k2 st ⟨j, hj, rfl⟩
    unfold oC
    by_cases hjr : j < rs.length
    · have hwj := w64s j (by omega)
      have p0 := cP_q0 src rs j hjr
      have p1 := cP_q1 src rs j hjr
      obtain ⟨v1, v2, v3, v4⟩ := R2 rs[j] (List.getElem_mem hjr)
      sym =>
      simp [Zaa,Zab,Zac,Zad,Zae,Zaf,Zag,Zah,Zai,Zak,Zal,Zam,Zan,Zao,Zap,Zaq,Zav,Zaw,Zay,Zaz,Za0,Za1,Za2,Za3,Za4,Za5,Za6,Za7,Za9,Zba,Zbb,Zbc,Zbd,Zbe,Zbf,Zbg,Zbk,Zbt,Zbu,Zbv,Zbw,Zb1,Zb7,Zch,Zci,Zcn,Zco,Zct,Zcv,Zc3,Zc5,Zc7,Zc8,Zdc,Zdd,Zde,Zdf,Zdg,Zdh,Zdi,Zdj,Zdk,Zdm,Zrj,Zrl,Zrm,Zrn,Zro,Zrp,Zrq,Zrr,Zrs,Zru,Zrv,Zrw,Zrx,Zry,Zrz,Zr0,Zr2,Zr9,Zsd,Zse,Zsf,Zsg,Zsh,Zsj,Zsm,Zsn,Zso,Zsp,Zsr,Zs0,Zs7,Zta,Ztf,Ztg,Zdo,Zdp,Zdq,Zdr,Zdt,Zdu,Zdv,Zdw,Zdx,Zdy,Zdz,Zd0,Zd1,Zd2,Zeb,Zek,Zeq,Zet,Zev,Zew,Zex,Zez,Ze0,Ze1,Ze2,Ze3,Ze5,Ze8,Zfc,Zfd,Zfe,Zfh,Zfi,Zfl,Zfn,Zfq,Zfz,Zf0,Zf1,Zf3,Zgd,Zgg,Zgr,Zgs,Zgt,Zgu,Zgv,Zgw,Zgx,Zg4,Zg5,Zg6,Zhb,Zhc,Zhm,Zhn,Zho,Zhs,Zht,Zhu,Zh6,Zh7,Zh9,Zif,Zig,Zik,Zil,Zim,Zin,Ziu,Ziv,Ziw,Zix,Ziy,Zi1,Zi6,Zi7,Zjh,Zji,Zjn,Zjr,Zjs,Zjw,Zj7,Zka,Zkx,Zky,Zk0,Zk1,Zla,Zlb,Zlc,Zld,Zle,Zlf,Zlh,Zlj,Zlk,Zll,Zlm,Zlr,Zlt,Zlx,Zlz,Zl2,Zmt,Zmv,Zmw,Zmx,Zmz,Zm2,Zm5,Zm6,Zm7,Zm9,Zna,Znb,Zne,Znf,Zng,Znh,Znn,Zno,Znp,Znr,Zns,Znt,Znu,Znw,Zn5,Zrd,Zos,Zot,Zov,Zo3,Zo7,Zo8,Zo9,Zpa,Zpc,Zpg,Zpi,Zpo,Zpu,Zqb,Zqc,Zqf,Zqg,Zqh,Zqi,Zqk,Zql,Zqm,Zqn,List.length_drop,List.length_set,eq_self,true_and,and_true,Nat.zero_add,Nat.mul_one,Nat.sub_zero,hjr,p0,p1,cP_length]
      tactic =>
      and_intros <;> try (first | omega | rfl | assumption | exact cR_okF _ | exact cR_okI _ | exact cS_okI _ | exact rs_self (cR_okI _) | exact rs_self (cS_okI _) | (symm; refine List.take_of_length_le ?_; simp <;> omega))
      generalize rs[j] = r at *
      have hpl : (pc src r).length = r.2.toNat - r.1.toNat := by
        simp only [pc, List.length_take, List.length_drop]
        simp only [IN] at et
        omega
      have hpn : IN (pc src r).length = r.2 - r.1 := by rw [hpl]; simp only [IN]; omega
      have u1 : ¬ r.1 < 0 := by omega
      have u2 : IntKind.i64.wrap (r.1 + (r.2 - r.1)) = r.2 := by rw [w64 _ (by omega)]; omega
      have u3 : ¬ IN src.length < r.2 := by omega
      have u4 : ¬ (256 : Int) < r.2 - r.1 := by omega
      have u5 : ¬ r.2 - r.1 = 0 := by omega
      sym =>
      simp [Zaa,Zab,Zac,Zad,Zae,Zaf,Zag,Zah,Zai,Zak,Zal,Zam,Zan,Zao,Zap,Zaq,Zav,Zaw,Zay,Zaz,Za0,Za1,Za2,Za3,Za4,Za5,Za6,Za7,Za9,Zba,Zbb,Zbc,Zbd,Zbe,Zbf,Zbg,Zbk,Zbt,Zbu,Zbv,Zbw,Zb1,Zb7,Zch,Zci,Zcn,Zco,Zct,Zcv,Zc3,Zc5,Zc7,Zc8,Zdc,Zdd,Zde,Zdf,Zdg,Zdh,Zdi,Zdj,Zdk,Zdm,Zrj,Zrl,Zrm,Zrn,Zro,Zrp,Zrq,Zrr,Zrs,Zru,Zrv,Zrw,Zrx,Zry,Zrz,Zr0,Zr2,Zr9,Zsd,Zse,Zsf,Zsg,Zsh,Zsj,Zsm,Zsn,Zso,Zsp,Zsr,Zs0,Zs7,Zta,Ztf,Ztg,Zdo,Zdp,Zdq,Zdr,Zdt,Zdu,Zdv,Zdw,Zdx,Zdy,Zdz,Zd0,Zd1,Zd2,Zeb,Zek,Zeq,Zet,Zev,Zew,Zex,Zez,Ze0,Ze1,Ze2,Ze3,Ze5,Ze8,Zfc,Zfd,Zfe,Zfh,Zfi,Zfl,Zfn,Zfq,Zfz,Zf0,Zf1,Zf3,Zgd,Zgg,Zgr,Zgs,Zgt,Zgu,Zgv,Zgw,Zgx,Zg4,Zg5,Zg6,Zhb,Zhc,Zhm,Zhn,Zho,Zhs,Zht,Zhu,Zh6,Zh7,Zh9,Zif,Zig,Zik,Zil,Zim,Zin,Ziu,Ziv,Ziw,Zix,Ziy,Zi1,Zi6,Zi7,Zjh,Zji,Zjn,Zjr,Zjs,Zjw,Zj7,Zka,Zkx,Zky,Zk0,Zk1,Zla,Zlb,Zlc,Zld,Zle,Zlf,Zlh,Zlj,Zlk,Zll,Zlm,Zlr,Zlt,Zlx,Zlz,Zl2,Zmt,Zmv,Zmw,Zmx,Zmz,Zm2,Zm5,Zm6,Zm7,Zm9,Zna,Znb,Zne,Znf,Zng,Znh,Znn,Zno,Znp,Znr,Zns,Znt,Znu,Znw,Zn5,Zrd,Zos,Zot,Zov,Zo3,Zo7,Zo8,Zo9,Zpa,Zpc,Zpg,Zpi,Zpo,Zpu,Zqb,Zqc,Zqf,Zqg,Zqh,Zqi,Zqk,Zql,Zqm,Zqn,List.length_drop,List.length_set,eq_self,true_and,and_true,Nat.zero_add,Nat.mul_one,Nat.sub_zero,hpn,u1,u2,u3,u4,u5,callable_22]
      tactic =>
      refine ⟨⟨by omega, by omega, by omega⟩, ?_⟩
      rw [show List.take (r.2.toNat - r.1.toNat) (List.drop r.1.toNat (cB src)) = cB (pc src r) from by rw [pc, cB_take, cB_drop], ← hpl]
      refine cl none (nsame_con (pc src r) (pc src r) (by omega)) trivial ?_
      rw [decide_eq_true (rfl : pc src r = pc src r)]
      sym =>
      simp [Zaa,Zab,Zac,Zad,Zae,Zaf,Zag,Zah,Zai,Zak,Zal,Zam,Zan,Zao,Zap,Zaq,Zav,Zaw,Zay,Zaz,Za0,Za1,Za2,Za3,Za4,Za5,Za6,Za7,Za9,Zba,Zbb,Zbc,Zbd,Zbe,Zbf,Zbg,Zbk,Zbt,Zbu,Zbv,Zbw,Zb1,Zb7,Zch,Zci,Zcn,Zco,Zct,Zcv,Zc3,Zc5,Zc7,Zc8,Zdc,Zdd,Zde,Zdf,Zdg,Zdh,Zdi,Zdj,Zdk,Zdm,Zrj,Zrl,Zrm,Zrn,Zro,Zrp,Zrq,Zrr,Zrs,Zru,Zrv,Zrw,Zrx,Zry,Zrz,Zr0,Zr2,Zr9,Zsd,Zse,Zsf,Zsg,Zsh,Zsj,Zsm,Zsn,Zso,Zsp,Zsr,Zs0,Zs7,Zta,Ztf,Ztg,Zdo,Zdp,Zdq,Zdr,Zdt,Zdu,Zdv,Zdw,Zdx,Zdy,Zdz,Zd0,Zd1,Zd2,Zeb,Zek,Zeq,Zet,Zev,Zew,Zex,Zez,Ze0,Ze1,Ze2,Ze3,Ze5,Ze8,Zfc,Zfd,Zfe,Zfh,Zfi,Zfl,Zfn,Zfq,Zfz,Zf0,Zf1,Zf3,Zgd,Zgg,Zgr,Zgs,Zgt,Zgu,Zgv,Zgw,Zgx,Zg4,Zg5,Zg6,Zhb,Zhc,Zhm,Zhn,Zho,Zhs,Zht,Zhu,Zh6,Zh7,Zh9,Zif,Zig,Zik,Zil,Zim,Zin,Ziu,Ziv,Ziw,Zix,Ziy,Zi1,Zi6,Zi7,Zjh,Zji,Zjn,Zjr,Zjs,Zjw,Zj7,Zka,Zkx,Zky,Zk0,Zk1,Zla,Zlb,Zlc,Zld,Zle,Zlf,Zlh,Zlj,Zlk,Zll,Zlm,Zlr,Zlt,Zlx,Zlz,Zl2,Zmt,Zmv,Zmw,Zmx,Zmz,Zm2,Zm5,Zm6,Zm7,Zm9,Zna,Znb,Zne,Znf,Zng,Znh,Znn,Zno,Znp,Znr,Zns,Znt,Znu,Znw,Zn5,Zrd,Zos,Zot,Zov,Zo3,Zo7,Zo8,Zo9,Zpa,Zpc,Zpg,Zpi,Zpo,Zpu,Zqb,Zqc,Zqf,Zqg,Zqh,Zqi,Zqk,Zql,Zqm,Zqn,List.length_drop,List.length_set,eq_self,true_and,and_true,Nat.zero_add,Nat.mul_one,Nat.sub_zero,hwj]
      tactic =>
      unfold NextL; refine ⟨(k2 - 1), [(0, 0), (1, 1), (2, 2)], _, by omega, ⟨j + 1, by omega, rfl⟩, wkA ?_⟩
      unfold oC
      sym =>
      simp [Zaa,Zab,Zac,Zad,Zae,Zaf,Zag,Zah,Zai,Zak,Zal,Zam,Zan,Zao,Zap,Zaq,Zav,Zaw,Zay,Zaz,Za0,Za1,Za2,Za3,Za4,Za5,Za6,Za7,Za9,Zba,Zbb,Zbc,Zbd,Zbe,Zbf,Zbg,Zbk,Zbt,Zbu,Zbv,Zbw,Zb1,Zb7,Zch,Zci,Zcn,Zco,Zct,Zcv,Zc3,Zc5,Zc7,Zc8,Zdc,Zdd,Zde,Zdf,Zdg,Zdh,Zdi,Zdj,Zdk,Zdm,Zrj,Zrl,Zrm,Zrn,Zro,Zrp,Zrq,Zrr,Zrs,Zru,Zrv,Zrw,Zrx,Zry,Zrz,Zr0,Zr2,Zr9,Zsd,Zse,Zsf,Zsg,Zsh,Zsj,Zsm,Zsn,Zso,Zsp,Zsr,Zs0,Zs7,Zta,Ztf,Ztg,Zdo,Zdp,Zdq,Zdr,Zdt,Zdu,Zdv,Zdw,Zdx,Zdy,Zdz,Zd0,Zd1,Zd2,Zeb,Zek,Zeq,Zet,Zev,Zew,Zex,Zez,Ze0,Ze1,Ze2,Ze3,Ze5,Ze8,Zfc,Zfd,Zfe,Zfh,Zfi,Zfl,Zfn,Zfq,Zfz,Zf0,Zf1,Zf3,Zgd,Zgg,Zgr,Zgs,Zgt,Zgu,Zgv,Zgw,Zgx,Zg4,Zg5,Zg6,Zhb,Zhc,Zhm,Zhn,Zho,Zhs,Zht,Zhu,Zh6,Zh7,Zh9,Zif,Zig,Zik,Zil,Zim,Zin,Ziu,Ziv,Ziw,Zix,Ziy,Zi1,Zi6,Zi7,Zjh,Zji,Zjn,Zjr,Zjs,Zjw,Zj7,Zka,Zkx,Zky,Zk0,Zk1,Zla,Zlb,Zlc,Zld,Zle,Zlf,Zlh,Zlj,Zlk,Zll,Zlm,Zlr,Zlt,Zlx,Zlz,Zl2,Zmt,Zmv,Zmw,Zmx,Zmz,Zm2,Zm5,Zm6,Zm7,Zm9,Zna,Znb,Zne,Znf,Zng,Znh,Znn,Zno,Znp,Znr,Zns,Znt,Znu,Znw,Zn5,Zrd,Zos,Zot,Zov,Zo3,Zo7,Zo8,Zo9,Zpa,Zpc,Zpg,Zpi,Zpo,Zpu,Zqb,Zqc,Zqf,Zqg,Zqh,Zqi,Zqk,Zql,Zqm,Zqn,List.length_drop,List.length_set,eq_self,true_and,and_true,Nat.zero_add,Nat.mul_one,Nat.sub_zero]
    · sym =>
      simp [Zaa,Zab,Zac,Zad,Zae,Zaf,Zag,Zah,Zai,Zak,Zal,Zam,Zan,Zao,Zap,Zaq,Zav,Zaw,Zay,Zaz,Za0,Za1,Za2,Za3,Za4,Za5,Za6,Za7,Za9,Zba,Zbb,Zbc,Zbd,Zbe,Zbf,Zbg,Zbk,Zbt,Zbu,Zbv,Zbw,Zb1,Zb7,Zch,Zci,Zcn,Zco,Zct,Zcv,Zc3,Zc5,Zc7,Zc8,Zdc,Zdd,Zde,Zdf,Zdg,Zdh,Zdi,Zdj,Zdk,Zdm,Zrj,Zrl,Zrm,Zrn,Zro,Zrp,Zrq,Zrr,Zrs,Zru,Zrv,Zrw,Zrx,Zry,Zrz,Zr0,Zr2,Zr9,Zsd,Zse,Zsf,Zsg,Zsh,Zsj,Zsm,Zsn,Zso,Zsp,Zsr,Zs0,Zs7,Zta,Ztf,Ztg,Zdo,Zdp,Zdq,Zdr,Zdt,Zdu,Zdv,Zdw,Zdx,Zdy,Zdz,Zd0,Zd1,Zd2,Zeb,Zek,Zeq,Zet,Zev,Zew,Zex,Zez,Ze0,Ze1,Ze2,Ze3,Ze5,Ze8,Zfc,Zfd,Zfe,Zfh,Zfi,Zfl,Zfn,Zfq,Zfz,Zf0,Zf1,Zf3,Zgd,Zgg,Zgr,Zgs,Zgt,Zgu,Zgv,Zgw,Zgx,Zg4,Zg5,Zg6,Zhb,Zhc,Zhm,Zhn,Zho,Zhs,Zht,Zhu,Zh6,Zh7,Zh9,Zif,Zig,Zik,Zil,Zim,Zin,Ziu,Ziv,Ziw,Zix,Ziy,Zi1,Zi6,Zi7,Zjh,Zji,Zjn,Zjr,Zjs,Zjw,Zj7,Zka,Zkx,Zky,Zk0,Zk1,Zla,Zlb,Zlc,Zld,Zle,Zlf,Zlh,Zlj,Zlk,Zll,Zlm,Zlr,Zlt,Zlx,Zlz,Zl2,Zmt,Zmv,Zmw,Zmx,Zmz,Zm2,Zm5,Zm6,Zm7,Zm9,Zna,Znb,Zne,Znf,Zng,Znh,Znn,Zno,Znp,Znr,Zns,Znt,Znu,Znw,Zn5,Zrd,Zos,Zot,Zov,Zo3,Zo7,Zo8,Zo9,Zpa,Zpc,Zpg,Zpi,Zpo,Zpu,Zqb,Zqc,Zqf,Zqg,Zqh,Zqi,Zqk,Zql,Zqm,Zqn,List.length_drop,List.length_set,eq_self,true_and,and_true,Nat.zero_add,Nat.mul_one,Nat.sub_zero,hjr,callable_33]
      tactic =>
      refine cl none (back_con src t s o2 T x.2.1 [] ht2 hs R1 (by simp)) trivial ?_
      sym =>
      simp [Zaa,Zab,Zac,Zad,Zae,Zaf,Zag,Zah,Zai,Zak,Zal,Zam,Zan,Zao,Zap,Zaq,Zav,Zaw,Zay,Zaz,Za0,Za1,Za2,Za3,Za4,Za5,Za6,Za7,Za9,Zba,Zbb,Zbc,Zbd,Zbe,Zbf,Zbg,Zbk,Zbt,Zbu,Zbv,Zbw,Zb1,Zb7,Zch,Zci,Zcn,Zco,Zct,Zcv,Zc3,Zc5,Zc7,Zc8,Zdc,Zdd,Zde,Zdf,Zdg,Zdh,Zdi,Zdj,Zdk,Zdm,Zrj,Zrl,Zrm,Zrn,Zro,Zrp,Zrq,Zrr,Zrs,Zru,Zrv,Zrw,Zrx,Zry,Zrz,Zr0,Zr2,Zr9,Zsd,Zse,Zsf,Zsg,Zsh,Zsj,Zsm,Zsn,Zso,Zsp,Zsr,Zs0,Zs7,Zta,Ztf,Ztg,Zdo,Zdp,Zdq,Zdr,Zdt,Zdu,Zdv,Zdw,Zdx,Zdy,Zdz,Zd0,Zd1,Zd2,Zeb,Zek,Zeq,Zet,Zev,Zew,Zex,Zez,Ze0,Ze1,Ze2,Ze3,Ze5,Ze8,Zfc,Zfd,Zfe,Zfh,Zfi,Zfl,Zfn,Zfq,Zfz,Zf0,Zf1,Zf3,Zgd,Zgg,Zgr,Zgs,Zgt,Zgu,Zgv,Zgw,Zgx,Zg4,Zg5,Zg6,Zhb,Zhc,Zhm,Zhn,Zho,Zhs,Zht,Zhu,Zh6,Zh7,Zh9,Zif,Zig,Zik,Zil,Zim,Zin,Ziu,Ziv,Ziw,Zix,Ziy,Zi1,Zi6,Zi7,Zjh,Zji,Zjn,Zjr,Zjs,Zjw,Zj7,Zka,Zkx,Zky,Zk0,Zk1,Zla,Zlb,Zlc,Zld,Zle,Zlf,Zlh,Zlj,Zlk,Zll,Zlm,Zlr,Zlt,Zlx,Zlz,Zl2,Zmt,Zmv,Zmw,Zmx,Zmz,Zm2,Zm5,Zm6,Zm7,Zm9,Zna,Znb,Zne,Znf,Zng,Znh,Znn,Zno,Znp,Znr,Zns,Znt,Znu,Znw,Zn5,Zrd,Zos,Zot,Zov,Zo3,Zo7,Zo8,Zo9,Zpa,Zpc,Zpg,Zpi,Zpo,Zpu,Zqb,Zqc,Zqf,Zqg,Zqh,Zqi,Zqk,Zql,Zqm,Zqn,List.length_drop,List.length_set,eq_self,true_and,and_true,Nat.zero_add,Nat.mul_one,Nat.sub_zero,callable_35]
      tactic =>
      refine cl none (btick_con src t (acS t s x.2.1 []) (acO t s o2 x.2.1 []) (acT t s x.2.1 [] T) (TOk.timed (by split; exact hT.again; exact hT))) trivial ?_
      obtain ⟨k1, k2, _⟩ := ac_ok x.2.1 [] ht hs R1
      sym =>
      simp [Zaa,Zab,Zac,Zad,Zae,Zaf,Zag,Zah,Zai,Zak,Zal,Zam,Zan,Zao,Zap,Zaq,Zav,Zaw,Zay,Zaz,Za0,Za1,Za2,Za3,Za4,Za5,Za6,Za7,Za9,Zba,Zbb,Zbc,Zbd,Zbe,Zbf,Zbg,Zbk,Zbt,Zbu,Zbv,Zbw,Zb1,Zb7,Zch,Zci,Zcn,Zco,Zct,Zcv,Zc3,Zc5,Zc7,Zc8,Zdc,Zdd,Zde,Zdf,Zdg,Zdh,Zdi,Zdj,Zdk,Zdm,Zrj,Zrl,Zrm,Zrn,Zro,Zrp,Zrq,Zrr,Zrs,Zru,Zrv,Zrw,Zrx,Zry,Zrz,Zr0,Zr2,Zr9,Zsd,Zse,Zsf,Zsg,Zsh,Zsj,Zsm,Zsn,Zso,Zsp,Zsr,Zs0,Zs7,Zta,Ztf,Ztg,Zdo,Zdp,Zdq,Zdr,Zdt,Zdu,Zdv,Zdw,Zdx,Zdy,Zdz,Zd0,Zd1,Zd2,Zeb,Zek,Zeq,Zet,Zev,Zew,Zex,Zez,Ze0,Ze1,Ze2,Ze3,Ze5,Ze8,Zfc,Zfd,Zfe,Zfh,Zfi,Zfl,Zfn,Zfq,Zfz,Zf0,Zf1,Zf3,Zgd,Zgg,Zgr,Zgs,Zgt,Zgu,Zgv,Zgw,Zgx,Zg4,Zg5,Zg6,Zhb,Zhc,Zhm,Zhn,Zho,Zhs,Zht,Zhu,Zh6,Zh7,Zh9,Zif,Zig,Zik,Zil,Zim,Zin,Ziu,Ziv,Ziw,Zix,Ziy,Zi1,Zi6,Zi7,Zjh,Zji,Zjn,Zjr,Zjs,Zjw,Zj7,Zka,Zkx,Zky,Zk0,Zk1,Zla,Zlb,Zlc,Zld,Zle,Zlf,Zlh,Zlj,Zlk,Zll,Zlm,Zlr,Zlt,Zlx,Zlz,Zl2,Zmt,Zmv,Zmw,Zmx,Zmz,Zm2,Zm5,Zm6,Zm7,Zm9,Zna,Znb,Zne,Znf,Zng,Znh,Znn,Zno,Znp,Znr,Zns,Znt,Znu,Znw,Zn5,Zrd,Zos,Zot,Zov,Zo3,Zo7,Zo8,Zo9,Zpa,Zpc,Zpg,Zpi,Zpo,Zpu,Zqb,Zqc,Zqf,Zqg,Zqh,Zqi,Zqk,Zql,Zqm,Zqn,List.length_drop,List.length_set,eq_self,true_and,and_true,Nat.zero_add,Nat.mul_one,Nat.sub_zero,hw]
      tactic =>
      unfold NextL; refine ⟨(k - 1), [(0, 0)], _, by omega, ⟨i + 1, acS t s x.2.1 [], otF t (acS t s x.2.1 []) (acO t s o2 x.2.1 []) (acT t s x.2.1 [] T), (tkF (acT t s x.2.1 [] T)).1, by omega, k1, by unfold otF; split; exact Ok.nil t; exact k2, TOk.tick (TOk.timed (by split; exact hT.again; exact hT)), rfl⟩, wkA ?_⟩
      unfold oC
      sym =>
      simp [Zaa,Zab,Zac,Zad,Zae,Zaf,Zag,Zah,Zai,Zak,Zal,Zam,Zan,Zao,Zap,Zaq,Zav,Zaw,Zay,Zaz,Za0,Za1,Za2,Za3,Za4,Za5,Za6,Za7,Za9,Zba,Zbb,Zbc,Zbd,Zbe,Zbf,Zbg,Zbk,Zbt,Zbu,Zbv,Zbw,Zb1,Zb7,Zch,Zci,Zcn,Zco,Zct,Zcv,Zc3,Zc5,Zc7,Zc8,Zdc,Zdd,Zde,Zdf,Zdg,Zdh,Zdi,Zdj,Zdk,Zdm,Zrj,Zrl,Zrm,Zrn,Zro,Zrp,Zrq,Zrr,Zrs,Zru,Zrv,Zrw,Zrx,Zry,Zrz,Zr0,Zr2,Zr9,Zsd,Zse,Zsf,Zsg,Zsh,Zsj,Zsm,Zsn,Zso,Zsp,Zsr,Zs0,Zs7,Zta,Ztf,Ztg,Zdo,Zdp,Zdq,Zdr,Zdt,Zdu,Zdv,Zdw,Zdx,Zdy,Zdz,Zd0,Zd1,Zd2,Zeb,Zek,Zeq,Zet,Zev,Zew,Zex,Zez,Ze0,Ze1,Ze2,Ze3,Ze5,Ze8,Zfc,Zfd,Zfe,Zfh,Zfi,Zfl,Zfn,Zfq,Zfz,Zf0,Zf1,Zf3,Zgd,Zgg,Zgr,Zgs,Zgt,Zgu,Zgv,Zgw,Zgx,Zg4,Zg5,Zg6,Zhb,Zhc,Zhm,Zhn,Zho,Zhs,Zht,Zhu,Zh6,Zh7,Zh9,Zif,Zig,Zik,Zil,Zim,Zin,Ziu,Ziv,Ziw,Zix,Ziy,Zi1,Zi6,Zi7,Zjh,Zji,Zjn,Zjr,Zjs,Zjw,Zj7,Zka,Zkx,Zky,Zk0,Zk1,Zla,Zlb,Zlc,Zld,Zle,Zlf,Zlh,Zlj,Zlk,Zll,Zlm,Zlr,Zlt,Zlx,Zlz,Zl2,Zmt,Zmv,Zmw,Zmx,Zmz,Zm2,Zm5,Zm6,Zm7,Zm9,Zna,Znb,Zne,Znf,Zng,Znh,Znn,Zno,Znp,Znr,Zns,Znt,Znu,Znw,Zn5,Zrd,Zos,Zot,Zov,Zo3,Zo7,Zo8,Zo9,Zpa,Zpc,Zpg,Zpi,Zpo,Zpu,Zqb,Zqc,Zqf,Zqg,Zqh,Zqi,Zqk,Zql,Zqm,Zqn,List.length_drop,List.length_set,eq_self,true_and,and_true,Nat.zero_add,Nat.mul_one,Nat.sub_zero]
  · sym =>
    simp [Zaa,Zab,Zac,Zad,Zae,Zaf,Zag,Zah,Zai,Zak,Zal,Zam,Zan,Zao,Zap,Zaq,Zav,Zaw,Zay,Zaz,Za0,Za1,Za2,Za3,Za4,Za5,Za6,Za7,Za9,Zba,Zbb,Zbc,Zbd,Zbe,Zbf,Zbg,Zbk,Zbt,Zbu,Zbv,Zbw,Zb1,Zb7,Zch,Zci,Zcn,Zco,Zct,Zcv,Zc3,Zc5,Zc7,Zc8,Zdc,Zdd,Zde,Zdf,Zdg,Zdh,Zdi,Zdj,Zdk,Zdm,Zrj,Zrl,Zrm,Zrn,Zro,Zrp,Zrq,Zrr,Zrs,Zru,Zrv,Zrw,Zrx,Zry,Zrz,Zr0,Zr2,Zr9,Zsd,Zse,Zsf,Zsg,Zsh,Zsj,Zsm,Zsn,Zso,Zsp,Zsr,Zs0,Zs7,Zta,Ztf,Ztg,Zdo,Zdp,Zdq,Zdr,Zdt,Zdu,Zdv,Zdw,Zdx,Zdy,Zdz,Zd0,Zd1,Zd2,Zeb,Zek,Zeq,Zet,Zev,Zew,Zex,Zez,Ze0,Ze1,Ze2,Ze3,Ze5,Ze8,Zfc,Zfd,Zfe,Zfh,Zfi,Zfl,Zfn,Zfq,Zfz,Zf0,Zf1,Zf3,Zgd,Zgg,Zgr,Zgs,Zgt,Zgu,Zgv,Zgw,Zgx,Zg4,Zg5,Zg6,Zhb,Zhc,Zhm,Zhn,Zho,Zhs,Zht,Zhu,Zh6,Zh7,Zh9,Zif,Zig,Zik,Zil,Zim,Zin,Ziu,Ziv,Ziw,Zix,Ziy,Zi1,Zi6,Zi7,Zjh,Zji,Zjn,Zjr,Zjs,Zjw,Zj7,Zka,Zkx,Zky,Zk0,Zk1,Zla,Zlb,Zlc,Zld,Zle,Zlf,Zlh,Zlj,Zlk,Zll,Zlm,Zlr,Zlt,Zlx,Zlz,Zl2,Zmt,Zmv,Zmw,Zmx,Zmz,Zm2,Zm5,Zm6,Zm7,Zm9,Zna,Znb,Zne,Znf,Zng,Znh,Znn,Zno,Znp,Znr,Zns,Znt,Znu,Znw,Zn5,Zrd,Zos,Zot,Zov,Zo3,Zo7,Zo8,Zo9,Zpa,Zpc,Zpg,Zpi,Zpo,Zpu,Zqb,Zqc,Zqf,Zqg,Zqh,Zqi,Zqk,Zql,Zqm,Zqn,List.length_drop,List.length_set,eq_self,true_and,and_true,Nat.zero_add,Nat.mul_one,Nat.sub_zero,h,callable_30]
    tactic =>
    and_intros <;> try (first | omega | rfl | assumption | exact cR_okF _ | exact cR_okI _ | exact cS_okI _ | exact rs_self (cR_okI _) | exact rs_self (cS_okI _) | (symm; refine List.take_of_length_le ?_; simp <;> omega))
    refine cl none (alive_con) trivial ?_
    sym =>
    simp [Zaa,Zab,Zac,Zad,Zae,Zaf,Zag,Zah,Zai,Zak,Zal,Zam,Zan,Zao,Zap,Zaq,Zav,Zaw,Zay,Zaz,Za0,Za1,Za2,Za3,Za4,Za5,Za6,Za7,Za9,Zba,Zbb,Zbc,Zbd,Zbe,Zbf,Zbg,Zbk,Zbt,Zbu,Zbv,Zbw,Zb1,Zb7,Zch,Zci,Zcn,Zco,Zct,Zcv,Zc3,Zc5,Zc7,Zc8,Zdc,Zdd,Zde,Zdf,Zdg,Zdh,Zdi,Zdj,Zdk,Zdm,Zrj,Zrl,Zrm,Zrn,Zro,Zrp,Zrq,Zrr,Zrs,Zru,Zrv,Zrw,Zrx,Zry,Zrz,Zr0,Zr2,Zr9,Zsd,Zse,Zsf,Zsg,Zsh,Zsj,Zsm,Zsn,Zso,Zsp,Zsr,Zs0,Zs7,Zta,Ztf,Ztg,Zdo,Zdp,Zdq,Zdr,Zdt,Zdu,Zdv,Zdw,Zdx,Zdy,Zdz,Zd0,Zd1,Zd2,Zeb,Zek,Zeq,Zet,Zev,Zew,Zex,Zez,Ze0,Ze1,Ze2,Ze3,Ze5,Ze8,Zfc,Zfd,Zfe,Zfh,Zfi,Zfl,Zfn,Zfq,Zfz,Zf0,Zf1,Zf3,Zgd,Zgg,Zgr,Zgs,Zgt,Zgu,Zgv,Zgw,Zgx,Zg4,Zg5,Zg6,Zhb,Zhc,Zhm,Zhn,Zho,Zhs,Zht,Zhu,Zh6,Zh7,Zh9,Zif,Zig,Zik,Zil,Zim,Zin,Ziu,Ziv,Ziw,Zix,Ziy,Zi1,Zi6,Zi7,Zjh,Zji,Zjn,Zjr,Zjs,Zjw,Zj7,Zka,Zkx,Zky,Zk0,Zk1,Zla,Zlb,Zlc,Zld,Zle,Zlf,Zlh,Zlj,Zlk,Zll,Zlm,Zlr,Zlt,Zlx,Zlz,Zl2,Zmt,Zmv,Zmw,Zmx,Zmz,Zm2,Zm5,Zm6,Zm7,Zm9,Zna,Znb,Zne,Znf,Zng,Znh,Znn,Zno,Znp,Znr,Zns,Znt,Znu,Znw,Zn5,Zrd,Zos,Zot,Zov,Zo3,Zo7,Zo8,Zo9,Zpa,Zpc,Zpg,Zpi,Zpo,Zpu,Zqb,Zqc,Zqf,Zqg,Zqh,Zqi,Zqk,Zql,Zqm,Zqn,List.length_drop,List.length_set,eq_self,true_and,and_true,Nat.zero_add,Nat.mul_one,Nat.sub_zero]
    tactic =>
    refine endA ?_
    sym =>
    simp [Zaa,Zab,Zac,Zad,Zae,Zaf,Zag,Zah,Zai,Zak,Zal,Zam,Zan,Zao,Zap,Zaq,Zav,Zaw,Zay,Zaz,Za0,Za1,Za2,Za3,Za4,Za5,Za6,Za7,Za9,Zba,Zbb,Zbc,Zbd,Zbe,Zbf,Zbg,Zbk,Zbt,Zbu,Zbv,Zbw,Zb1,Zb7,Zch,Zci,Zcn,Zco,Zct,Zcv,Zc3,Zc5,Zc7,Zc8,Zdc,Zdd,Zde,Zdf,Zdg,Zdh,Zdi,Zdj,Zdk,Zdm,Zrj,Zrl,Zrm,Zrn,Zro,Zrp,Zrq,Zrr,Zrs,Zru,Zrv,Zrw,Zrx,Zry,Zrz,Zr0,Zr2,Zr9,Zsd,Zse,Zsf,Zsg,Zsh,Zsj,Zsm,Zsn,Zso,Zsp,Zsr,Zs0,Zs7,Zta,Ztf,Ztg,Zdo,Zdp,Zdq,Zdr,Zdt,Zdu,Zdv,Zdw,Zdx,Zdy,Zdz,Zd0,Zd1,Zd2,Zeb,Zek,Zeq,Zet,Zev,Zew,Zex,Zez,Ze0,Ze1,Ze2,Ze3,Ze5,Ze8,Zfc,Zfd,Zfe,Zfh,Zfi,Zfl,Zfn,Zfq,Zfz,Zf0,Zf1,Zf3,Zgd,Zgg,Zgr,Zgs,Zgt,Zgu,Zgv,Zgw,Zgx,Zg4,Zg5,Zg6,Zhb,Zhc,Zhm,Zhn,Zho,Zhs,Zht,Zhu,Zh6,Zh7,Zh9,Zif,Zig,Zik,Zil,Zim,Zin,Ziu,Ziv,Ziw,Zix,Ziy,Zi1,Zi6,Zi7,Zjh,Zji,Zjn,Zjr,Zjs,Zjw,Zj7,Zka,Zkx,Zky,Zk0,Zk1,Zla,Zlb,Zlc,Zld,Zle,Zlf,Zlh,Zlj,Zlk,Zll,Zlm,Zlr,Zlt,Zlx,Zlz,Zl2,Zmt,Zmv,Zmw,Zmx,Zmz,Zm2,Zm5,Zm6,Zm7,Zm9,Zna,Znb,Zne,Znf,Zng,Znh,Znn,Zno,Znp,Znr,Zns,Znt,Znu,Znw,Zn5,Zrd,Zos,Zot,Zov,Zo3,Zo7,Zo8,Zo9,Zpa,Zpc,Zpg,Zpi,Zpo,Zpu,Zqb,Zqc,Zqf,Zqg,Zqh,Zqi,Zqk,Zql,Zqm,Zqn,List.length_drop,List.length_set,eq_self,true_and,and_true,Nat.zero_add,Nat.mul_one,Nat.sub_zero]
theorem pieces_law (src : List Int) (l : List (Int × Int × List (Int × Int))) : Con Try.prog 6 [] [.fz src.length (src.flatMap fun n : Int => [AV.sc (.int .u8 n)]), .fz l.length (l.flatMap fun x => [AV.sc (.int .u8 x.1)] ++ ([AV.sc (.int .i64 x.2.1)] ++ [AV.fz x.2.2.length (x.2.2.flatMap fun r : Int × Int => [AV.sc (.int .i64 r.1)] ++ [AV.sc (.int .i64 r.2)])]))] [] (Bo true) := by
  rw [flat_cB]
  exact pieces_con src l
end Go.Proofs.Ytbmdahhhgpbchaa.ObE
