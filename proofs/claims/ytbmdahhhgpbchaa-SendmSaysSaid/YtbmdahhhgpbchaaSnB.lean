import Derived.Test.YtbmdahhhgpbchaaSnA
import Derived.Test.YtbmdahhhgpbchaaCodE
namespace Go.Proofs.Ytbmdahhhgpbchaa.SnB
open Go Go.Sim Go.Sim.E Go.RowKit Go.Proofs Go.Proofs.Ytbmdahhhgpbchaa.Cod Go.Proofs.Ytbmdahhhgpbchaa.Tab Go.Proofs.Ytbmdahhhgpbchaa.Bse Go.Proofs.Ytbmdahhhgpbchaa.SpnP Go.Proofs.Ytbmdahhhgpbchaa.SwA Go.Proofs.Ytbmdahhhgpbchaa.SwB Go.Proofs.Ytbmdahhhgpbchaa.SwC Go.Proofs.Ytbmdahhhgpbchaa.SwS Go.Proofs.Ytbmdahhhgpbchaa.SwD Go.Proofs.Ytbmdahhhgpbchaa.SwF Go.Proofs.Ytbmdahhhgpbchaa.SwG Go.Proofs.Ytbmdahhhgpbchaa.SwL Go.Proofs.Ytbmdahhhgpbchaa.ObA Go.Proofs.Ytbmdahhhgpbchaa.ObB Go.Proofs.Ytbmdahhhgpbchaa.ObC Go.Proofs.Ytbmdahhhgpbchaa.SnA
set_option linter.unusedVariables false
set_option linter.unusedSimpArgs false
set_option maxRecDepth 100000
set_option maxHeartbeats 4000000
/-! ### frames -/
structure Fm where
  k : Int
  t : V 16
  es : Int
  er : Int
  o : Int
  n : Int
  su : V 32
  d : List Int
  r : List Rg
  c : Int
def eQ (p : Rg) : List AV := [L p.1, L p.2]
def cQ (l : List Rg) : List AV := l.flatMap eQ
abbrev fQ (l : List Rg) : AV := .fz l.length (cQ l)
theorem cQ_length (l : List Rg) : (cQ l).length = l.length * 2 := flat_length eQ 2 l (fun _ _ => rfl)
theorem cQ_append (a b : List Rg) : cQ (a ++ b) = cQ a ++ cQ b := by simp [cQ]
theorem cQ_snoc (l : List Rg) (r : Rg) : cQ (l ++ [r]) = cQ l ++ [L r.1, L r.2] := by rw [cQ_append]; rfl
theorem cQ_okI (l : List Rg) : okI (cQ l) := okI_flat (fun a => by simp [eQ, okI, isF]) l
theorem cQ_okF (l : List Rg) : okF (cQ l) := okF_flat (fun a => by simp [eQ, okF, okf]) l
theorem cQ_q (l : List Rg) (i : Nat) (h : i < l.length) (j : Nat) (hj : j < 2) : (cQ l).getD (i * 2 + j) .un = (eQ l[i]).getD j .un := by
  have := flat_at eQ (s := 2) l (fun _ _ => rfl) i j h hj
  rw [List.getD_eq_getElem?_getD, cQ, this, List.getD_eq_getElem?_getD, List.getD_eq_getElem?_getD, List.getElem?_eq_getElem h]
  rfl
theorem cQ_q0 (l : List Rg) (i : Nat) (h : i < l.length) : (cQ l).getD (i * 2) .un = L l[i].1 := cQ_q l i h 0 (by decide)
theorem cQ_q1 (l : List Rg) (i : Nat) (h : i < l.length) : (cQ l).getD (i * 2 + 1) .un = L l[i].2 := cQ_q l i h 1 (by decide)
theorem cQ_all (l : List Rg) : List.take (l.length * 2) (cQ l) = cQ l := List.take_of_length_le (by rw [cQ_length]; exact Nat.le_refl _)
theorem cQ_take (l : List Rg) (i : Nat) (h : i < l.length) : cQ (l.take (i + 1)) = cQ (l.take i) ++ [L l[i].1, L l[i].2] := by rw [take_step l i h, cQ_snoc]
def fr (f : Fm) : List AV := fc f.k f.t f.es f.er f.o f.n f.su (fB f.d) (fQ f.r) f.c
def cF (l : List Fm) : List AV := l.flatMap fr
abbrev fF (l : List Fm) : AV := .fz l.length (cF l)
theorem fr_len (f : Fm) : (fr f).length = 56 := fc_len ..
@[simp] theorem cF_length (l : List Fm) : (cF l).length = l.length * 56 := flat_length fr 56 l (fun f _ => fr_len f)
theorem fr_okI (f : Fm) : okI (fr f) := fc_okI _ _ _ _ _ _ _ _ _ _ rfl rfl
theorem cF_okI (l : List Fm) : okI (cF l) := okI_flat (fun f => fr_okI f) l
theorem cF_snoc (l : List Fm) (f : Fm) : cF (l ++ [f]) = cF l ++ fr f := by simp [cF]
/-- A sender. -/
structure Sn where
  st : Int
  cd : Int
  src : List Int
  su : V 32
  tk : V 16
  es : Int
  er : Int
  os : List Int
  t : Int
  s : List Rg
  o : List Rg
  T : Tm
  T2 : Tm
def sn (x : Sn) : List AV := sc x.st x.cd (fB x.src) x.su x.tk x.es x.er (fB x.os) x.t (fR x.s) (fR x.o) x.T.1 x.T.2.1 x.T.2.2 x.T2.1 x.T2.2.1 x.T2.2.2
theorem zS_sc : zF1 = sc 0 0 .nl z32 z16 0 0 .nl 0 .nl .nl false 0 0 false 0 0 := rfl
theorem zF_fc : zF2 = fc 0 z16 0 0 0 0 z32 .nl .nl 0 := rfl
def sayF (x : Sn) (k : Int) : Fm := ⟨k, x.tk, x.es, x.er, 0, 0, z32, [], [], 0⟩
def whF (x : Sn) (k : Int) : Fm := ⟨k, x.tk, x.es, x.er, 0, IN x.src.length, x.su, [], [], 0⟩
theorem say_con (x : Sn) (k : Int) : Con Try.prog 120 [] [.ag (sn x), I k] [] (.ag (fr (sayF x k))) := by
  obtain ⟨st, cd, src, su, tk, es, er, os, t, s, o, ⟨a, b, c⟩, ⟨a2, b2, c2⟩⟩ := x
  simp only [sn, fr, sayF]
  refine con_j b120 rfl ?_
  sym =>
  simp [Zab,Zad,Zak,Zam,Zaz,Za0,Za1,Za2,Za3,Za4,Za5,Za9,Zba,Zbb,Zbt,Zbv,Zb9,Zcv,Zcx,Zc3,Zev,Zez,Ze0,Ze1,Ze2,Ze3,Ze5,Ze8,Zfc,Zfd,Zfe,Zfh,Zgr,Zgs,Zgt,Zgv,Zgw,Zgx,Zhd,Zhe,Zhf,Zhg,Zhh,Zin,Zio,Zip,Ziu,Ziv,Ziw,Zi6,Zi7,Zjh,Zji,Zj2,Zmt,Zmv,Zmw,Zmy,Zm0,Zm1,Zm2,Zm5,Zm7,Zna,Znb,Znn,Zno,Zos,Zot,Zo7,eq_self,true_and,and_true,zF_fc,fs_0,fs_17,fs_18,fp_1,fp_f,rb_0,fc_len,fc_ok,v16,sc_51,sc_52,rd_35,sc_len]
  tactic =>
  refine endA ?_
  sym =>
  simp [Zpv,Zp8,eq_self,true_and,fc_rs]
  tactic =>
  exact ⟨rfl, rfl⟩
theorem whole_con (x : Sn) (k : Int) (hl : x.src.length ≤ 100000) : Con Try.prog 119 [] [.ag (sn x), I k] [] (fF [whF x k]) := by
  have hsay := say_con x k
  obtain ⟨st, cd, src, su, tk, es, er, os, t, s, o, ⟨a, b, c⟩, ⟨a2, b2, c2⟩⟩ := x
  simp only [sn, fr, sayF, whF, cF, List.flatMap_cons, List.flatMap_nil, List.append_nil] at hsay hl ⊢
  have hw : IntKind.u64.wrap (IN src.length) = IN src.length := by simp only [IN]; rw [wu64]; omega
  refine con_j b119 rfl ?_
  sym =>
  simp [Zab,Zad,Zam,Zaz,Za0,Za1,Za2,Za3,Za4,Za5,Za9,Zba,Zbb,Zbt,Zcx,Zdc,Zdd,Zde,Zev,Zew,Zez,Ze0,Ze2,Ze3,Ze5,Ze8,Zfc,Zfd,Zfe,Zfh,Zgr,Zgs,Zgt,Zio,Zip,Zi6,Zla,Zlb,Zle,Zlf,Zlh,Zlj,Zlm,Zm5,Zna,Znb,Zne,Znf,Zng,Zos,Zot,Zo7,eq_self,true_and,and_true,zF_fc,rd_0,sc_len,fz_sc,scF1,callable_120]
  tactic =>
  refine cl none (hsay) trivial ?_
  sym =>
  simp [Zab,Zac,Zad,Zak,Zam,Zaz,Za0,Za1,Za2,Za3,Za4,Za5,Za9,Zba,Zbb,Zbm,Zbt,Zbu,Zbw,Zco,Zcv,Zcz,Zc3,Zc4,Zc7,Zc8,Zc9,Zdi,Zdo,Zdp,Zdt,Zdu,Zdv,Zdw,Zdx,Zdy,Zdz,Zd0,Zd1,Zd2,Zeb,Zek,Zen,Zev,Zez,Ze0,Ze1,Ze2,Ze3,Ze5,Ze8,Zfc,Zfd,Zfe,Zfh,Zgh,Zgi,Zgr,Zgs,Zgt,Zgv,Zgw,Zgx,Zhf,Zhg,Zhh,Zh6,Zh7,Zin,Ziq,Zir,Ziu,Ziv,Ziw,Zi6,Zi7,Zjh,Zji,Zjn,Zj7,Zkv,Zlz,Zl2,Zmt,Zmv,Zmw,Zmx,Zmz,Zm2,Zm5,Zm6,Zna,Znb,Znc,Znd,Zne,Znn,Zno,Zo7,eq_self,true_and,and_true,fs_20,fp_21,fp_f,rb_0,fc_len,fc_ok,v32,cB_cells,flL_fz,sc_2,rd_3,sc_len,hw]
  tactic =>
  refine endA ?_
  sym =>
  simp [Zfc,Znh,Zp0,Zp1,Zp2,eq_self,true_and,and_true,fc_len]
  tactic =>
  refine ⟨?_, fc_okI _ _ _ _ _ _ _ _ _ _ rfl rfl⟩
  rw [List.take_of_length_le (by rw [fc_len]; exact Nat.le_refl _)]
  simp only [cF, fr, List.flatMap_cons, List.flatMap_nil, List.append_nil]
  try rfl
end Go.Proofs.Ytbmdahhhgpbchaa.SnB
