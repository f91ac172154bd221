import Derived.Test.YtbmdahhhgpbchaaSnJ
namespace Go.Proofs.Ytbmdahhhgpbchaa.SnK
open Go Go.Sim Go.Sim.E Go.RowKit Go.Proofs Go.Proofs.Ytbmdahhhgpbchaa.Cod Go.Proofs.Ytbmdahhhgpbchaa.Tab Go.Proofs.Ytbmdahhhgpbchaa.Bse Go.Proofs.Ytbmdahhhgpbchaa.SpnP Go.Proofs.Ytbmdahhhgpbchaa.SwA Go.Proofs.Ytbmdahhhgpbchaa.SwB Go.Proofs.Ytbmdahhhgpbchaa.SwC Go.Proofs.Ytbmdahhhgpbchaa.SwS Go.Proofs.Ytbmdahhhgpbchaa.SwD Go.Proofs.Ytbmdahhhgpbchaa.SwF Go.Proofs.Ytbmdahhhgpbchaa.SwG Go.Proofs.Ytbmdahhhgpbchaa.SwL Go.Proofs.Ytbmdahhhgpbchaa.ObA Go.Proofs.Ytbmdahhhgpbchaa.ObB Go.Proofs.Ytbmdahhhgpbchaa.ObC Go.Proofs.Ytbmdahhhgpbchaa.SnA Go.Proofs.Ytbmdahhhgpbchaa.SnB Go.Proofs.Ytbmdahhhgpbchaa.SnC Go.Proofs.Ytbmdahhhgpbchaa.SnD Go.Proofs.Ytbmdahhhgpbchaa.SnE Go.Proofs.Ytbmdahhhgpbchaa.SnF Go.Proofs.Ytbmdahhhgpbchaa.SnG Go.Proofs.Ytbmdahhhgpbchaa.SnH Go.Proofs.Ytbmdahhhgpbchaa.DgA Go.Proofs.Ytbmdahhhgpbchaa.DgB Go.Proofs.Ytbmdahhhgpbchaa.SnI Go.Proofs.Ytbmdahhhgpbchaa.SnJ
set_option linter.unusedVariables false
set_option linter.unusedSimpArgs false
set_option maxRecDepth 100000
set_option maxHeartbeats 4000000
abbrev StT := Bool × Bool × Bool × Fm
def enT (x : StT) : List AV := Bo x.1 :: Bo x.2.1 :: Bo x.2.2.1 :: fr x.2.2.2
def cT (l : List StT) : List AV := l.flatMap enT
abbrev fT (l : List StT) : AV := .fz l.length (cT l)
theorem enT_len (x : StT) : (enT x).length = 59 := by simp [enT, fr_len]
@[simp] theorem cT_length (l : List StT) : (cT l).length = l.length * 59 := flat_length enT 59 l (fun x _ => enT_len x)
theorem cT_drop (l : List StT) (i : Nat) : (cT l).drop (i * 59) = cT (l.drop i) := by
  induction l generalizing i with
  | nil => simp [cT]
  | cons x l ih =>
    cases i with
    | zero => simp
    | succ i =>
      have e : cT (x :: l) = enT x ++ cT l := rfl
      rw [e, List.drop_append, enT_len, List.drop_of_length_le (by rw [enT_len]; omega), List.nil_append, show (i + 1) * 59 - 59 = i * 59 from by omega, ih]
      rfl
theorem cT_at (l : List StT) (i : Nat) (h : i < l.length) : rdb (cT l) (i * 59) 59 = enT l[i] := by
  show List.take 59 (List.drop (i * 59) (cT l)) = _
  rw [cT_drop, List.drop_eq_getElem_cons h]
  have e : ∀ (x : StT) l, cT (x :: l) = enT x ++ cT l := fun _ _ => rfl
  rw [e, List.take_append_of_le_length (by rw [enT_len]; exact Nat.le_refl _), List.take_of_length_le (by rw [enT_len]; exact Nat.le_refl _)]
theorem cT_takes (l : List StT) (k : Nat) : (cT l).take (k * 59) = cT (l.take k) := by
  induction l generalizing k with
  | nil => simp [cT]
  | cons x l ih =>
    cases k with
    | zero => simp [cT]
    | succ k =>
      have e : ∀ (x : StT) l, cT (x :: l) = enT x ++ cT l := fun _ _ => rfl
      rw [List.take_succ_cons, e, e, show (k + 1) * 59 = 59 + k * 59 from by omega, List.take_append, enT_len, List.take_of_length_le (by rw [enT_len]; omega), show 59 + k * 59 - 59 = k * 59 from by omega, ih]
def t3 : V 16 := ⟨[3, 0, 0, 0, 0, 0, 0, 0, 0, 0, 0, 0, 0, 0, 0, 0], rfl⟩
theorem t3_c : [Y 3, Y 0, Y 0, Y 0, Y 0, Y 0, Y 0, Y 0, Y 0, Y 0, Y 0, Y 0, Y 0, Y 0, Y 0, Y 0] = cB t3.1 := rfl
theorem sz16 (u : V 16) : spl [Y 0, Y 0, Y 0, Y 0, Y 0, Y 0, Y 0, Y 0, Y 0, Y 0, Y 0, Y 0, Y 0, Y 0, Y 0, Y 0] 0 (cB u.1) = cB u.1 := by
  have := spl_app (cB u.1) [Y 0, Y 0, Y 0, Y 0, Y 0, Y 0, Y 0, Y 0, Y 0, Y 0, Y 0, Y 0, Y 0, Y 0, Y 0, Y 0] [] [] (by rw [v16]; rfl)
  simpa using this
theorem rt16 (u : V 16) : rdb (cB u.1) 0 16 = cB u.1 := rdb_all (v16 u)
theorem cB_frz (S : St) : ∀ l : List Int, frzs1 S (cB l) = some (cB l, [], True)
  | [] => rfl
  | n :: l => by
    show frzs1 S (Y n :: cB l) = _
    simp [frzs1, cB_frz S l, frz1, isF]
    rfl
theorem zT_c : zF0 = Bo false :: Bo false :: Bo false :: fc 0 z16 0 0 0 0 z32 .nl .nl 0 := rfl
theorem sp_t (x y z : AV) (k : Int) (t : V 16) (es er o n : Int) (su : V 32) (d r : AV) (c : Int) (x' y' z' : AV) (k' : Int) (t' : V 16) (es' er' o' n' : Int) (su' : V 32) (d' r' : AV) (c' : Int) :
    spl (x :: y :: z :: fc k t es er o n su d r c) 0 (x' :: y' :: z' :: fc k' t' es' er' o' n' su' d' r' c') = x' :: y' :: z' :: fc k' t' es' er' o' n' su' d' r' c' := by
  have := spl_app (x' :: y' :: z' :: fc k' t' es' er' o' n' su' d' r' c') (x :: y :: z :: fc k t es er o n su d r c) [] [] (by simp [fc_len])
  simpa using this
theorem sp_t3 (x y z : AV) (k : Int) (t : V 16) (es er o n : Int) (su : V 32) (d r : AV) (c : Int) (k' : Int) (t' : V 16) (es' er' o' n' : Int) (su' : V 32) (d' r' : AV) (c' : Int) :
    spl (x :: y :: z :: fc k t es er o n su d r c) 3 (fc k' t' es' er' o' n' su' d' r' c') = x :: y :: z :: fc k' t' es' er' o' n' su' d' r' c' := by
  have := spl_app (fc k' t' es' er' o' n' su' d' r' c') (fc k t es er o n su d r c) [x, y, z] [] (by simp [fc_len])
  simpa using this
theorem rd_tt (x y z : AV) (k : Int) (t : V 16) (es er o n : Int) (su : V 32) (d r : AV) (c : Int) : rdb (x :: y :: z :: fc k t es er o n su d r c) 0 59 = x :: y :: z :: fc k t es er o n su d r c := rdb_all (by simp [fc_len])
def i8 (f : Fm) (q : List StT) (k : Nat) (st : St) : Prop := ∃ (i : Nat) (x : Sn), i + k = q.length ∧ Inv x ∧ x.tk = t3 ∧ x.es = 5 ∧
  st = ⟨[(5, .pt 0 0), (7, .pt 1 0), (8, .pt 2 0), (9, I 0), (52, fT q), (53, I (IN q.length)), (54, I (IN i))], [(0, ⟨fr f, 1, 0⟩), (1, ⟨cB t3.1, 1, 0⟩), (2, ⟨sn x, 1, 0⟩)], 3⟩
theorem strange_con (src : List Int) (l : List StT) (f : Fm) : Con Try.prog 8 [] [fB src, fT l, .ag (fr f)] [] (Bo true) := by
  have hfar := far_con f
  obtain ⟨fk, ft, fes, fer, fo, fn, fsu, fd, frs, fcc⟩ := f
  obtain ⟨F, hF⟩ : ∃ F : Fm, F = ⟨fk, ft, fes, fer, fo, fn, fsu, fd, frs, fcc⟩ := ⟨_, rfl⟩
  have hFr : fr F = fc fk ft fes fer fo fn fsu (fB fd) (fQ frs) fcc := by rw [hF]; rfl
  rw [← hF] at hfar ⊢
  rw [hFr] at hfar ⊢
  refine con_j b8 rfl ?_
  by_cases h1 : (6000 : Int) < IN src.length
  · sym =>
    simp [Zab,Zad,Zae,Zaf,Zal,Zam,Zaz,Za0,Za1,Za2,Za3,Za4,Za5,Za6,Za7,Za8,Za9,Zba,Zbb,Zbd,Zbf,Zcn,Zcx,Zdc,Zdd,Zde,Zev,Zew,Zex,Zez,Ze0,Ze2,Ze3,Ze5,Zfd,Zfe,Zfh,Zfi,Zfj,Zfn,Zf3,Zh6,Zh7,Zio,Zip,Zi6,Zla,Zna,Znb,Zne,Znf,Zos,Zot,Zo6,Zo7,Zo8,eq_self,true_and,h1,callable_46]
    tactic =>
    refine cl none (alive_con) trivial ?_
    sym =>
    simp [Zak,Zam,Zao,Zaz,Za0,Za1,Za2,Za3,Za4,Za5,Za9,Zba,Zbb,Zdi,Zev,Zez,Ze0,Ze2,Zfd,Zfe,Zfh,Zjw,Zlz,Zmt,Zmv,Zmw,Zmx,Zmz,Zm2,Zo7,eq_self,true_and]
    tactic =>
    refine endA ?_
    sym =>
    simp [Zpc,eq_self]
  by_cases h2 : src.length = 0
  · sym =>
    simp [Zab,Zad,Zae,Zaf,Zal,Zam,Zaz,Za0,Za1,Za2,Za3,Za4,Za5,Za6,Za7,Za8,Za9,Zba,Zbb,Zbd,Zbf,Zcn,Zcx,Zdc,Zdd,Zde,Zev,Zew,Zex,Zez,Ze0,Ze2,Ze3,Ze5,Zfd,Zfe,Zfh,Zfi,Zfj,Zfl,Zfn,Zfz,Zf3,Zh6,Zh7,Zio,Zip,Zi6,Zla,Zna,Znb,Zne,Znf,Zn5,Zos,Zot,Zo6,Zo7,Zo8,Zo9,eq_self,true_and,h1,h2,callable_46]
    tactic =>
    refine cl none (alive_con) trivial ?_
    sym =>
    simp [Zak,Zam,Zao,Zaz,Za0,Za1,Za2,Za3,Za4,Za5,Za9,Zba,Zbb,Zdi,Zev,Zez,Ze0,Ze2,Zfd,Zfe,Zfh,Zjw,Zlz,Zmt,Zmv,Zmw,Zmx,Zmz,Zm2,Zo7,eq_self,true_and]
    tactic =>
    refine endA ?_
    sym =>
    simp [Zpc,eq_self]
  sym =>
  simp [Zab,Zad,Zam,Zaz,Za0,Za1,Za2,Za3,Za4,Za5,Za6,Za7,Za9,Zba,Zbb,Zbd,Zbf,Zbt,Zcn,Zcx,Zdc,Zdd,Zde,Zev,Zew,Zex,Zez,Ze0,Ze2,Ze3,Ze5,Ze8,Zfc,Zfd,Zfe,Zfh,Zfi,Zfl,Zfn,Zfz,Zf3,Zgr,Zgs,Zgt,Zh6,Zh7,Zio,Zip,Zi6,Zla,Zlb,Zle,Zlf,Zlh,Zlm,Zm5,Zna,Znb,Zne,Znf,Zng,Zny,Zos,Zot,Zo7,Zo9,eq_self,true_and,and_true,rb_0,fc_len,fz_fc,fcF1,h1,h2,callable_45]
  tactic =>
  refine cl none (hfar) trivial ?_
  by_cases h3 : farF F = true
  · sym =>
    simp [Zab,Zad,Zae,Zaf,Zal,Zam,Zaz,Za0,Za1,Za2,Za3,Za4,Za5,Za9,Zba,Zbd,Zdc,Zdd,Zde,Zdi,Zev,Zew,Zez,Ze0,Ze2,Zfd,Zfe,Zfi,Zfl,Zjw,Zla,Zlz,Zna,Znb,Zne,Znf,Zo7,eq_self,true_and,h3,callable_46]
    tactic =>
    refine cl none (alive_con) trivial ?_
    sym =>
    simp [Zak,Zam,Zao,Zaz,Za0,Za1,Za2,Za3,Za4,Za5,Za9,Zba,Zbb,Zdi,Zev,Zez,Ze0,Ze2,Zfd,Zfe,Zfh,Zjw,Zlz,Zmt,Zmv,Zmw,Zmx,Zmz,Zm2,Zo7,eq_self,true_and]
    tactic =>
    refine endA ?_
    sym =>
    simp [Zpc,eq_self]
  have h3 : farF F = false := by simpa using h3
  have hs6 : src.length ≤ 6000 := by simp only [IN] at h1; omega
  have c0 := snew_con src t3 5 (by omega) hs6
  have i0 := newS_inv src t3 5 hs6
  obtain ⟨x0, hx0⟩ : ∃ x, x = newS src t3 5 := ⟨_, rfl⟩
  have k0 : x0.tk = t3 ∧ x0.es = 5 := by rw [hx0]; exact ⟨rfl, rfl⟩
  rw [← hx0] at c0 i0
  clear hx0
  sym =>
  simp [Zaa,Zab,Zad,Zae,Zaf,Zal,Zam,Zaz,Za0,Za1,Za2,Za3,Za4,Za5,Za9,Zba,Zbb,Zbd,Zbt,Zb9,Zcv,Zc3,Zdc,Zdd,Zde,Zdi,Zev,Zew,Zez,Ze0,Ze1,Ze2,Ze3,Ze5,Ze8,Zfc,Zfd,Zfe,Zfh,Zfi,Zfl,Zgr,Zgs,Zgt,Zhd,Zhe,Zhf,Zhg,Zhh,Zin,Ziu,Ziv,Ziw,Zi6,Zi7,Zjw,Zla,Zlb,Zle,Zlf,Zlh,Zlj,Zll,Zlz,Zm5,Zna,Znb,Zne,Znf,Zng,Znn,Zno,Znp,Zo7,eq_self,true_and,and_true,v16,cB_cells,zS_sc,h3,t3_c,sz16,rt16,cB_frz,callable_47]
  tactic =>
  refine cl none (c0) trivial ?_
  have e1 : min (IN l.length) 20 = IN (l.take 20).length := by simp [IN]; omega
  have e2 : (cT l).take ((l.take 20).length * 59) = cT (l.take 20) := by rw [cT_takes]; congr 1; simp [List.take_take]
  have e3 : (l.take 20).length ≤ l.length := by simp; omega
  have hq20 : (l.take 20).length ≤ 20 := by simp; omega
  rcases x0 with ⟨st, cd, sr, su, tk, es, er, os, t, s, o, ⟨a, b, c⟩, ⟨a2, b2, c2⟩⟩
  simp only [sn]
  sym =>
  simp [Zab,Zad,Zag,Zah,Zam,Zaz,Za0,Za1,Za2,Za3,Za4,Za5,Za9,Zba,Zbb,Zb7,Zch,Zcn,Zct,Zcv,Zc3,Zdi,Zev,Zew,Zez,Ze0,Ze1,Ze2,Ze3,Ze5,Zfc,Zfd,Zfe,Zfh,Zhb,Zhc,Zhm,Zhn,Zho,Zhs,Zht,Zhu,Zh6,Zh7,Zif,Zig,Zik,Zil,Zim,Zin,Ziu,Ziv,Ziw,Zi6,Zjh,Zji,Zj7,Zky,Zk0,Zk1,Zlz,Zl2,Zm9,Zna,Znb,Znf,Zng,Znh,Zns,Znu,Znw,Zn5,Zrd,Zo7,eq_self,true_and,and_true,Nat.sub_zero,Bool.or_true,sp_0,sc_len,sc_ok,flL_sc,e1,e2,e3]
  tactic =>
  generalize l.take 20 = q at *
  refine lpA (i8 F q) q.length [(0, 0), (1, 15), (2, 23)] _ ⟨0, ⟨st, cd, sr, su, tk, es, er, os, t, s, o, ⟨a, b, c⟩, ⟨a2, b2, c2⟩⟩, by omega, i0, k0.1, k0.2, rfl⟩ (wkA ?_) ?_
  · rw [hFr]
    simp only [sn]
    sym =>
    simp [Za2,Za3,Zez,Zfc,Znr,Zn5,Zpc,Zpg,Zpi,Zpu,Zqf,Zqg,Zqh,Zqi,Zqk,Zql,Zqm,Zqn,eq_self,true_and,and_true,fc_rs,sc_rs]
    tactic =>
    exact rs_self (cB_okI _)
  clear i0 k0 c0
  rintro k Q ⟨i, x, hi, hx, kt, ke, rfl⟩
  rw [hFr]
  have ctk := tick_con x hx
  have cep := epoch_con x
  by_cases h : i < q.length
  · have hw := w64s i (by omega)
    have h0 := cT_at q i h
    obtain ⟨⟨yt, yo, yn, G⟩, hy⟩ : ∃ y, y = q[i] := ⟨_, rfl⟩
    rw [← hy] at h0
    have hfg := far_con G
    have cth := fun (hG : farF G = false) => theirs_con (frmF yo yn G x.tk x.es x.er) (by
      have : G.r.length ≤ 20 := by simp [farF] at hG; omega
      unfold frmF; cases yo <;> cases yn <;> simp <;> omega)
    have cfr := frame_con yt yo yn G x.tk x.es x.er
    have cta := fun (hG : farF G = false) => take_con x hx (frmF yo yn G x.tk x.es x.er) (by
      have : G.r.length ≤ 20 := by simp [farF] at hG; omega
      unfold frmF; cases yo <;> cases yn <;> simp <;> omega)
    have i1 := tcF_inv hx
    have k1 : (tcF x).1.tk = t3 ∧ (tcF x).1.es = 5 := ⟨(tcF_keep x).1.trans kt, (tcF_keep x).2.trans ke⟩
    have i2 := taF_inv hx (frmF yo yn G x.tk x.es x.er)
    have k2 : (taF x (frmF yo yn G x.tk x.es x.er)).1.tk = t3 ∧ (taF x (frmF yo yn G x.tk x.es x.er)).1.es = 5 := ⟨(taF_keep x _).1.trans kt, (taF_keep x _).2.trans ke⟩
    obtain ⟨gk, gt, ges, ger, go, gn, gsu, gd, gr, gc⟩ := G
    simp only [enT, fr] at h0 hfg cfr
    generalize tcF x = R1 at *
    generalize frmF yo yn ⟨gk, gt, ges, ger, go, gn, gsu, gd, gr, gc⟩ x.tk x.es x.er = G2 at *
    generalize taF x G2 = R2 at *
    obtain ⟨st, cd, sr, su, tk, es, er, os, t, s, o, ⟨a, b, c⟩, ⟨a2, b2, c2⟩⟩ := x
    simp only at kt ke
    subst kt
    subst ke
    simp only [sn] at ctk cep cfr ⊢
    sym =>
    simp [Zaa,Zab,Zad,Zae,Zaf,Zag,Zal,Zam,Zay,Zaz,Za0,Za1,Za2,Za3,Za4,Za5,Za9,Zba,Zbf,Zbt,Zbv,Zb1,Zcv,Zc3,Zdc,Zdd,Zde,Zev,Zew,Zez,Ze0,Ze1,Ze2,Ze3,Ze5,Ze8,Zfc,Zfd,Zfe,Zfn,Zf1,Zgr,Zgs,Zgt,Zgu,Zgv,Zgw,Zgx,Zg4,Zg6,Zho,Zin,Ziu,Ziv,Ziw,Zi6,Zjh,Zji,Zjs,Zj7,Zla,Zlb,Zle,Zlf,Zlh,Zlm,Zm5,Zna,Znb,Zne,Znf,Zng,Zno,Znp,Zns,Znt,Znw,Zo7,Zo8,eq_self,true_and,and_true,fc_len,fc_ok,fz_fc,fcF1,h,h0,zT_c,rd_t,sp_t,sp_t3,rd_tt,cT_length,callable_45]
    tactic =>
    and_intros <;> try (first | omega | rfl | assumption | simp only [IN]; omega)
    refine cl none (hfg) trivial ?_
    by_cases hG : farF ⟨gk, gt, ges, ger, go, gn, gsu, gd, gr, gc⟩ = true
    · sym =>
      simp [Zab,Zad,Zae,Zaf,Zal,Zam,Zaz,Za0,Za1,Za2,Za3,Za4,Za5,Za9,Zdc,Zdd,Zde,Zdi,Zev,Zew,Zez,Ze0,Zfd,Zfe,Zjw,Zla,Zlz,Zna,Znb,Zne,Znf,Zo7,eq_self,true_and,hG,callable_46]
      tactic =>
      refine cl none (alive_con) trivial ?_
      sym =>
      simp [Zak,Zam,Zao,Zar,Zax,Zaz,Za0,Za1,Za2,Za3,Za4,Za5,Za9,Zba,Zbb,Zdi,Zev,Zez,Ze0,Ze2,Zfd,Zfe,Zfh,Zjw,Zlz,Zmt,Zmv,Zmw,Zmx,Zmz,Zm2,Zo7,eq_self,true_and]
      tactic =>
      refine endA ?_
      sym =>
      simp [Zpc,eq_self]
    have hG : farF ⟨gk, gt, ges, ger, go, gn, gsu, gd, gr, gc⟩ = false := by simpa using hG
    have cth := cth hG
    have cta := cta hG
    cases yt
    · sym =>
      simp [Zaa,Zab,Zac,Zad,Zae,Zaf,Zal,Zam,Zaz,Za0,Za1,Za2,Za3,Za4,Za5,Za9,Zba,Zbt,Zbu,Zbv,Zc7,Zc8,Zdf,Zdg,Zdh,Zdi,Zdp,Zdt,Zdu,Zdv,Zdw,Zdx,Zdy,Zdz,Zd0,Zd1,Zec,Zek,Zen,Zeq,Zet,Zev,Zew,Zez,Ze0,Ze2,Ze5,Ze8,Zfc,Zfd,Zfe,Zgr,Zgs,Zgt,Zgv,Zgw,Zgx,Zjw,Zla,Zlb,Zle,Zlf,Zlh,Zlm,Zlz,Zm5,Zm6,Zm9,Zna,Znb,Zne,Znf,Zng,Zo7,eq_self,true_and,and_true,fc_len,v16,rd_0,sc_len,sc_id,fz_sc,scF1,hG,rd_tt,rt16,callable_52]
      tactic =>
      refine cl none (cep) trivial ?_
      sym =>
      simp [Za2,Za3,Zdf,Zdg,Zdh,Zdj,Zdk,Zdp,Zdt,Zdu,Zdv,Zdw,Zdx,Zdy,Zdz,Zd0,Zd1,Zd3,Zec,Zen,Zeq,Zer,Zes,Zet,Zev,Zew,Zez,Ze0,Zfd,Zfe,Zjq,Zkv,Zkw,Zkx,Zla,Zlb,Zlc,Zld,Zle,Zlf,Zlh,Zlk,Zlm,Zlz,Znc,Zne,Znf,Zng,Zo7,eq_self,true_and,and_true,fc_id,fz_fc,fcF1,rd_tt,rt16,cB_frz,callable_51]
      tactic =>
      refine cl none (cfr) trivial ?_
      obtain ⟨g2k, g2t, g2es, g2er, g2o, g2n, g2su, g2d, g2r, g2c⟩ := G2
      obtain ⟨⟨st', cd', sr', su', tk', es', er', os', t', s', o', ⟨a', b', c'⟩, ⟨a2', b2', c2'⟩⟩, fs⟩ := R2
      simp only [fr, sn] at cth cta ⊢
      sym =>
      simp [Za2,Za3,Zdf,Zdg,Zdh,Zdj,Zdk,Zdm,Zdp,Zdt,Zdu,Zdv,Zdw,Zdx,Zdy,Zdz,Zd0,Zd1,Zec,Zen,Zeq,Zet,Zev,Zew,Zez,Ze0,Zfd,Zfe,Zkv,Zla,Zlb,Zle,Zlf,Zlh,Zlm,Zlz,Zl2,Zne,Znf,Zng,Zo7,eq_self,true_and,and_true,fc_id,fz_fc,fcF1,flL_fz,callable_50]
      tactic =>
      refine cl none (cth) trivial ?_
      sym =>
      simp [Za2,Za3,Zdf,Zdg,Zdh,Zdj,Zdk,Zdm,Zdp,Zdt,Zdu,Zdv,Zdw,Zdx,Zdy,Zdz,Zd0,Zd1,Zec,Zen,Zeq,Zet,Zev,Zew,Zez,Ze0,Zfd,Zfe,Zkv,Zla,Zlb,Zle,Zlf,Zlh,Zlm,Zlz,Zl2,Zne,Znf,Zng,Zo7,eq_self,true_and,and_true,fc_id,fz_fc,fcF1,flL_fz,sc_id,fz_sc,scF1,callable_49]
      tactic =>
      refine cl none (cta) trivial ?_
      sym =>
      simp [Zab,Zam,Zap,Zav,Zaz,Za0,Za1,Za2,Za3,Za4,Za5,Za9,Zba,Zbb,Zbc,Zbf,Zb8,Zc4,Zc7,Zc8,Zc9,Zdj,Zdk,Zdm,Zdo,Zdp,Zdt,Zdu,Zdv,Zdw,Zdx,Zdy,Zd0,Zd1,Zec,Zek,Zen,Zep,Zev,Zew,Zez,Ze0,Ze1,Ze2,Ze3,Ze5,Zfc,Zfd,Zfe,Zfh,Zfn,Zfq,Zhb,Zhc,Ziu,Ziv,Ziw,Zi6,Zjh,Zji,Zj7,Zky,Zk0,Zk1,Zlz,Zl2,Zm9,Zna,Znb,Zne,Zo7,eq_self,true_and,and_true,sp_0,sc_len,sc_ok,sc_id,flL_sc,hw]
      tactic =>
      unfold NextL; refine ⟨(k - 1), [(0, 0), (1, 1), (2, 2)], _, by omega, ⟨i + 1, ⟨st', cd', sr', su', tk', es', er', os', t', s', o', ⟨a', b', c'⟩, ⟨a2', b2', c2'⟩⟩, by omega, i2, k2.1, k2.2, rfl⟩, wkA ?_⟩
      rw [hFr]
      simp only [sn]
      sym =>
      simp [Za2,Za3,Zez,Zfc,Znr,Zpc,Zpg,Zpi,Zpu,Zqf,Zqg,Zqh,Zqi,Zqk,Zql,Zqm,Zqn,eq_self,true_and,and_true,fc_rs,sc_rs]
      tactic =>
      exact rs_self (cB_okI _)
    · sym =>
      simp [Zaa,Zab,Zad,Zae,Zaf,Zal,Zam,Zaz,Za0,Za1,Za2,Za3,Za4,Za5,Za9,Zba,Zbt,Zbv,Zdc,Zdd,Zde,Zdi,Zev,Zew,Zez,Ze0,Ze2,Ze5,Ze8,Zfc,Zfd,Zfe,Zgr,Zgs,Zgt,Zgv,Zgw,Zgx,Zjw,Zla,Zlb,Zle,Zlf,Zlh,Zlm,Zlz,Zm5,Zm6,Zm9,Zna,Znb,Zne,Znf,Zng,Zo7,eq_self,true_and,and_true,fc_len,rd_0,sc_len,fz_sc,scF1,hG,callable_48]
      tactic =>
      refine cl none (ctk) trivial ?_
      obtain ⟨⟨st', cd', sr', su', tk', es', er', os', t', s', o', ⟨a', b', c'⟩, ⟨a2', b2', c2'⟩⟩, fs⟩ := R1
      simp only [sn]
      sym =>
      simp [Zab,Zam,Zap,Zav,Zaz,Za0,Za1,Za2,Za3,Za4,Za5,Za9,Zba,Zbb,Zbf,Zb7,Zc3,Zdi,Zev,Zew,Zez,Ze0,Ze1,Ze2,Ze3,Ze5,Zfc,Zfd,Zfe,Zfh,Zfn,Zfq,Zhb,Zhc,Ziu,Ziv,Ziw,Zi6,Zjh,Zji,Zj7,Zky,Zk0,Zk1,Zlz,Zl2,Zm9,Zna,Znb,Zo7,eq_self,true_and,and_true,sp_0,sc_len,sc_ok,flL_sc,hw]
      tactic =>
      unfold NextL; refine ⟨(k - 1), [(0, 0), (1, 1), (2, 2)], _, by omega, ⟨i + 1, ⟨st', cd', sr', su', tk', es', er', os', t', s', o', ⟨a', b', c'⟩, ⟨a2', b2', c2'⟩⟩, by omega, i1, k1.1, k1.2, rfl⟩, wkA ?_⟩
      rw [hFr]
      simp only [sn]
      sym =>
      simp [Za2,Za3,Zez,Zfc,Znr,Zpc,Zpg,Zpi,Zpu,Zqf,Zqg,Zqh,Zqi,Zqk,Zql,Zqm,Zqn,eq_self,true_and,and_true,fc_rs,sc_rs]
      tactic =>
      exact rs_self (cB_okI _)
  · have hr20 : frs.length ≤ 20 := by
      have : F.r = frs := by rw [hF]
      have h4 : ¬ 20 < F.r.length := by intro h5; simp [farF, h5] at h3
      rw [this] at h4; omega
    have hall : ∀ es', (ft ≠ t3 ∨ es' ≠ 5) →
        Con Try.prog 50 [] [.ag (fr ⟨fk, ft, es', fer, fo, fn, fsu, fd, frs, fcc⟩)] [] (.ag (fr ⟨fk, ft, es', fer, fo, fn, fsu, fd, frs, fcc⟩)) ∧
        Con Try.prog 49 [] [.ag (sn x), .ag (fr ⟨fk, ft, es', fer, fo, fn, fsu, fd, frs, fcc⟩)] [] (.tu [.ag (sn x), fF []]) ∧
        Con Try.prog 49 [] [.ag (sn zeS), .ag (fr ⟨fk, ft, es', fer, fo, fn, fsu, fd, frs, fcc⟩)] [] (.tu [.ag (sn zeS), fF []]) := by
      intro es' hs
      have c2 := take_con x hx ⟨fk, ft, es', fer, fo, fn, fsu, fd, frs, fcc⟩ (by show frs.length ≤ 1000; omega)
      rw [taF_strange x ⟨fk, ft, es', fer, fo, fn, fsu, fd, frs, fcc⟩ (by rw [kt, ke]; exact hs)] at c2
      have c3 := take_con zeS zeS_inv ⟨fk, ft, es', fer, fo, fn, fsu, fd, frs, fcc⟩ (by show frs.length ≤ 1000; omega)
      have e3 : ∀ g, taF zeS g = (zeS, []) := fun g => by unfold taF; rw [if_pos (by decide : zeS.st < 1)]
      rw [e3] at c3
      exact ⟨theirs_con _ (by show frs.length ≤ 1000000; omega), c2, c3⟩
    have ztk := tick_con zeS zeS_inv
    rw [show tcF zeS = (zeS, []) from rfl] at ztk
    have zst := state_con zeS
    have xst := state_con x
    have xtk := ctk
    have ub := sbase_con _ (tcF_inv hx)
    have xb := sbase_con x hx
    generalize tcF x = R1 at *
    obtain ⟨⟨st', cd', sr', su', tk', es', er', os', t', s', o', ⟨a', b', c'⟩, ⟨a2', b2', c2'⟩⟩, fs⟩ := R1
    obtain ⟨st, cd, sr, su, tk, es, er, os, t, s, o, ⟨a, b, c⟩, ⟨a2, b2, c2⟩⟩ := x
    simp only at kt ke
    subst kt
    subst ke
    by_cases ht : ft = t3
    · subst ht
      by_cases he : fes = 5
      · subst he
        have hstr : t3 ≠ t3 ∨ (6 : Int) ≠ 5 := .inr (by decide)
        sym =>
        simp [Zab,Zac,Zad,Zae,Zaf,Zai,Zal,Zam,Zan,Zaq,Zaw,Zay,Zaz,Za0,Za1,Za2,Za3,Za4,Za5,Za6,Za7,Za9,Zba,Zbb,Zbd,Zbf,Zbh,Zbt,Zbu,Zbv,Zc3,Zc7,Zc8,Zdf,Zdg,Zdh,Zdp,Zdt,Zdu,Zdv,Zdw,Zdx,Zdy,Zdz,Zd0,Zd1,Zec,Zek,Zen,Zeq,Zet,Zev,Zew,Zex,Zez,Ze0,Ze1,Ze2,Ze3,Ze5,Ze8,Zfc,Zfd,Zfe,Zfh,Zfi,Zfl,Zfn,Zfz,Zf1,Zga,Zgb,Zgr,Zgs,Zgt,Zgv,Zgw,Zgx,Ziu,Ziv,Ziw,Zi7,Zjh,Zji,Zjn,Zla,Zlb,Zle,Zlf,Zlh,Zlm,Zm5,Zm6,Zna,Znb,Zne,Znf,Zng,Znn,Zno,Znt,Zo7,Zo8,Zo9,eq_self,true_and,and_true,fc_17,fs_17,rb_1,rb_0,fc_len,fc_id,v16,fz_fc,fcF1,h,rt16,sk16,eqL_self]
        tactic =>
        obtain ⟨cth, cta, zta⟩ := hall 6 hstr
        simp only [fr, sn, zeS, offT] at cth cta zta ztk zst xst xtk ub xb cep ⊢
        sym =>
        simp [eq_self,true_and,rd_0,sc_len,eqL_self,callable_50]
        tactic =>
        refine cl none (cth) trivial ?_
        sym =>
        simp [Za2,Za3,Zdf,Zdg,Zdh,Zdj,Zdk,Zdm,Zdp,Zdt,Zdu,Zdv,Zdw,Zdx,Zdy,Zdz,Zd0,Zd1,Zec,Zen,Zeq,Zet,Zev,Zew,Zez,Ze0,Zfd,Zfe,Zkv,Zla,Zlb,Zle,Zlf,Zlh,Zlm,Zlz,Zl2,Zne,Znf,Zng,Zo7,eq_self,true_and,and_true,fc_id,fz_fc,fcF1,flL_fz,sc_id,fz_sc,scF1,callable_49]
        tactic =>
        refine cl none (cta) trivial ?_
        sym =>
        simp [Zab,Zad,Zam,Zaz,Za0,Za1,Za2,Za3,Za5,Za9,Zba,Zbc,Zbt,Zb8,Zcw,Zc4,Zc7,Zc8,Zc9,Zdc,Zdd,Zde,Zdj,Zdk,Zdm,Zdo,Zdp,Zdt,Zdu,Zdv,Zdw,Zdx,Zdy,Zdz,Zd0,Zd1,Zeb,Zec,Zek,Zen,Zep,Zev,Zew,Zez,Ze0,Ze1,Ze2,Ze3,Ze5,Ze8,Zfc,Zfd,Zfe,Zfh,Zgr,Zgs,Zgt,Zhb,Zhc,Zin,Ziu,Ziv,Ziw,Zi6,Zjh,Zji,Zj7,Zky,Zk0,Zk1,Zla,Zlb,Zle,Zlf,Zlh,Zlm,Zlz,Zl2,Zm5,Zm9,Zna,Znb,Zne,Znf,Zng,Zo7,eq_self,true_and,and_true,rd_0,sp_0,sc_len,sc_ok,sc_id,fz_sc,scF1,flL_sc,callable_53]
        tactic =>
        refine cl none (xst) trivial ?_
        sym =>
        simp [Zab,Zad,Zam,Zaz,Za0,Za1,Za2,Za3,Za4,Za5,Za9,Zba,Zbb,Zbt,Zb7,Zdc,Zdd,Zde,Zdi,Zev,Zew,Zez,Ze0,Ze2,Ze5,Ze8,Zfc,Zfd,Zfe,Zfh,Zgr,Zgs,Zgt,Zhb,Zhc,Zjq,Zky,Zkz,Zk0,Zk2,Zla,Zlb,Zle,Zlf,Zlh,Zlm,Zlz,Zm5,Zm9,Zna,Znb,Zne,Znf,Zng,Zo7,eq_self,true_and,and_true,rd_0,sc_len,fz_sc,scF1,callable_53]
        tactic =>
        refine cl none (xst) trivial ?_
        sym =>
        simp [Zab,Zad,Zam,Zaz,Za0,Za1,Za2,Za3,Za4,Za5,Za9,Zba,Zbb,Zbt,Zb7,Zb9,Zdc,Zdd,Zde,Zdi,Zev,Zew,Zez,Ze0,Ze2,Ze5,Ze8,Zfc,Zfd,Zfe,Zfh,Zgr,Zgs,Zgt,Zhb,Zhc,Zhd,Zhe,Zhf,Zjq,Zky,Zkz,Zk0,Zk2,Zla,Zlb,Zle,Zlf,Zlh,Zlm,Zlz,Zm5,Zm9,Zna,Znb,Zne,Znf,Zng,Zo7,eq_self,true_and,and_true,rb_0,fc_len,fz_fc,fcF1,callable_50]
        tactic =>
        refine cl none (cth) trivial ?_
        sym =>
        simp [Za5,Za9,Zdc,Zdd,Zde,Zdi,Zev,Zew,Zez,Ze0,Zfd,Zfe,Zkv,Zla,Zlb,Zle,Zlf,Zlh,Zlm,Zls,Zlz,Zl2,Zne,Znf,Zng,Zo7,eq_self,true_and,and_true,fz_fc,fcF1,flL_fz,fz_sc,scF1,callable_49]
        tactic =>
        refine cl none (zta) trivial ?_
        sym =>
        simp [Zab,Zad,Zam,Zaz,Za0,Za1,Za2,Za3,Za4,Za5,Za9,Zba,Zbb,Zbt,Zb7,Zcv,Zc3,Zdc,Zdd,Zde,Zdi,Zev,Zew,Zez,Ze0,Ze1,Ze2,Ze3,Ze5,Ze8,Zfc,Zfd,Zfe,Zfh,Zgr,Zgs,Zgt,Zhb,Zhc,Zin,Ziu,Ziv,Ziw,Zi6,Zjh,Zji,Zj7,Zky,Zk0,Zk1,Zla,Zlb,Zle,Zlf,Zlh,Zlm,Zlz,Zl2,Zm5,Zm9,Zna,Znb,Zne,Znf,Zng,Zo7,eq_self,true_and,and_true,rd_0,sp_0,sc_len,sc_ok,fz_sc,scF1,flL_sc,callable_48]
        tactic =>
        refine cl none (ztk) trivial ?_
        sym =>
        simp [Zab,Zad,Zam,Zaz,Za0,Za1,Za2,Za3,Za4,Za5,Za9,Zba,Zbb,Zbt,Zb7,Zcv,Zc3,Zdc,Zdd,Zde,Zdi,Zev,Zew,Zez,Ze0,Ze1,Ze2,Ze3,Ze5,Ze8,Zfc,Zfd,Zfe,Zfh,Zgr,Zgs,Zgt,Zhb,Zhc,Zin,Ziu,Ziv,Ziw,Zi6,Zjh,Zji,Zj7,Zky,Zk0,Zk1,Zla,Zlb,Zle,Zlf,Zlh,Zlm,Zlz,Zl2,Zm5,Zm9,Zna,Znb,Zne,Znf,Zng,Zo7,eq_self,true_and,and_true,rd_0,sp_0,sc_len,sc_ok,fz_sc,scF1,flL_sc,callable_53]
        tactic =>
        refine cl none (zst) trivial ?_
        sym =>
        simp [Zab,Zad,Zam,Zaz,Za0,Za1,Za2,Za3,Za4,Za5,Za9,Zba,Zbb,Zbt,Zb7,Zdc,Zdd,Zde,Zdi,Zev,Zew,Zez,Ze0,Ze2,Ze5,Ze8,Zfc,Zfd,Zfe,Zfh,Zgr,Zgs,Zgt,Zhb,Zhc,Zjq,Zky,Zkz,Zk0,Zk2,Zla,Zlb,Zle,Zlf,Zlh,Zlm,Zlz,Zm5,Zm9,Zna,Znb,Zne,Znf,Zng,Zo7,eq_self,true_and,and_true,rd_0,sc_len,fz_sc,scF1,callable_48]
        tactic =>
        refine cl none (xtk) trivial ?_
        sym =>
        simp [Zab,Zad,Zam,Zaz,Za0,Za1,Za2,Za3,Za4,Za5,Za9,Zba,Zbb,Zbt,Zb7,Zcv,Zc3,Zdc,Zdd,Zde,Zdi,Zev,Zew,Zez,Ze0,Ze1,Ze2,Ze3,Ze5,Ze8,Zfc,Zfd,Zfe,Zfh,Zgr,Zgs,Zgt,Zhb,Zhc,Zin,Ziu,Ziv,Ziw,Zi6,Zjh,Zji,Zj7,Zky,Zk0,Zk1,Zla,Zlb,Zle,Zlf,Zlh,Zlm,Zlz,Zl2,Zm5,Zm9,Zna,Znb,Zne,Znf,Zng,Zo7,eq_self,true_and,and_true,rd_0,sp_0,sc_len,sc_ok,fz_sc,scF1,flL_sc,callable_48]
        tactic =>
        refine cl none (xtk) trivial ?_
        sym =>
        simp [Zac,Zad,Zam,Zaz,Za0,Za1,Za2,Za3,Za4,Za5,Za9,Zba,Zbb,Zbc,Zbg,Zbu,Zb7,Zco,Zcv,Zc3,Zc7,Zc8,Zdf,Zdg,Zdh,Zdi,Zdp,Zdq,Zdr,Zdt,Zdu,Zdv,Zdw,Zdx,Zdy,Zd0,Zd1,Zd2,Zeb,Zec,Zek,Zen,Zeq,Zet,Zev,Zew,Zex,Zez,Ze0,Ze1,Ze2,Ze3,Ze5,Ze8,Zfc,Zfd,Zfe,Zfh,Zfn,Zf0,Zgr,Zgs,Zgt,Zhb,Zhc,Zh6,Zh7,Zin,Ziu,Ziv,Ziw,Zi6,Zjh,Zji,Zj7,Zky,Zk0,Zk1,Zla,Zlb,Zle,Zlf,Zlh,Zlm,Zlz,Zl2,Zm5,Zm9,Zna,Znb,Zne,Znf,Zng,Zo3,Zo7,Zo8,eq_self,true_and,and_true,rd_0,sp_0,sc_len,sc_ok,sc_id,fz_sc,scF1,flL_sc,callable_54]
        tactic =>
        refine cl none (ub) trivial ?_
        sym =>
        simp [Za2,Za3,Zbu,Zc7,Zc8,Zdf,Zdg,Zdh,Zdj,Zdk,Zdq,Zdr,Zdt,Zdu,Zdv,Zdw,Zdx,Zdy,Zdz,Zd0,Zd1,Zec,Zek,Zen,Zeq,Zet,Zev,Zew,Zex,Zez,Ze0,Ze2,Ze5,Ze8,Zfc,Zfd,Zfe,Zgr,Zgs,Zgt,Zjr,Zla,Zlb,Zle,Zlf,Zlh,Zlm,Zlz,Zm5,Zne,Znf,Zng,Zo7,eq_self,true_and,and_true,rd_0,sc_len,sc_id,fz_sc,scF1,callable_54]
        tactic =>
        refine cl none (ub) trivial ?_
        sym =>
        simp [Zaa,Zac,Zad,Zae,Zaf,Zal,Zam,Zaz,Za0,Za1,Za2,Za3,Zbc,Zbe,Zbg,Zbu,Zco,Zc7,Zc8,Zdf,Zdg,Zdh,Zdj,Zdk,Zdo,Zdp,Zdq,Zdr,Zdt,Zdu,Zdv,Zdw,Zdx,Zdy,Zd0,Zd1,Zd2,Zeb,Zec,Zek,Zen,Zeq,Zet,Zev,Zew,Zex,Zez,Ze0,Ze2,Ze5,Ze8,Zfc,Zfd,Zfe,Zfh,Zfi,Zfl,Zfn,Zfz,Zf0,Zgr,Zgs,Zgt,Zh6,Zh7,Zjr,Zla,Zlb,Zle,Zlf,Zlh,Zlm,Zlz,Zm5,Zna,Znb,Zne,Znf,Zng,Zn5,Zo3,Zo7,Zo8,eq_self,true_and,and_true,rd_0,sc_len,sc_id,fz_sc,scF1,callable_52]
        tactic =>
        refine cl none (cep) trivial ?_
        sym =>
        simp [Za2,Za3,Zbu,Zc7,Zc8,Zdf,Zdg,Zdh,Zdj,Zdk,Zdq,Zdr,Zdt,Zdu,Zdv,Zdw,Zdx,Zdy,Zdz,Zd0,Zd1,Zec,Zek,Zen,Zeq,Zet,Zev,Zew,Zex,Zez,Ze0,Ze2,Ze5,Ze8,Zfc,Zfd,Zfe,Zgr,Zgs,Zgt,Zjq,Zkv,Zkw,Zkx,Zla,Zlb,Zle,Zlf,Zlh,Zlm,Zlz,Zm5,Zne,Znf,Zng,Zo7,eq_self,true_and,and_true,rd_0,sc_len,sc_id,fz_sc,scF1,callable_52]
        tactic =>
        refine cl none (cep) trivial ?_
        sym =>
        simp [Za2,Zbc,Zbe,Zbi,Zbu,Zc7,Zc8,Zdf,Zdg,Zdh,Zdj,Zdk,Zdp,Zdq,Zdr,Zdt,Zdu,Zdv,Zd0,Zd1,Zd2,Zd3,Zec,Zek,Zen,Zeq,Zer,Zes,Zet,Zev,Zew,Zex,Zez,Ze0,Ze2,Ze5,Ze8,Zfc,Zfd,Zfe,Zfh,Zfi,Zfl,Zga,Zgb,Zgr,Zgs,Zgt,Zjq,Zkv,Zkw,Zkx,Zla,Zlb,Zle,Zlf,Zlh,Zlm,Zlz,Zm5,Zna,Znb,Zne,Znf,Zng,Zok,Zol,Zom,Zor,Zo7,eq_self,true_and,and_true,rd_0,sc_len,sc_id,fz_sc,scF1,callable_54]
        tactic =>
        refine cl none (xb) trivial ?_
        sym =>
        simp [Za2,Za3,Zbu,Zc7,Zc8,Zdf,Zdg,Zdh,Zdj,Zdk,Zdq,Zdr,Zdt,Zdu,Zdv,Zdw,Zdx,Zdy,Zdz,Zd0,Zd1,Zec,Zek,Zen,Zeq,Zet,Zev,Zew,Zex,Zez,Ze0,Ze2,Ze5,Ze8,Zfc,Zfd,Zfe,Zgr,Zgs,Zgt,Zjr,Zla,Zlb,Zle,Zlf,Zlh,Zlm,Zlz,Zm5,Zne,Znf,Zng,Zo7,eq_self,true_and,and_true,rd_0,sc_len,sc_id,fz_sc,scF1,callable_54]
        tactic =>
        refine cl none (xb) trivial ?_
        have w00 : IntKind.i64.wrap 0 = 0 := by decide
        have w01 : (0 : Int) + 0 = 0 := rfl
        sym =>
        simp [Za2,Za3,Zbc,Zbe,Zbg,Zco,Zc7,Zc8,Zdf,Zdg,Zdh,Zdj,Zdk,Zdp,Zdq,Zdr,Zdt,Zdu,Zdv,Zdw,Zdx,Zdy,Zd0,Zd1,Zd2,Zeb,Zeq,Zet,Zev,Zew,Zex,Zez,Ze0,Ze2,Ze5,Zfd,Zfe,Zfh,Zfi,Zfl,Zfn,Zfq,Zfz,Zh6,Zh7,Zjr,Zla,Zlz,Zne,Znf,Zn5,Zo7,Zo8,eq_self,true_and,and_true,w00,w01,callable_46]
        tactic =>
        refine cl none (alive_con) trivial ?_
        sym =>
        simp [Zak,Zam,Zaz,Za0,Za1,Za2,Za3,Zbc,Zbe,Zc7,Zc8,Zdj,Zdk,Zdo,Zdp,Zdt,Zdu,Zdv,Zd0,Zd1,Zd2,Zev,Zew,Zez,Ze0,Ze2,Zfd,Zfe,Zfh,Zfi,Zfl,Zjw,Zlz,Zmt,Zmv,Zmw,Zmx,Zmz,Zm2,Zne,Zo7,eq_self,true_and,and_true]
        tactic =>
        refine endA ?_
        sym =>
        simp [Zpc,eq_self]
      · have hstr : t3 ≠ t3 ∨ fes ≠ 5 := .inr he
        sym =>
        simp [Zaa,Zab,Zac,Zad,Zae,Zaf,Zai,Zal,Zam,Zan,Zaq,Zaw,Zay,Zaz,Za0,Za1,Za2,Za3,Za4,Za5,Za6,Za7,Za9,Zba,Zbb,Zbd,Zbf,Zbh,Zbt,Zbu,Zbv,Zc7,Zc8,Zdf,Zdg,Zdh,Zdp,Zdt,Zdu,Zdv,Zdw,Zdx,Zdy,Zdz,Zd0,Zd1,Zec,Zek,Zen,Zeq,Zet,Zev,Zew,Zex,Zez,Ze0,Ze2,Ze5,Ze8,Zfc,Zfd,Zfe,Zfh,Zfi,Zfl,Zfn,Zfz,Zf1,Zga,Zgb,Zgr,Zgs,Zgt,Zgv,Zgw,Zgx,Zla,Zlb,Zle,Zlf,Zlh,Zlm,Zm5,Zm6,Zna,Znb,Zne,Znf,Zng,Znt,Zo7,Zo9,eq_self,true_and,and_true,fc_17,rb_1,rb_0,fc_len,fc_id,v16,fz_fc,fcF1,h,rt16,sk16,eqL_self,he]
        tactic =>
        obtain ⟨cth, cta, zta⟩ := hall fes hstr
        simp only [fr, sn, zeS, offT] at cth cta zta ztk zst xst xtk ub xb cep ⊢
        sym =>
        simp [eq_self,true_and,rd_0,sc_len,eqL_self,callable_50]
        tactic =>
        refine cl none (cth) trivial ?_
        sym =>
        simp [Za2,Za3,Zdf,Zdg,Zdh,Zdj,Zdk,Zdm,Zdp,Zdt,Zdu,Zdv,Zdw,Zdx,Zdy,Zdz,Zd0,Zd1,Zec,Zen,Zeq,Zet,Zev,Zew,Zez,Ze0,Zfd,Zfe,Zkv,Zla,Zlb,Zle,Zlf,Zlh,Zlm,Zlz,Zl2,Zne,Znf,Zng,Zo7,eq_self,true_and,and_true,fc_id,fz_fc,fcF1,flL_fz,sc_id,fz_sc,scF1,callable_49]
        tactic =>
        refine cl none (cta) trivial ?_
        sym =>
        simp [Zab,Zad,Zam,Zaz,Za0,Za1,Za2,Za3,Za5,Za9,Zba,Zbc,Zbt,Zb8,Zcw,Zc4,Zc7,Zc8,Zc9,Zdc,Zdd,Zde,Zdj,Zdk,Zdm,Zdo,Zdp,Zdt,Zdu,Zdv,Zdw,Zdx,Zdy,Zdz,Zd0,Zd1,Zeb,Zec,Zek,Zen,Zep,Zev,Zew,Zez,Ze0,Ze1,Ze2,Ze3,Ze5,Ze8,Zfc,Zfd,Zfe,Zfh,Zgr,Zgs,Zgt,Zhb,Zhc,Zin,Ziu,Ziv,Ziw,Zi6,Zjh,Zji,Zj7,Zky,Zk0,Zk1,Zla,Zlb,Zle,Zlf,Zlh,Zlm,Zlz,Zl2,Zm5,Zm9,Zna,Znb,Zne,Znf,Zng,Zo7,eq_self,true_and,and_true,rd_0,sp_0,sc_len,sc_ok,sc_id,fz_sc,scF1,flL_sc,callable_53]
        tactic =>
        refine cl none (xst) trivial ?_
        sym =>
        simp [Zab,Zad,Zam,Zaz,Za0,Za1,Za2,Za3,Za4,Za5,Za9,Zba,Zbb,Zbt,Zb7,Zdc,Zdd,Zde,Zdi,Zev,Zew,Zez,Ze0,Ze2,Ze5,Ze8,Zfc,Zfd,Zfe,Zfh,Zgr,Zgs,Zgt,Zhb,Zhc,Zjq,Zky,Zkz,Zk0,Zk2,Zla,Zlb,Zle,Zlf,Zlh,Zlm,Zlz,Zm5,Zm9,Zna,Znb,Zne,Znf,Zng,Zo7,eq_self,true_and,and_true,rd_0,sc_len,fz_sc,scF1,callable_53]
        tactic =>
        refine cl none (xst) trivial ?_
        sym =>
        simp [Zab,Zad,Zam,Zaz,Za0,Za1,Za2,Za3,Za4,Za5,Za9,Zba,Zbb,Zbt,Zb7,Zb9,Zdc,Zdd,Zde,Zdi,Zev,Zew,Zez,Ze0,Ze2,Ze5,Ze8,Zfc,Zfd,Zfe,Zfh,Zgr,Zgs,Zgt,Zhb,Zhc,Zhd,Zhe,Zhf,Zjq,Zky,Zkz,Zk0,Zk2,Zla,Zlb,Zle,Zlf,Zlh,Zlm,Zlz,Zm5,Zm9,Zna,Znb,Zne,Znf,Zng,Zo7,eq_self,true_and,and_true,rb_0,fc_len,fz_fc,fcF1,callable_50]
        tactic =>
        refine cl none (cth) trivial ?_
        sym =>
        simp [Za5,Za9,Zdc,Zdd,Zde,Zdi,Zev,Zew,Zez,Ze0,Zfd,Zfe,Zkv,Zla,Zlb,Zle,Zlf,Zlh,Zlm,Zls,Zlz,Zl2,Zne,Znf,Zng,Zo7,eq_self,true_and,and_true,fz_fc,fcF1,flL_fz,fz_sc,scF1,callable_49]
        tactic =>
        refine cl none (zta) trivial ?_
        sym =>
        simp [Zab,Zad,Zam,Zaz,Za0,Za1,Za2,Za3,Za4,Za5,Za9,Zba,Zbb,Zbt,Zb7,Zcv,Zc3,Zdc,Zdd,Zde,Zdi,Zev,Zew,Zez,Ze0,Ze1,Ze2,Ze3,Ze5,Ze8,Zfc,Zfd,Zfe,Zfh,Zgr,Zgs,Zgt,Zhb,Zhc,Zin,Ziu,Ziv,Ziw,Zi6,Zjh,Zji,Zj7,Zky,Zk0,Zk1,Zla,Zlb,Zle,Zlf,Zlh,Zlm,Zlz,Zl2,Zm5,Zm9,Zna,Znb,Zne,Znf,Zng,Zo7,eq_self,true_and,and_true,rd_0,sp_0,sc_len,sc_ok,fz_sc,scF1,flL_sc,callable_48]
        tactic =>
        refine cl none (ztk) trivial ?_
        sym =>
        simp [Zab,Zad,Zam,Zaz,Za0,Za1,Za2,Za3,Za4,Za5,Za9,Zba,Zbb,Zbt,Zb7,Zcv,Zc3,Zdc,Zdd,Zde,Zdi,Zev,Zew,Zez,Ze0,Ze1,Ze2,Ze3,Ze5,Ze8,Zfc,Zfd,Zfe,Zfh,Zgr,Zgs,Zgt,Zhb,Zhc,Zin,Ziu,Ziv,Ziw,Zi6,Zjh,Zji,Zj7,Zky,Zk0,Zk1,Zla,Zlb,Zle,Zlf,Zlh,Zlm,Zlz,Zl2,Zm5,Zm9,Zna,Znb,Zne,Znf,Zng,Zo7,eq_self,true_and,and_true,rd_0,sp_0,sc_len,sc_ok,fz_sc,scF1,flL_sc,callable_53]
        tactic =>
        refine cl none (zst) trivial ?_
        sym =>
        simp [Zab,Zad,Zam,Zaz,Za0,Za1,Za2,Za3,Za4,Za5,Za9,Zba,Zbb,Zbt,Zb7,Zdc,Zdd,Zde,Zdi,Zev,Zew,Zez,Ze0,Ze2,Ze5,Ze8,Zfc,Zfd,Zfe,Zfh,Zgr,Zgs,Zgt,Zhb,Zhc,Zjq,Zky,Zkz,Zk0,Zk2,Zla,Zlb,Zle,Zlf,Zlh,Zlm,Zlz,Zm5,Zm9,Zna,Znb,Zne,Znf,Zng,Zo7,eq_self,true_and,and_true,rd_0,sc_len,fz_sc,scF1,callable_48]
        tactic =>
        refine cl none (xtk) trivial ?_
        sym =>
        simp [Zab,Zad,Zam,Zaz,Za0,Za1,Za2,Za3,Za4,Za5,Za9,Zba,Zbb,Zbt,Zb7,Zcv,Zc3,Zdc,Zdd,Zde,Zdi,Zev,Zew,Zez,Ze0,Ze1,Ze2,Ze3,Ze5,Ze8,Zfc,Zfd,Zfe,Zfh,Zgr,Zgs,Zgt,Zhb,Zhc,Zin,Ziu,Ziv,Ziw,Zi6,Zjh,Zji,Zj7,Zky,Zk0,Zk1,Zla,Zlb,Zle,Zlf,Zlh,Zlm,Zlz,Zl2,Zm5,Zm9,Zna,Znb,Zne,Znf,Zng,Zo7,eq_self,true_and,and_true,rd_0,sp_0,sc_len,sc_ok,fz_sc,scF1,flL_sc,callable_48]
        tactic =>
        refine cl none (xtk) trivial ?_
        sym =>
        simp [Zac,Zad,Zam,Zaz,Za0,Za1,Za2,Za3,Za4,Za5,Za9,Zba,Zbb,Zbc,Zbg,Zbu,Zb7,Zco,Zcv,Zc3,Zc7,Zc8,Zdf,Zdg,Zdh,Zdi,Zdp,Zdq,Zdr,Zdt,Zdu,Zdv,Zdw,Zdx,Zdy,Zd0,Zd1,Zd2,Zeb,Zec,Zek,Zen,Zeq,Zet,Zev,Zew,Zex,Zez,Ze0,Ze1,Ze2,Ze3,Ze5,Ze8,Zfc,Zfd,Zfe,Zfh,Zfn,Zf0,Zgr,Zgs,Zgt,Zhb,Zhc,Zh6,Zh7,Zin,Ziu,Ziv,Ziw,Zi6,Zjh,Zji,Zj7,Zky,Zk0,Zk1,Zla,Zlb,Zle,Zlf,Zlh,Zlm,Zlz,Zl2,Zm5,Zm9,Zna,Znb,Zne,Znf,Zng,Zo3,Zo7,Zo8,eq_self,true_and,and_true,rd_0,sp_0,sc_len,sc_ok,sc_id,fz_sc,scF1,flL_sc,callable_54]
        tactic =>
        refine cl none (ub) trivial ?_
        sym =>
        simp [Za2,Za3,Zbu,Zc7,Zc8,Zdf,Zdg,Zdh,Zdj,Zdk,Zdq,Zdr,Zdt,Zdu,Zdv,Zdw,Zdx,Zdy,Zdz,Zd0,Zd1,Zec,Zek,Zen,Zeq,Zet,Zev,Zew,Zex,Zez,Ze0,Ze2,Ze5,Ze8,Zfc,Zfd,Zfe,Zgr,Zgs,Zgt,Zjr,Zla,Zlb,Zle,Zlf,Zlh,Zlm,Zlz,Zm5,Zne,Znf,Zng,Zo7,eq_self,true_and,and_true,rd_0,sc_len,sc_id,fz_sc,scF1,callable_54]
        tactic =>
        refine cl none (ub) trivial ?_
        sym =>
        simp [Zaa,Zac,Zad,Zae,Zaf,Zal,Zam,Zaz,Za0,Za1,Za2,Za3,Zbc,Zbe,Zbg,Zbu,Zco,Zc7,Zc8,Zdf,Zdg,Zdh,Zdj,Zdk,Zdo,Zdp,Zdq,Zdr,Zdt,Zdu,Zdv,Zdw,Zdx,Zdy,Zd0,Zd1,Zd2,Zeb,Zec,Zek,Zen,Zeq,Zet,Zev,Zew,Zex,Zez,Ze0,Ze2,Ze5,Ze8,Zfc,Zfd,Zfe,Zfh,Zfi,Zfl,Zfn,Zfz,Zf0,Zgr,Zgs,Zgt,Zh6,Zh7,Zjr,Zla,Zlb,Zle,Zlf,Zlh,Zlm,Zlz,Zm5,Zna,Znb,Zne,Znf,Zng,Zn5,Zo3,Zo7,Zo8,eq_self,true_and,and_true,rd_0,sc_len,sc_id,fz_sc,scF1,callable_52]
        tactic =>
        refine cl none (cep) trivial ?_
        sym =>
        simp [Za2,Za3,Zbu,Zc7,Zc8,Zdf,Zdg,Zdh,Zdj,Zdk,Zdq,Zdr,Zdt,Zdu,Zdv,Zdw,Zdx,Zdy,Zdz,Zd0,Zd1,Zec,Zek,Zen,Zeq,Zet,Zev,Zew,Zex,Zez,Ze0,Ze2,Ze5,Ze8,Zfc,Zfd,Zfe,Zgr,Zgs,Zgt,Zjq,Zkv,Zkw,Zkx,Zla,Zlb,Zle,Zlf,Zlh,Zlm,Zlz,Zm5,Zne,Znf,Zng,Zo7,eq_self,true_and,and_true,rd_0,sc_len,sc_id,fz_sc,scF1,callable_52]
        tactic =>
        refine cl none (cep) trivial ?_
        sym =>
        simp [Za2,Zbc,Zbe,Zbi,Zbu,Zc7,Zc8,Zdf,Zdg,Zdh,Zdj,Zdk,Zdp,Zdq,Zdr,Zdt,Zdu,Zdv,Zd0,Zd1,Zd2,Zd3,Zec,Zek,Zen,Zeq,Zer,Zes,Zet,Zev,Zew,Zex,Zez,Ze0,Ze2,Ze5,Ze8,Zfc,Zfd,Zfe,Zfh,Zfi,Zfl,Zga,Zgb,Zgr,Zgs,Zgt,Zjq,Zkv,Zkw,Zkx,Zla,Zlb,Zle,Zlf,Zlh,Zlm,Zlz,Zm5,Zna,Znb,Zne,Znf,Zng,Zok,Zol,Zom,Zor,Zo7,eq_self,true_and,and_true,rd_0,sc_len,sc_id,fz_sc,scF1,callable_54]
        tactic =>
        refine cl none (xb) trivial ?_
        sym =>
        simp [Za2,Za3,Zbu,Zc7,Zc8,Zdf,Zdg,Zdh,Zdj,Zdk,Zdq,Zdr,Zdt,Zdu,Zdv,Zdw,Zdx,Zdy,Zdz,Zd0,Zd1,Zec,Zek,Zen,Zeq,Zet,Zev,Zew,Zex,Zez,Ze0,Ze2,Ze5,Ze8,Zfc,Zfd,Zfe,Zgr,Zgs,Zgt,Zjr,Zla,Zlb,Zle,Zlf,Zlh,Zlm,Zlz,Zm5,Zne,Znf,Zng,Zo7,eq_self,true_and,and_true,rd_0,sc_len,sc_id,fz_sc,scF1,callable_54]
        tactic =>
        refine cl none (xb) trivial ?_
        have w00 : IntKind.i64.wrap 0 = 0 := by decide
        have w01 : (0 : Int) + 0 = 0 := rfl
        sym =>
        simp [Za2,Za3,Zbc,Zbe,Zbg,Zco,Zc7,Zc8,Zdf,Zdg,Zdh,Zdj,Zdk,Zdp,Zdq,Zdr,Zdt,Zdu,Zdv,Zdw,Zdx,Zdy,Zd0,Zd1,Zd2,Zeb,Zeq,Zet,Zev,Zew,Zex,Zez,Ze0,Ze2,Ze5,Zfd,Zfe,Zfh,Zfi,Zfl,Zfn,Zfq,Zfz,Zh6,Zh7,Zjr,Zla,Zlz,Zne,Znf,Zn5,Zo7,Zo8,eq_self,true_and,and_true,w00,w01,callable_46]
        tactic =>
        refine cl none (alive_con) trivial ?_
        sym =>
        simp [Zak,Zam,Zaz,Za0,Za1,Za2,Za3,Zbc,Zbe,Zc7,Zc8,Zdj,Zdk,Zdo,Zdp,Zdt,Zdu,Zdv,Zd0,Zd1,Zd2,Zev,Zew,Zez,Ze0,Ze2,Zfd,Zfe,Zfh,Zfi,Zfl,Zjw,Zlz,Zmt,Zmv,Zmw,Zmx,Zmz,Zm2,Zne,Zo7,eq_self,true_and,and_true]
        tactic =>
        refine endA ?_
        sym =>
        simp [Zpc,eq_self]
    · have hq : eqL (cB ft.1) (cB t3.1) = false := by rw [eqL_V]; exact decide_eq_false ht
      have hstr : ft ≠ t3 ∨ fes ≠ 5 := .inl ht
      sym =>
      simp [Zaa,Zab,Zac,Zad,Zae,Zaf,Zai,Zal,Zam,Zan,Zaq,Zaw,Zay,Zaz,Za0,Za1,Za2,Za3,Za4,Za5,Za6,Za7,Za8,Za9,Zba,Zbb,Zbd,Zbf,Zbh,Zbt,Zbu,Zbv,Zc7,Zc8,Zdf,Zdg,Zdh,Zdp,Zdt,Zdu,Zdv,Zdw,Zdx,Zdy,Zdz,Zd0,Zd1,Zec,Zek,Zen,Zeq,Zet,Zev,Zew,Zex,Zez,Ze0,Ze2,Ze5,Ze8,Zfc,Zfd,Zfe,Zfh,Zfi,Zfk,Zfn,Zf1,Zga,Zgb,Zgr,Zgs,Zgt,Zgv,Zgw,Zgx,Zla,Zlb,Zle,Zlf,Zlh,Zlm,Zm5,Zna,Znb,Zne,Znf,Zng,Znt,Zo7,Zo9,eq_self,true_and,and_true,rb_1,rb_0,fc_len,fc_id,v16,fz_fc,fcF1,h,rt16,sk16,hq]
      tactic =>
      obtain ⟨cth, cta, zta⟩ := hall fes hstr
      simp only [fr, sn, zeS, offT] at cth cta zta ztk zst xst xtk ub xb cep ⊢
      sym =>
      simp [eq_self,true_and,rd_0,sc_len,eqL_self,callable_50]
      tactic =>
      refine cl none (cth) trivial ?_
      sym =>
      simp [Za2,Za3,Zdf,Zdg,Zdh,Zdj,Zdk,Zdm,Zdp,Zdt,Zdu,Zdv,Zdw,Zdx,Zdy,Zdz,Zd0,Zd1,Zec,Zen,Zeq,Zet,Zev,Zew,Zez,Ze0,Zfd,Zfe,Zkv,Zla,Zlb,Zle,Zlf,Zlh,Zlm,Zlz,Zl2,Zne,Znf,Zng,Zo7,eq_self,true_and,and_true,fc_id,fz_fc,fcF1,flL_fz,sc_id,fz_sc,scF1,callable_49]
      tactic =>
      refine cl none (cta) trivial ?_
      sym =>
      simp [Zab,Zad,Zam,Zaz,Za0,Za1,Za2,Za3,Za5,Za9,Zba,Zbc,Zbt,Zb8,Zcw,Zc4,Zc7,Zc8,Zc9,Zdc,Zdd,Zde,Zdj,Zdk,Zdm,Zdo,Zdp,Zdt,Zdu,Zdv,Zdw,Zdx,Zdy,Zdz,Zd0,Zd1,Zeb,Zec,Zek,Zen,Zep,Zev,Zew,Zez,Ze0,Ze1,Ze2,Ze3,Ze5,Ze8,Zfc,Zfd,Zfe,Zfh,Zgr,Zgs,Zgt,Zhb,Zhc,Zin,Ziu,Ziv,Ziw,Zi6,Zjh,Zji,Zj7,Zky,Zk0,Zk1,Zla,Zlb,Zle,Zlf,Zlh,Zlm,Zlz,Zl2,Zm5,Zm9,Zna,Znb,Zne,Znf,Zng,Zo7,eq_self,true_and,and_true,rd_0,sp_0,sc_len,sc_ok,sc_id,fz_sc,scF1,flL_sc,callable_53]
      tactic =>
      refine cl none (xst) trivial ?_
      sym =>
      simp [Zab,Zad,Zam,Zaz,Za0,Za1,Za2,Za3,Za4,Za5,Za9,Zba,Zbb,Zbt,Zb7,Zdc,Zdd,Zde,Zdi,Zev,Zew,Zez,Ze0,Ze2,Ze5,Ze8,Zfc,Zfd,Zfe,Zfh,Zgr,Zgs,Zgt,Zhb,Zhc,Zjq,Zky,Zkz,Zk0,Zk2,Zla,Zlb,Zle,Zlf,Zlh,Zlm,Zlz,Zm5,Zm9,Zna,Znb,Zne,Znf,Zng,Zo7,eq_self,true_and,and_true,rd_0,sc_len,fz_sc,scF1,callable_53]
      tactic =>
      refine cl none (xst) trivial ?_
      sym =>
      simp [Zab,Zad,Zam,Zaz,Za0,Za1,Za2,Za3,Za4,Za5,Za9,Zba,Zbb,Zbt,Zb7,Zb9,Zdc,Zdd,Zde,Zdi,Zev,Zew,Zez,Ze0,Ze2,Ze5,Ze8,Zfc,Zfd,Zfe,Zfh,Zgr,Zgs,Zgt,Zhb,Zhc,Zhd,Zhe,Zhf,Zjq,Zky,Zkz,Zk0,Zk2,Zla,Zlb,Zle,Zlf,Zlh,Zlm,Zlz,Zm5,Zm9,Zna,Znb,Zne,Znf,Zng,Zo7,eq_self,true_and,and_true,rb_0,fc_len,fz_fc,fcF1,callable_50]
      tactic =>
      refine cl none (cth) trivial ?_
      sym =>
      simp [Za5,Za9,Zdc,Zdd,Zde,Zdi,Zev,Zew,Zez,Ze0,Zfd,Zfe,Zkv,Zla,Zlb,Zle,Zlf,Zlh,Zlm,Zls,Zlz,Zl2,Zne,Znf,Zng,Zo7,eq_self,true_and,and_true,fz_fc,fcF1,flL_fz,fz_sc,scF1,callable_49]
      tactic =>
      refine cl none (zta) trivial ?_
      sym =>
      simp [Zab,Zad,Zam,Zaz,Za0,Za1,Za2,Za3,Za4,Za5,Za9,Zba,Zbb,Zbt,Zb7,Zcv,Zc3,Zdc,Zdd,Zde,Zdi,Zev,Zew,Zez,Ze0,Ze1,Ze2,Ze3,Ze5,Ze8,Zfc,Zfd,Zfe,Zfh,Zgr,Zgs,Zgt,Zhb,Zhc,Zin,Ziu,Ziv,Ziw,Zi6,Zjh,Zji,Zj7,Zky,Zk0,Zk1,Zla,Zlb,Zle,Zlf,Zlh,Zlm,Zlz,Zl2,Zm5,Zm9,Zna,Znb,Zne,Znf,Zng,Zo7,eq_self,true_and,and_true,rd_0,sp_0,sc_len,sc_ok,fz_sc,scF1,flL_sc,callable_48]
      tactic =>
      refine cl none (ztk) trivial ?_
      sym =>
      simp [Zab,Zad,Zam,Zaz,Za0,Za1,Za2,Za3,Za4,Za5,Za9,Zba,Zbb,Zbt,Zb7,Zcv,Zc3,Zdc,Zdd,Zde,Zdi,Zev,Zew,Zez,Ze0,Ze1,Ze2,Ze3,Ze5,Ze8,Zfc,Zfd,Zfe,Zfh,Zgr,Zgs,Zgt,Zhb,Zhc,Zin,Ziu,Ziv,Ziw,Zi6,Zjh,Zji,Zj7,Zky,Zk0,Zk1,Zla,Zlb,Zle,Zlf,Zlh,Zlm,Zlz,Zl2,Zm5,Zm9,Zna,Znb,Zne,Znf,Zng,Zo7,eq_self,true_and,and_true,rd_0,sp_0,sc_len,sc_ok,fz_sc,scF1,flL_sc,callable_53]
      tactic =>
      refine cl none (zst) trivial ?_
      sym =>
      simp [Zab,Zad,Zam,Zaz,Za0,Za1,Za2,Za3,Za4,Za5,Za9,Zba,Zbb,Zbt,Zb7,Zdc,Zdd,Zde,Zdi,Zev,Zew,Zez,Ze0,Ze2,Ze5,Ze8,Zfc,Zfd,Zfe,Zfh,Zgr,Zgs,Zgt,Zhb,Zhc,Zjq,Zky,Zkz,Zk0,Zk2,Zla,Zlb,Zle,Zlf,Zlh,Zlm,Zlz,Zm5,Zm9,Zna,Znb,Zne,Znf,Zng,Zo7,eq_self,true_and,and_true,rd_0,sc_len,fz_sc,scF1,callable_48]
      tactic =>
      refine cl none (xtk) trivial ?_
      sym =>
      simp [Zab,Zad,Zam,Zaz,Za0,Za1,Za2,Za3,Za4,Za5,Za9,Zba,Zbb,Zbt,Zb7,Zcv,Zc3,Zdc,Zdd,Zde,Zdi,Zev,Zew,Zez,Ze0,Ze1,Ze2,Ze3,Ze5,Ze8,Zfc,Zfd,Zfe,Zfh,Zgr,Zgs,Zgt,Zhb,Zhc,Zin,Ziu,Ziv,Ziw,Zi6,Zjh,Zji,Zj7,Zky,Zk0,Zk1,Zla,Zlb,Zle,Zlf,Zlh,Zlm,Zlz,Zl2,Zm5,Zm9,Zna,Znb,Zne,Znf,Zng,Zo7,eq_self,true_and,and_true,rd_0,sp_0,sc_len,sc_ok,fz_sc,scF1,flL_sc,callable_48]
      tactic =>
      refine cl none (xtk) trivial ?_
      sym =>
      simp [Zac,Zad,Zam,Zaz,Za0,Za1,Za2,Za3,Za4,Za5,Za9,Zba,Zbb,Zbc,Zbg,Zbu,Zb7,Zco,Zcv,Zc3,Zc7,Zc8,Zdf,Zdg,Zdh,Zdi,Zdp,Zdq,Zdr,Zdt,Zdu,Zdv,Zdw,Zdx,Zdy,Zd0,Zd1,Zd2,Zeb,Zec,Zek,Zen,Zeq,Zet,Zev,Zew,Zex,Zez,Ze0,Ze1,Ze2,Ze3,Ze5,Ze8,Zfc,Zfd,Zfe,Zfh,Zfn,Zf0,Zgr,Zgs,Zgt,Zhb,Zhc,Zh6,Zh7,Zin,Ziu,Ziv,Ziw,Zi6,Zjh,Zji,Zj7,Zky,Zk0,Zk1,Zla,Zlb,Zle,Zlf,Zlh,Zlm,Zlz,Zl2,Zm5,Zm9,Zna,Znb,Zne,Znf,Zng,Zo3,Zo7,Zo8,eq_self,true_and,and_true,rd_0,sp_0,sc_len,sc_ok,sc_id,fz_sc,scF1,flL_sc,callable_54]
      tactic =>
      refine cl none (ub) trivial ?_
      sym =>
      simp [Za2,Za3,Zbu,Zc7,Zc8,Zdf,Zdg,Zdh,Zdj,Zdk,Zdq,Zdr,Zdt,Zdu,Zdv,Zdw,Zdx,Zdy,Zdz,Zd0,Zd1,Zec,Zek,Zen,Zeq,Zet,Zev,Zew,Zex,Zez,Ze0,Ze2,Ze5,Ze8,Zfc,Zfd,Zfe,Zgr,Zgs,Zgt,Zjr,Zla,Zlb,Zle,Zlf,Zlh,Zlm,Zlz,Zm5,Zne,Znf,Zng,Zo7,eq_self,true_and,and_true,rd_0,sc_len,sc_id,fz_sc,scF1,callable_54]
      tactic =>
      refine cl none (ub) trivial ?_
      sym =>
      simp [Zaa,Zac,Zad,Zae,Zaf,Zal,Zam,Zaz,Za0,Za1,Za2,Za3,Zbc,Zbe,Zbg,Zbu,Zco,Zc7,Zc8,Zdf,Zdg,Zdh,Zdj,Zdk,Zdo,Zdp,Zdq,Zdr,Zdt,Zdu,Zdv,Zdw,Zdx,Zdy,Zd0,Zd1,Zd2,Zeb,Zec,Zek,Zen,Zeq,Zet,Zev,Zew,Zex,Zez,Ze0,Ze2,Ze5,Ze8,Zfc,Zfd,Zfe,Zfh,Zfi,Zfl,Zfn,Zfz,Zf0,Zgr,Zgs,Zgt,Zh6,Zh7,Zjr,Zla,Zlb,Zle,Zlf,Zlh,Zlm,Zlz,Zm5,Zna,Znb,Zne,Znf,Zng,Zn5,Zo3,Zo7,Zo8,eq_self,true_and,and_true,rd_0,sc_len,sc_id,fz_sc,scF1,callable_52]
      tactic =>
      refine cl none (cep) trivial ?_
      sym =>
      simp [Za2,Za3,Zbu,Zc7,Zc8,Zdf,Zdg,Zdh,Zdj,Zdk,Zdq,Zdr,Zdt,Zdu,Zdv,Zdw,Zdx,Zdy,Zdz,Zd0,Zd1,Zec,Zek,Zen,Zeq,Zet,Zev,Zew,Zex,Zez,Ze0,Ze2,Ze5,Ze8,Zfc,Zfd,Zfe,Zgr,Zgs,Zgt,Zjq,Zkv,Zkw,Zkx,Zla,Zlb,Zle,Zlf,Zlh,Zlm,Zlz,Zm5,Zne,Znf,Zng,Zo7,eq_self,true_and,and_true,rd_0,sc_len,sc_id,fz_sc,scF1,callable_52]
      tactic =>
      refine cl none (cep) trivial ?_
      sym =>
      simp [Za2,Zbc,Zbe,Zbi,Zbu,Zc7,Zc8,Zdf,Zdg,Zdh,Zdj,Zdk,Zdp,Zdq,Zdr,Zdt,Zdu,Zdv,Zd0,Zd1,Zd2,Zd3,Zec,Zek,Zen,Zeq,Zer,Zes,Zet,Zev,Zew,Zex,Zez,Ze0,Ze2,Ze5,Ze8,Zfc,Zfd,Zfe,Zfh,Zfi,Zfl,Zga,Zgb,Zgr,Zgs,Zgt,Zjq,Zkv,Zkw,Zkx,Zla,Zlb,Zle,Zlf,Zlh,Zlm,Zlz,Zm5,Zna,Znb,Zne,Znf,Zng,Zok,Zol,Zom,Zor,Zo7,eq_self,true_and,and_true,rd_0,sc_len,sc_id,fz_sc,scF1,callable_54]
      tactic =>
      refine cl none (xb) trivial ?_
      sym =>
      simp [Za2,Za3,Zbu,Zc7,Zc8,Zdf,Zdg,Zdh,Zdj,Zdk,Zdq,Zdr,Zdt,Zdu,Zdv,Zdw,Zdx,Zdy,Zdz,Zd0,Zd1,Zec,Zek,Zen,Zeq,Zet,Zev,Zew,Zex,Zez,Ze0,Ze2,Ze5,Ze8,Zfc,Zfd,Zfe,Zgr,Zgs,Zgt,Zjr,Zla,Zlb,Zle,Zlf,Zlh,Zlm,Zlz,Zm5,Zne,Znf,Zng,Zo7,eq_self,true_and,and_true,rd_0,sc_len,sc_id,fz_sc,scF1,callable_54]
      tactic =>
      refine cl none (xb) trivial ?_
      have w00 : IntKind.i64.wrap 0 = 0 := by decide
      have w01 : (0 : Int) + 0 = 0 := rfl
      sym =>
      simp [Za2,Za3,Zbc,Zbe,Zbg,Zco,Zc7,Zc8,Zdf,Zdg,Zdh,Zdj,Zdk,Zdp,Zdq,Zdr,Zdt,Zdu,Zdv,Zdw,Zdx,Zdy,Zd0,Zd1,Zd2,Zeb,Zeq,Zet,Zev,Zew,Zex,Zez,Ze0,Ze2,Ze5,Zfd,Zfe,Zfh,Zfi,Zfl,Zfn,Zfq,Zfz,Zh6,Zh7,Zjr,Zla,Zlz,Zne,Znf,Zn5,Zo7,Zo8,eq_self,true_and,and_true,w00,w01,callable_46]
      tactic =>
      refine cl none (alive_con) trivial ?_
      sym =>
      simp [Zak,Zam,Zaz,Za0,Za1,Za2,Za3,Zbc,Zbe,Zc7,Zc8,Zdj,Zdk,Zdo,Zdp,Zdt,Zdu,Zdv,Zd0,Zd1,Zd2,Zev,Zew,Zez,Ze0,Ze2,Zfd,Zfe,Zfh,Zfi,Zfl,Zjw,Zlz,Zmt,Zmv,Zmw,Zmx,Zmz,Zm2,Zne,Zo7,eq_self,true_and,and_true]
      tactic =>
      refine endA ?_
      sym =>
      simp [Zpc,eq_self]
end Go.Proofs.Ytbmdahhhgpbchaa.SnK
