import Derived.Test.YtbmdahhhgpbchaaSnL
import Derived.Test.YtbmdahhhgpbchaaSnM
import Derived.Test.YtbmdahhhgpbchaaLyD
namespace Go.Proofs.Ytbmdahhhgpbchaa.SaA
open Go Go.Sim Go.Sim.E Go.RowKit Go.Proofs Go.Proofs.Ytbmdahhhgpbchaa.Cod Go.Proofs.Ytbmdahhhgpbchaa.Tab Go.Proofs.Ytbmdahhhgpbchaa.Bse Go.Proofs.Ytbmdahhhgpbchaa.SpnP Go.Proofs.Ytbmdahhhgpbchaa.SwA Go.Proofs.Ytbmdahhhgpbchaa.SwB Go.Proofs.Ytbmdahhhgpbchaa.SwC Go.Proofs.Ytbmdahhhgpbchaa.SwS Go.Proofs.Ytbmdahhhgpbchaa.SwD Go.Proofs.Ytbmdahhhgpbchaa.SwF Go.Proofs.Ytbmdahhhgpbchaa.SwG Go.Proofs.Ytbmdahhhgpbchaa.SwL Go.Proofs.Ytbmdahhhgpbchaa.ObA Go.Proofs.Ytbmdahhhgpbchaa.ObB Go.Proofs.Ytbmdahhhgpbchaa.ObC Go.Proofs.Ytbmdahhhgpbchaa.SnA Go.Proofs.Ytbmdahhhgpbchaa.SnB Go.Proofs.Ytbmdahhhgpbchaa.SnC Go.Proofs.Ytbmdahhhgpbchaa.SnD Go.Proofs.Ytbmdahhhgpbchaa.SnE Go.Proofs.Ytbmdahhhgpbchaa.SnF Go.Proofs.Ytbmdahhhgpbchaa.SnG Go.Proofs.Ytbmdahhhgpbchaa.SnH Go.Proofs.Ytbmdahhhgpbchaa.DgA Go.Proofs.Ytbmdahhhgpbchaa.DgB Go.Proofs.Ytbmdahhhgpbchaa.SnI Go.Proofs.Ytbmdahhhgpbchaa.SnJ Go.Proofs.Ytbmdahhhgpbchaa.SnK Go.Proofs.Ytbmdahhhgpbchaa.SnL Go.Proofs.Ytbmdahhhgpbchaa.SnM Go.Proofs.Ytbmdahhhgpbchaa.LyA Go.Proofs.Ytbmdahhhgpbchaa.LyB Go.Proofs.Ytbmdahhhgpbchaa.LyC Go.Proofs.Ytbmdahhhgpbchaa.LyD
set_option linter.unusedVariables false
set_option linter.unusedSimpArgs false
set_option maxRecDepth 100000
set_option maxHeartbeats 4000000
theorem zL_sc : zL1 = sc 0 0 .nl SnA.z32 z16 0 0 .nl 0 .nl .nl false 0 0 false 0 0 := rfl
theorem zLT_c : zL0 = Bo false :: Bo false :: Bo false :: fc 0 z16 0 0 0 0 SnA.z32 .nl .nl 0 := rfl
theorem cF_drop (l : List Fm) (i : Nat) : (cF l).drop (i * 56) = cF (l.drop i) := by
  induction l generalizing i with
  | nil => simp [cF]
  | cons x l ih =>
    cases i with
    | zero => simp
    | succ i =>
      have e : cF (x :: l) = fr x ++ cF l := rfl
      rw [e, List.drop_append, fr_len, List.drop_of_length_le (by rw [fr_len]; omega), List.nil_append, show (i + 1) * 56 - 56 = i * 56 from by omega, ih]
      rfl
theorem cF_at (l : List Fm) (i : Nat) (h : i < l.length) : rdb (cF l) (i * 56) 56 = fr l[i] := by
  show List.take 56 (List.drop (i * 56) (cF l)) = _
  rw [cF_drop, List.drop_eq_getElem_cons h]
  have e : ∀ (x : Fm) l, cF (x :: l) = fr x ++ cF l := fun _ _ => rfl
  rw [e, List.take_append_of_le_length (by rw [fr_len]; exact Nat.le_refl _), List.take_of_length_le (by rw [fr_len]; exact Nat.le_refl _)]
theorem snew_no (tk : V 16) (s : Int) : Con Try.prog 47 [] [fB [], .ag (cB tk.1), U s] [] (.tu [.ag (sn zeS), I 1]) := by
  have g0 : ([] : List Int).length = 0 := rfl
  simp only [sn, zeS, offT]
  refine con_j b47 rfl ?_
  sym =>
  simp [Zab,Zad,Zae,Zaf,Zak,Zal,Zam,Zao,Zaz,Za0,Za1,Za2,Za3,Za4,Za5,Za6,Za7,Za8,Za9,Zba,Zbb,Zbd,Zbf,Zb9,Zcn,Zcv,Zcx,Zc3,Zev,Zew,Zex,Zez,Ze0,Ze1,Ze2,Ze3,Ze5,Zfc,Zfd,Zfe,Zfh,Zfi,Zfj,Zfn,Zfz,Zhd,Zhe,Zhf,Zh6,Zh7,Zin,Zio,Zip,Ziu,Ziv,Ziw,Zi6,Zjh,Zji,Zj2,Zmt,Zmv,Zmw,Zmx,Zmy,Zmz,Zm0,Zm1,Zm3,Zm5,Zna,Znb,Zn5,Zos,Zot,Zo6,Zo7,Zo8,eq_self,true_and,and_true,rd_0,sp_0,sc_len,sc_ok,zS_sc,g0]
  tactic =>
  refine endA ?_
  sym =>
  simp [Zpb,Zpv,Zp7,Zp9,Zqd,Zqe,eq_self,true_and,and_true,sc_rs,zS_sc]
  tactic =>
  all_goals exact ⟨rfl, rfl, rfl, rfl⟩
theorem good_may {src : List Int} {x : Sn} {f : Fm} (h : FG src x f) : mayF f = 0 := by
  unfold mayF
  rcases h.k with ⟨hk, _⟩ | ⟨hk, h1, h2, _⟩
  · rw [if_pos (by omega)]
  · rw [if_neg (by omega), if_pos hk, if_neg (by omega), if_neg (by omega)]
theorem good_lay {src : List Int} {x : Sn} {f : Fm} (h : FG src x f) (hs : SInv src x) (hb : byt8 src) (ht : byt8 x.tk.1) : ∃ l, Con Try.prog 55 [] [.ag (fr f)] [] (.tu [fB l, I 0]) := by
  have hm := good_may h
  have hd : f.d.length ≤ 256 ∧ byt8 f.d := by
    rcases h.k with ⟨_, h1⟩ | ⟨_, _, h1, _, _, h2⟩
    · rw [h1]; exact ⟨by simp, by intro x hx; cases hx⟩
    · refine ⟨h1, fun y hy => hb y ?_⟩
      rw [h2] at hy
      exact List.mem_of_mem_drop (List.mem_of_mem_take hy)
  have hsu : byt8 f.su.1 := by
    rcases h.su with e | e
    · rw [e]; exact hs.hsu
    · rw [e]
      intro y hy
      have := List.eq_of_mem_replicate (show y ∈ List.replicate 32 (0 : Int) from hy)
      omega
  have hc := flay_con f (by omega) (by rw [h.r]; simp) (by rw [h.t]; exact ht) hsu hd.2 (by rw [h.es]; exact hs.hes) (by rw [h.er]; exact hs.her)
  rw [show (layF f).2 = 0 from by unfold layF; rw [if_pos hm]] at hc
  exact ⟨_, hc⟩
def i10 (src : List Int) (s : Int) (q : List StT) (k : Nat) (st : St) : Prop := ∃ (i : Nat) (x : Sn), i + k = q.length ∧ SInv src x ∧ x.tk = t3 ∧ x.es = s ∧
  st = ⟨[(0, fB src), (1, U s), (7, .pt 0 0), (8, .pt 1 0), (45, fT q), (46, I (IN q.length)), (47, I (IN i))], [(0, ⟨cB t3.1, 1, 0⟩), (1, ⟨sn x, 1, 0⟩)], 2⟩
def i10b (src : List Int) (s : Int) (q : List StT) (i : Nat) (x : Sn) (fs : List Fm) (k : Nat) (st : St) : Prop := ∃ j : Nat, j + k = fs.length ∧
  st = ⟨[(0, fB src), (1, U s), (7, .pt 0 0), (8, .pt 1 0), (45, fT q), (46, I (IN q.length)), (47, I (IN i)), (121, fF fs), (122, I (IN fs.length)), (123, I (IN j))], [(0, ⟨cB t3.1, 1, 0⟩), (1, ⟨sn x, 1, 0⟩)], 2⟩
theorem t3_byt : byt8 t3.1 := by
  intro x hx
  simp only [t3, List.mem_cons, List.not_mem_nil, or_false] at hx
  omega
theorem says_con (src : List Int) (s : Int) (l : List StT) (hsrc : byt8 src) (hs : 0 ≤ s ∧ s < 4294967296) (hl : ∀ x ∈ l, 0 ≤ x.2.2.2.er ∧ x.2.2.2.er < 4294967296) : Con Try.prog 10 [] [fB src, U s, fT l] [] (Bo true) := by
  refine con_j b10 rfl ?_
  by_cases h1 : (6000 : Int) < IN src.length
  · sym =>
    simp [Zab,Zad,Zae,Zaf,Zal,Zam,Zaz,Za0,Za1,Za2,Za3,Za4,Za5,Za9,Zba,Zbb,Zbf,Zcn,Zdc,Zdd,Zde,Zev,Zew,Zez,Ze0,Ze2,Ze5,Zfd,Zfe,Zfh,Zfn,Zf3,Zh6,Zh7,Zla,Zna,Znb,Zne,Znf,Zos,Zot,Zo7,Zo8,eq_self,true_and,zL_fc,h1,callable_46]
    tactic =>
    refine cl none (alive_con) trivial ?_
    sym =>
    simp [Zak,Zam,Zao,Zaz,Za0,Za1,Za2,Za3,Za4,Za5,Za9,Zba,Zbb,Zdi,Zev,Zez,Ze0,Ze2,Zfd,Zfe,Zfh,Zjw,Zlz,Zmt,Zmv,Zmw,Zmx,Zmz,Zm2,Zo7,eq_self,true_and]
    tactic =>
    refine endA ?_
    sym =>
    simp [Zpc,eq_self]
  have hs6 : src.length ≤ 6000 := by simp only [IN] at h1; omega
  by_cases h2 : src.length = 0
  · obtain rfl := List.length_eq_zero_iff.1 h2
    sym =>
    simp [Zaa,Zab,Zad,Zae,Zaf,Zal,Zam,Zaz,Za0,Za1,Za2,Za3,Za4,Za5,Za9,Zba,Zbb,Zbf,Zbt,Zb9,Zcn,Zcv,Zc3,Zdc,Zdd,Zde,Zev,Zew,Zez,Ze0,Ze1,Ze2,Ze3,Ze5,Ze8,Zfc,Zfd,Zfe,Zfh,Zfn,Zf3,Zgr,Zgs,Zgt,Zhd,Zhe,Zhf,Zhg,Zhh,Zh6,Zh7,Zin,Ziu,Ziv,Ziw,Zi6,Zi7,Zla,Zlb,Zle,Zlf,Zlh,Zlj,Zll,Zm5,Zna,Znb,Zne,Znf,Zng,Znn,Zno,Znp,Zn5,Zos,Zot,Zo7,Zo9,eq_self,true_and,and_true,zL_fc,v16,cB_cells,zL_sc,h1,t3_c,sz16,rt16,cB_frz,callable_47]
    tactic =>
    have cn := snew_no t3 s
    simp only [sn, zeS, offT] at cn
    refine cl none (cn) trivial ?_
    sym =>
    simp [Zab,Zad,Zae,Zaf,Zal,Zam,Zaz,Za0,Za1,Za2,Za3,Za4,Za5,Za6,Za7,Za9,Zba,Zbb,Zbf,Zb7,Zcn,Zcv,Zc3,Zdc,Zdd,Zde,Zdi,Zev,Zew,Zex,Zez,Ze0,Ze1,Ze2,Ze3,Ze5,Zfc,Zfd,Zfe,Zfh,Zfn,Zfz,Zf0,Zhb,Zhc,Zh6,Zh7,Zin,Ziu,Ziv,Ziw,Zi6,Zjh,Zji,Zj7,Zky,Zk0,Zk1,Zla,Zlz,Zl2,Zm9,Zna,Znb,Zne,Znf,Zn5,Zo4,Zo7,Zo8,Zo9,eq_self,true_and,and_true,sp_0,sc_len,sc_ok,flL_sc,h2,callable_46]
    tactic =>
    refine cl none (alive_con) trivial ?_
    sym =>
    simp [Zak,Zam,Zao,Zaz,Za0,Za1,Za2,Za3,Za4,Za5,Za9,Zba,Zbb,Zbd,Zdi,Zev,Zew,Zez,Ze0,Ze2,Zfd,Zfe,Zfh,Zfi,Zfl,Zjw,Zlz,Zmt,Zmv,Zmw,Zmx,Zmz,Zm2,Zo7,eq_self,true_and]
    tactic =>
    refine endA ?_
    sym =>
    simp [Zpc,eq_self]
  have c0 := snew_con src t3 s (by omega) hs6
  have i0 := new_says src t3 s hs6 hs
  obtain ⟨x0, hx0⟩ : ∃ x, x = newS src t3 s := ⟨_, rfl⟩
  have k0 : x0.tk = t3 ∧ x0.es = s := by rw [hx0]; exact ⟨rfl, rfl⟩
  rw [← hx0] at c0 i0
  clear hx0
  sym =>
  simp [Zaa,Zab,Zad,Zae,Zaf,Zal,Zam,Zaz,Za0,Za1,Za2,Za3,Za4,Za5,Za9,Zba,Zbb,Zbf,Zbt,Zb9,Zcn,Zcv,Zc3,Zdc,Zdd,Zde,Zev,Zew,Zez,Ze0,Ze1,Ze2,Ze3,Ze5,Ze8,Zfc,Zfd,Zfe,Zfh,Zfn,Zf3,Zgr,Zgs,Zgt,Zhd,Zhe,Zhf,Zhg,Zhh,Zh6,Zh7,Zin,Ziu,Ziv,Ziw,Zi6,Zi7,Zla,Zlb,Zle,Zlf,Zlh,Zlj,Zll,Zm5,Zna,Znb,Zne,Znf,Zng,Znn,Zno,Znp,Zos,Zot,Zo7,Zo9,eq_self,true_and,and_true,zL_fc,v16,cB_cells,zL_sc,h1,t3_c,sz16,rt16,cB_frz,callable_47]
  tactic =>
  refine cl none (c0) trivial ?_
  have e1 : min (IN l.length) 40 = IN (l.take 40).length := by simp [IN]; omega
  have e2 : (cT l).take ((l.take 40).length * 59) = cT (l.take 40) := by rw [cT_takes]; congr 1; simp [List.take_take]
  have e3 : (l.take 40).length ≤ l.length := by simp; omega
  have hlq : ∀ x ∈ l.take 40, 0 ≤ x.2.2.2.er ∧ x.2.2.2.er < 4294967296 := fun x hx => hl x (List.mem_of_mem_take hx)
  rcases x0 with ⟨st, cd, sr, su, tk, es, er, os, t, s', o, ⟨a, b, c⟩, ⟨a2, b2, c2⟩⟩
  simp only [sn]
  have hq40 : (l.take 40).length ≤ 40 := by simp; omega
  sym =>
  simp [Zaa,Zab,Zad,Zae,Zaf,Zag,Zah,Zal,Zam,Zaz,Za0,Za1,Za2,Za3,Za4,Za5,Za9,Zba,Zbb,Zbf,Zb7,Zch,Zcn,Zct,Zcv,Zc3,Zdi,Zev,Zew,Zez,Ze0,Ze1,Ze2,Ze3,Ze5,Zfc,Zfd,Zfe,Zfh,Zfn,Zf0,Zhb,Zhc,Zhm,Zhn,Zho,Zhs,Zht,Zhu,Zh6,Zh7,Zif,Zig,Zik,Zil,Zim,Zin,Ziu,Ziv,Ziw,Zi6,Zjh,Zji,Zj7,Zky,Zk0,Zk1,Zlz,Zl2,Zm9,Zna,Znb,Znf,Zng,Znh,Zns,Znu,Znw,Zn5,Zrd,Zo3,Zo7,Zo8,eq_self,true_and,and_true,Nat.sub_zero,sp_0,sc_len,sc_ok,flL_sc,e1,e2,e3]
  tactic =>
  generalize l.take 40 = q at *
  refine lpA (i10 src s q) q.length [(0, 5), (1, 14)] _ ⟨0, ⟨st, cd, sr, su, tk, es, er, os, t, s', o, ⟨a, b, c⟩, ⟨a2, b2, c2⟩⟩, by omega, i0, k0.1, k0.2, rfl⟩ (wkA ?_) ?_
  · simp only [sn]
    sym =>
    simp [Za2,Za3,Zez,Zfc,Znr,Zn5,Zpc,Zpg,Zpi,Zpu,Zqf,Zqg,Zqh,Zqi,Zqk,Zql,Zqm,Zqn,eq_self,true_and,and_true,sc_rs]
    tactic =>
    exact rs_self (cB_okI _)
  clear i0 k0 c0
  rintro k Q ⟨i, x, hi, hx, kt, ke, rfl⟩
  have hxi := hx.inv
  by_cases h : i < q.length
  · have hw := w64s i (by omega)
    have h0 := cT_at q i h
    obtain ⟨⟨yt, yo, yn, G⟩, hy⟩ : ∃ y, y = q[i] := ⟨_, rfl⟩
    have hGe : 0 ≤ G.er ∧ G.er < 4294967296 := by
      have := hlq q[i] (List.getElem_mem h)
      rw [← hy] at this
      exact this
    rw [← hy] at h0
    have ctk := tick_con x hxi
    have cep := epoch_con x
    have cst := state_con x
    have hfg := far_con G
    have hfe : 0 ≤ (frmF yo yn G x.tk x.es x.er).er ∧ (frmF yo yn G x.tk x.es x.er).er < 4294967296 := by
      have := hx.her
      unfold frmF; cases yo <;> cases yn <;> simp <;> omega
    have cth := fun (hG : farF G = false) => theirs_con (frmF yo yn G x.tk x.es x.er) (by
      have : G.r.length ≤ 20 := by simp [farF] at hG; omega
      unfold frmF; cases yo <;> cases yn <;> simp <;> omega)
    have cfr := frame_con yt yo yn G x.tk x.es x.er
    have cta := fun (hG : farF G = false) => take_con x hxi (frmF yo yn G x.tk x.es x.er) (by
      have : G.r.length ≤ 20 := by simp [farF] at hG; omega
      unfold frmF; cases yo <;> cases yn <;> simp <;> omega)
    have s1 := tc_says hx
    have s2 := ta_says hx (frmF yo yn G x.tk x.es x.er) hfe
    have k1 : (tcF x).1.tk = t3 ∧ (tcF x).1.es = s := ⟨(tcF_keep x).1.trans kt, (tcF_keep x).2.trans ke⟩
    have k2 : (taF x (frmF yo yn G x.tk x.es x.er)).1.tk = t3 ∧ (taF x (frmF yo yn G x.tk x.es x.er)).1.es = s := ⟨(taF_keep x _).1.trans kt, (taF_keep x _).2.trans ke⟩
    obtain ⟨gk, gt, ges, ger, go, gn, gsu, gd, gr, gc⟩ := G
    simp only [enT, fr] at h0 hfg cfr
    generalize tcF x = R1 at *
    generalize frmF yo yn ⟨gk, gt, ges, ger, go, gn, gsu, gd, gr, gc⟩ x.tk x.es x.er = G2 at *
    generalize taF x G2 = R2 at *
    obtain ⟨st, cd, sr, su, tk, es, er, os, t, s', o, ⟨a, b, c⟩, ⟨a2, b2, c2⟩⟩ := x
    simp only at kt ke
    subst kt
    subst ke
    simp only [sn] at ctk cep cfr cst ⊢
    sym =>
    simp [Zaa,Zab,Zad,Zae,Zaf,Zag,Zal,Zam,Zay,Zaz,Za0,Za1,Za2,Za3,Za4,Za5,Za9,Zba,Zbf,Zbt,Zbv,Zb1,Zcv,Zc3,Zdc,Zdd,Zde,Zev,Zew,Zez,Ze0,Ze1,Ze2,Ze3,Ze5,Ze8,Zfc,Zfd,Zfe,Zfn,Zf1,Zgr,Zgs,Zgt,Zgu,Zgv,Zgw,Zgx,Zg4,Zg6,Zho,Zin,Ziu,Ziv,Ziw,Zi6,Zjh,Zji,Zjs,Zj7,Zla,Zlb,Zle,Zlf,Zlh,Zlm,Zm5,Zna,Znb,Zne,Znf,Zng,Zno,Znp,Zns,Znt,Znw,Zo7,Zo8,eq_self,true_and,and_true,fc_len,fc_ok,fz_fc,fcF1,h,h0,zLT_c,rd_t,sp_t,sp_t3,rd_tt,cT_length,callable_45]
    tactic =>
    and_intros <;> try (first | omega | rfl | assumption | simp only [IN]; omega)
    refine cl none (hfg) trivial ?_
    by_cases hG : farF ⟨gk, gt, ges, ger, go, gn, gsu, gd, gr, gc⟩ = true
    · sym =>
      simp [Zab,Zad,Zae,Zaf,Zal,Zam,Zaz,Za0,Za1,Za2,Za3,Za4,Za5,Za9,Zdc,Zdd,Zde,Zdi,Zev,Zew,Zez,Ze0,Zfd,Zfe,Zjw,Zla,Zlz,Zna,Znb,Zne,Znf,Zo7,eq_self,true_and,hG,callable_46]
      tactic =>
      refine cl none (alive_con) trivial ?_
      sym =>
      simp [Zak,Zam,Zao,Zar,Zax,Zaz,Za0,Za1,Za2,Za3,Za4,Za5,Za9,Zba,Zbb,Zdi,Zev,Zez,Ze0,Ze2,Zfd,Zfe,Zfh,Zjw,Zlz,Zmt,Zmv,Zmw,Zmx,Zmz,Zm2,Zo7,eq_self,true_and]
      tactic =>
      refine endA ?_
      sym =>
      simp [Zpc,eq_self]
    have hG : farF ⟨gk, gt, ges, ger, go, gn, gsu, gd, gr, gc⟩ = false := by simpa using hG
    have cth := cth hG
    have cta := cta hG
    sym =>
    simp [Zaa,Zab,Zad,Zae,Zaf,Zal,Zam,Zaz,Za0,Za1,Za2,Za3,Za4,Za5,Za9,Zba,Zbt,Zdc,Zdd,Zde,Zdi,Zev,Zew,Zez,Ze0,Ze2,Ze5,Ze8,Zfc,Zfd,Zfe,Zgr,Zgs,Zgt,Zjw,Zla,Zlb,Zle,Zlf,Zlh,Zlm,Zlz,Zm5,Zna,Znb,Zne,Znf,Zng,Zo7,eq_self,true_and,and_true,rd_0,sc_len,fz_sc,scF1,hG,callable_53]
    tactic =>
    refine cl none (cst) trivial ?_
    cases yt
    · sym =>
      simp [Zab,Zac,Zad,Zae,Zaf,Zal,Zam,Zaz,Za0,Za1,Za2,Za3,Za4,Za5,Za9,Zba,Zbb,Zbt,Zbu,Zbv,Zb7,Zc7,Zc8,Zdf,Zdg,Zdh,Zdi,Zdp,Zdt,Zdu,Zdv,Zdw,Zdx,Zdy,Zdz,Zd0,Zd1,Zec,Zek,Zen,Zeq,Zet,Zev,Zew,Zez,Ze0,Ze2,Ze5,Ze8,Zfc,Zfd,Zfe,Zfh,Zgr,Zgs,Zgt,Zgv,Zgw,Zgx,Zhb,Zhc,Zjq,Zky,Zkz,Zk0,Zk2,Zla,Zlb,Zle,Zlf,Zlh,Zlm,Zlz,Zm5,Zm6,Zm9,Zna,Znb,Zne,Znf,Zng,Zo7,eq_self,true_and,and_true,fc_len,v16,rd_0,sc_len,sc_id,fz_sc,scF1,hG,rd_tt,rt16,callable_52]
      tactic =>
      refine cl none (cep) trivial ?_
      sym =>
      simp [Za2,Za3,Zdf,Zdg,Zdh,Zdj,Zdk,Zdp,Zdt,Zdu,Zdv,Zdw,Zdx,Zdy,Zdz,Zd0,Zd1,Zd3,Zec,Zen,Zeq,Zer,Zes,Zet,Zev,Zew,Zez,Ze0,Zfd,Zfe,Zjq,Zkv,Zkw,Zkx,Zla,Zlb,Zlc,Zld,Zle,Zlf,Zlh,Zlk,Zlm,Zlz,Znc,Zne,Znf,Zng,Zo7,eq_self,true_and,and_true,fc_id,fz_fc,fcF1,rd_tt,rt16,cB_frz,callable_51]
      tactic =>
      refine cl none (cfr) trivial ?_
      obtain ⟨g2k, g2t, g2es, g2er, g2o, g2n, g2su, g2d, g2r, g2c⟩ := G2
      simp only [fr] at cth cta ⊢
      sym =>
      simp [Za2,Za3,Zdf,Zdg,Zdh,Zdj,Zdk,Zdm,Zdp,Zdt,Zdu,Zdv,Zdw,Zdx,Zdy,Zdz,Zd0,Zd1,Zec,Zen,Zeq,Zet,Zev,Zew,Zez,Ze0,Zfd,Zfe,Zkv,Zla,Zlb,Zle,Zlf,Zlh,Zlm,Zlz,Zl2,Zne,Znf,Zng,Zo7,eq_self,true_and,and_true,fc_id,fz_fc,fcF1,flL_fz,callable_50]
      tactic =>
      refine cl none (cth) trivial ?_
      sym =>
      simp [Za2,Za3,Zdf,Zdg,Zdh,Zdj,Zdk,Zdm,Zdp,Zdt,Zdu,Zdv,Zdw,Zdx,Zdy,Zdz,Zd0,Zd1,Zec,Zen,Zeq,Zet,Zev,Zew,Zez,Ze0,Zfd,Zfe,Zkv,Zla,Zlb,Zle,Zlf,Zlh,Zlm,Zlz,Zl2,Zne,Znf,Zng,Zo7,eq_self,true_and,and_true,fc_id,fz_fc,fcF1,flL_fz,sc_id,fz_sc,scF1,callable_49]
      tactic =>
      refine cl none (cta) trivial ?_
      obtain ⟨⟨st', cd', sr', su', tk', es', er', os', t', s'', o', ⟨a', b', c'⟩, ⟨a2', b2', c2'⟩⟩, fs⟩ := R2
      obtain ⟨i1, fg, fl, f4⟩ := s2
      have cst2 := state_con ⟨st', cd', sr', su', tk', es', er', os', t', s'', o', ⟨a', b', c'⟩, ⟨a2', b2', c2'⟩⟩
      simp only at fg fl f4 k2
      simp only [fr, sn] at cst2 ⊢
      sym =>
      simp [Zab,Zad,Zam,Zaz,Za0,Za1,Za2,Za3,Za5,Za9,Zba,Zbc,Zbt,Zb8,Zc4,Zc7,Zc8,Zc9,Zdc,Zdd,Zde,Zdj,Zdk,Zdm,Zdo,Zdp,Zdt,Zdu,Zdv,Zdw,Zdx,Zdy,Zd0,Zd1,Zeb,Zec,Zek,Zen,Zep,Zev,Zew,Zez,Ze0,Ze1,Ze2,Ze3,Ze5,Ze8,Zfc,Zfd,Zfe,Zfh,Zgr,Zgs,Zgt,Zhb,Zhc,Ziu,Ziv,Ziw,Zi6,Zjh,Zji,Zj7,Zky,Zk0,Zk1,Zla,Zlb,Zle,Zlf,Zlh,Zlm,Zlz,Zl2,Zm5,Zm9,Zna,Znb,Zne,Znf,Zng,Zo7,eq_self,true_and,and_true,rd_0,sp_0,sc_len,sc_ok,sc_id,fz_sc,scF1,flL_sc,callable_53]
      tactic =>
      refine cl none (cst2) trivial ?_
      have n8 : ¬ (8 : Int) < IN fs.length := by simp only [IN]; omega
      have n1 : ¬ st' < 1 := by have := i1.hst; simp only at this; omega
      have n5 : ¬ (5 : Int) < st' := by have := i1.hst; simp only at this; omega
      have ncd : st' ≠ 5 → cd' = 0 := i1.hcd
      by_cases w3 : 3 < st
      · have e4 := f4 w3
        injection e4 with e5 e6
        injection e5 with e7 e8
        have n0 : ¬ 0 < fs.length := by rw [e6]; decide
        clear f4 e6
        subst e7 e8
        by_cases n55 : st' = 5
        · subst n55
          sym =>
          simp [Zaa,Zab,Zad,Zae,Zaf,Zag,Zah,Zal,Zam,Zaz,Za0,Za1,Za2,Za3,Za4,Za5,Za6,Za7,Za8,Za9,Zba,Zbb,Zbd,Zbf,Zb7,Zcn,Zdi,Zev,Zew,Zex,Zez,Ze0,Ze2,Ze5,Zfd,Zfe,Zfh,Zfi,Zfk,Zfl,Zfn,Zf0,Zf1,Zf3,Zhb,Zhc,Zh6,Zh7,Zjq,Zky,Zkz,Zk0,Zk2,Zlz,Zm9,Zna,Znb,Znx,Zo3,Zo7,Zo8,Zo9,eq_self,true_and,n8,w3,n0]
          tactic =>
          refine lpA (i10b src es q i ⟨5, cd', sr', su', tk', es', er', os', t', s'', o', ⟨a', b', c'⟩, ⟨a2', b2', c2'⟩⟩ fs) fs.length [(0, 0), (1, 1)] _ ⟨0, by omega, rfl⟩ (wkA ?_) ?_
          · simp only [sn]
            sym =>
            simp [Za2,Za3,Zez,Zfc,Znr,Zn5,Zpc,Zpg,Zpi,Zpu,Zqf,Zqg,Zqh,Zqi,Zqk,Zql,Zqm,Zqn,eq_self,true_and,and_true,sc_rs]
            tactic =>
            exact rs_self (cB_okI _)
          rintro k3 Q ⟨j, hj, rfl⟩
          simp only [sn]
          by_cases hjs : j < fs.length
          · exfalso; omega
          · sym =>
            simp [Zab,Zad,Zae,Zaf,Zai,Zam,Zan,Zap,Zaq,Zav,Zaw,Zay,Zaz,Za0,Za1,Za2,Za3,Za4,Za5,Za9,Zba,Zbb,Zbf,Zev,Zew,Zez,Ze0,Ze2,Zfd,Zfe,Zfh,Zfn,Zfq,Zf1,Zna,Znb,Znt,Zo7,Zo9,eq_self,true_and,hjs,hw]
            tactic =>
            unfold NextL; refine ⟨(k - 1), [(0, 0), (1, 1)], _, by omega, ⟨i + 1, ⟨5, cd', sr', su', tk', es', er', os', t', s'', o', ⟨a', b', c'⟩, ⟨a2', b2', c2'⟩⟩, by omega, i1, k2.1, k2.2, rfl⟩, wkA ?_⟩
            simp only [sn]
            sym =>
            simp [Za2,Za3,Zez,Zfc,Znr,Zpc,Zpg,Zpi,Zpu,Zqf,Zqg,Zqh,Zqi,Zqk,Zql,Zqm,Zqn,eq_self,true_and,and_true,sc_rs]
            tactic =>
            exact rs_self (cB_okI _)
        · have n0' := ncd n55
          subst n0'
          sym =>
          simp [Zaa,Zab,Zad,Zae,Zaf,Zag,Zah,Zal,Zam,Zaz,Za0,Za1,Za2,Za3,Za4,Za5,Za6,Za7,Za9,Zba,Zbb,Zbd,Zbf,Zb7,Zcn,Zdi,Zev,Zew,Zex,Zez,Ze0,Ze2,Ze5,Zfd,Zfe,Zfh,Zfi,Zfl,Zfn,Zf0,Zf1,Zf3,Zhb,Zhc,Zh6,Zh7,Zjq,Zky,Zkz,Zk0,Zk2,Zlz,Zm9,Zna,Znb,Znx,Zo3,Zo4,Zo7,Zo8,Zo9,eq_self,true_and,n8,w3,n0,n1,n5,n55]
          tactic =>
          refine lpA (i10b src es q i ⟨st', 0, sr', su', tk', es', er', os', t', s'', o', ⟨a', b', c'⟩, ⟨a2', b2', c2'⟩⟩ fs) fs.length [(0, 0), (1, 1)] _ ⟨0, by omega, rfl⟩ (wkA ?_) ?_
          · simp only [sn]
            sym =>
            simp [Za2,Za3,Zez,Zfc,Znr,Zn5,Zpc,Zpg,Zpi,Zpu,Zqf,Zqg,Zqh,Zqi,Zqk,Zql,Zqm,Zqn,eq_self,true_and,and_true,sc_rs]
            tactic =>
            exact rs_self (cB_okI _)
          rintro k3 Q ⟨j, hj, rfl⟩
          simp only [sn]
          by_cases hjs : j < fs.length
          · exfalso; omega
          · sym =>
            simp [Zab,Zad,Zae,Zaf,Zai,Zam,Zan,Zap,Zaq,Zav,Zaw,Zay,Zaz,Za0,Za1,Za2,Za3,Za4,Za5,Za9,Zba,Zbb,Zbf,Zev,Zew,Zez,Ze0,Ze2,Zfd,Zfe,Zfh,Zfn,Zfq,Zf1,Zna,Znb,Znt,Zo7,Zo9,eq_self,true_and,hjs,hw]
            tactic =>
            unfold NextL; refine ⟨(k - 1), [(0, 0), (1, 1)], _, by omega, ⟨i + 1, ⟨st', 0, sr', su', tk', es', er', os', t', s'', o', ⟨a', b', c'⟩, ⟨a2', b2', c2'⟩⟩, by omega, i1, k2.1, k2.2, rfl⟩, wkA ?_⟩
            simp only [sn]
            sym =>
            simp [Za2,Za3,Zez,Zfc,Znr,Zpc,Zpg,Zpi,Zpu,Zqf,Zqg,Zqh,Zqi,Zqk,Zql,Zqm,Zqn,eq_self,true_and,and_true,sc_rs]
            tactic =>
            exact rs_self (cB_okI _)
      · by_cases n55 : st' = 5
        · subst n55
          sym =>
          simp [Zaa,Zab,Zad,Zae,Zaf,Zag,Zah,Zal,Zam,Zaz,Za0,Za1,Za2,Za3,Za4,Za5,Za6,Za7,Zrh,Za8,Za9,Zba,Zbb,Zbd,Zbf,Zb7,Zcn,Zdi,Zev,Zew,Zex,Zez,Ze0,Ze2,Ze5,Zfd,Zfe,Zfh,Zfi,Zfk,Zfl,Zfn,Zf0,Zf1,Zf3,Zhb,Zhc,Zh6,Zh7,Zjq,Zky,Zkz,Zk0,Zk2,Zlz,Zm9,Zna,Znb,Zo3,Zo7,Zo8,Zo9,eq_self,true_and,n8,w3]
          tactic =>
          refine lpA (i10b src es q i ⟨5, cd', sr', su', tk', es', er', os', t', s'', o', ⟨a', b', c'⟩, ⟨a2', b2', c2'⟩⟩ fs) fs.length [(0, 0), (1, 1)] _ ⟨0, by omega, rfl⟩ (wkA ?_) ?_
          · simp only [sn]
            sym =>
            simp [Za2,Za3,Zez,Zfc,Znr,Zn5,Zpc,Zpg,Zpi,Zpu,Zqf,Zqg,Zqh,Zqi,Zqk,Zql,Zqm,Zqn,eq_self,true_and,and_true,sc_rs]
            tactic =>
            exact rs_self (cB_okI _)
          rintro k3 Q ⟨j, hj, rfl⟩
          simp only [sn]
          by_cases hjs : j < fs.length
          · have hwj := w64s j (by omega)
            have cat := cF_at fs j hjs
            have fgj := fg fs[j] (List.getElem_mem hjs)
            generalize fs[j] = g at *
            obtain ⟨lb, hlay⟩ := good_lay fgj i1 hsrc (by rw [k2.1]; exact t3_byt)
            obtain ⟨gk2, gt2, ges2, ger2, go2, gn2, gsu2, gd2, gr2, gc2⟩ := g
            have ft := fgj.t
            have fes := fgj.es
            have fer := fgj.er
            have fk := fgj.k
            have kt' := k2.1
            have ke' := k2.2
            simp only at ft fes fer fk kt' ke'
            subst kt' ke' ft fes fer
            simp only [fr] at cat hlay
            have cep2 := epoch_con ⟨5, cd', sr', su', t3, ges2, ger2, os', t', s'', o', ⟨a', b', c'⟩, ⟨a2', b2', c2'⟩⟩
            simp only [sn] at cep2
            sym =>
            simp [Zaa,Zab,Zad,Zae,Zaf,Zag,Zal,Zam,Zay,Zaz,Za0,Za1,Za2,Za3,Za4,Za5,Za9,Zba,Zbf,Zbt,Zb1,Zcv,Zc3,Zdc,Zdd,Zde,Zev,Zew,Zez,Ze0,Ze1,Ze2,Ze3,Ze5,Ze8,Zfc,Zfd,Zfe,Zfn,Zf1,Zgr,Zgs,Zgt,Zgu,Zg4,Zg6,Zho,Zin,Ziu,Ziv,Ziw,Zi6,Zjh,Zji,Zj7,Zla,Zlb,Zle,Zlf,Zlh,Zlm,Zm5,Zna,Znb,Zne,Znf,Zng,Zns,Znt,Znw,Zo7,Zo8,eq_self,true_and,and_true,fp_f,rb_0,fc_len,fc_ok,fz_fc,fcF1,hjs,cat,cF_length,callable_55]
            tactic =>
            and_intros <;> try (first | omega | rfl | assumption | simp only [IN]; omega)
            refine cl none (hlay) trivial ?_
            sym =>
            simp [Zac,Zad,Zam,Zaz,Za0,Za1,Za2,Za3,Za4,Za5,Za9,Zba,Zbb,Zbc,Zbe,Zbg,Zbi,Zbu,Zbw,Zb7,Zc7,Zc8,Zdf,Zdg,Zdh,Zdi,Zdp,Zdq,Zdr,Zdt,Zdu,Zdv,Zdw,Zdx,Zdy,Zdz,Zd0,Zd1,Zd2,Zec,Zek,Zen,Zeq,Zet,Zev,Zew,Zex,Zez,Ze0,Ze2,Ze5,Ze8,Zfc,Zfd,Zfe,Zfh,Zfi,Zfl,Zfn,Zf0,Zga,Zgc,Zgr,Zgs,Zgt,Zgv,Zgw,Zgx,Zhb,Zhc,Zka,Zky,Zk0,Zk4,Zla,Zlb,Zle,Zlf,Zlh,Zlm,Zlz,Zl2,Zm5,Zm7,Zm9,Zna,Znb,Zne,Znf,Zng,Zo3,Zo7,Zo8,eq_self,true_and,and_true,fc_17,fc_18,rb_1,fc_len,v16,rd_0,sc_len,sc_id,fz_sc,scF1,sk16,eqL_self,rt16,callable_52]
            tactic =>
            refine cl none (cep2) trivial ?_
            rcases fk with ⟨hk, hd⟩ | ⟨hk, d1, d2, o1, o2, dd⟩
            · have nk3 : ¬ gk2 = 3 := by omega
              sym =>
              simp [Zaa,Zab,Zac,Zad,Zae,Zaf,Zal,Zam,Zap,Zav,Zaz,Za0,Za1,Za2,Za3,Za4,Za5,Za9,Zba,Zbb,Zbc,Zbe,Zbf,Zbg,Zbi,Zbu,Zbw,Zc7,Zc8,Zdj,Zdk,Zdo,Zdp,Zdq,Zdr,Zri,Zds,Zdt,Zdu,Zdv,Zdw,Zdx,Zdy,Zdz,Zd0,Zd1,Zd2,Zd3,Zek,Zen,Zer,Zes,Zev,Zew,Zex,Zez,Ze0,Ze2,Ze5,Ze8,Zfc,Zfd,Zfe,Zfh,Zfi,Zfk,Zfl,Zfn,Zfq,Zfz,Zf0,Zga,Zgc,Zgr,Zgs,Zgt,Zgv,Zgw,Zgx,Zjq,Zkv,Zkw,Zkx,Zlz,Zm6,Zna,Znb,Zne,Zok,Zol,Zom,Zor,Zo3,Zo7,Zo8,Zo9,eq_self,true_and,and_true,fc_0,fc_17,fc_len,nk3,hwj]
              tactic =>
              unfold NextL; refine ⟨(k3 - 1), [(0, 0), (1, 1)], _, by omega, ⟨j + 1, by omega, rfl⟩, wkA ?_⟩
              simp only [sn]
              sym =>
              simp [Za2,Za3,Zez,Zfc,Znr,Zpc,Zpg,Zpi,Zpu,Zqf,Zqg,Zqh,Zqi,Zqk,Zql,Zqm,Zqn,eq_self,true_and,and_true,sc_rs]
              tactic =>
              exact rs_self (cB_okI _)
            · subst hk
              have wd : IntKind.u64.wrap (IN gd2.length) = IN gd2.length := by simp only [IN]; rw [wu64]; omega
              have wl : IntKind.u64.wrap (IN src.length) = IN src.length := by simp only [IN]; rw [wu64]; omega
              obtain ⟨hi, ehi⟩ : ∃ hi, hi = go2 + IN gd2.length := ⟨_, rfl⟩
              have o2' : go2 + IN gd2.length ≤ IN src.length := o2
              have whi : IntKind.u64.wrap (go2 + IN gd2.length) = hi := by simp only [IN] at ehi o2' ⊢; rw [wu64]; omega
              have nhi : ¬ IN src.length < hi := by rw [ehi]; omega
              have cns := nsame_con gd2 gd2 (by omega)
              rw [decide_eq_true (rfl : gd2 = gd2)] at cns
              have ecut : List.take gd2.length (List.drop go2.toNat (cB src)) = cB gd2 := by
                have e2 := congrArg cB dd
                rw [cB_take, cB_drop] at e2
                exact e2.symm
              have eln : hi.toNat - go2.toNat = gd2.length := by simp only [IN] at ehi; omega
              sym =>
              simp [Zaa,Zac,Zad,Zae,Zaf,Zal,Zam,Zaz,Za0,Za1,Za2,Za3,Zbc,Zbe,Zbg,Zbi,Zbm,Zbu,Zbw,Zci,Zco,Zc7,Zc8,Zdf,Zdg,Zdh,Zdj,Zdk,Zdo,Zdp,Zdq,Zdr,Zdt,Zdu,Zdv,Zdw,Zdx,Zdy,Zdz,Zd0,Zd1,Zd2,Zd3,Zeb,Zek,Zen,Zeq,Zer,Zes,Zet,Zev,Zew,Zex,Zez,Ze0,Ze2,Ze5,Ze8,Zfc,Zfd,Zfe,Zfh,Zfi,Zfl,Zfn,Zfq,Zfz,Zf0,Zf3,Zga,Zgc,Zgh,Zgi,Zgr,Zgs,Zgt,Zgv,Zgw,Zgx,Zhn,Zho,Zhs,Zht,Zhu,Zh6,Zh7,Zjq,Zkv,Zkw,Zkx,Zla,Zlb,Zle,Zll,Zlz,Zm6,Zna,Znb,Zne,Znf,Zng,Zok,Zol,Zom,Zor,Zo3,Zo7,Zo8,Zo9,eq_self,true_and,and_true,Nat.mul_one,fc_0,fc_17,fc_19,fc_53,fc_len,wd,wl,whi,nhi,ecut,eln,callable_22]
              tactic =>
              have b2 : go2 ≤ hi := by rw [ehi]; simp only [IN]; omega
              refine ⟨⟨by omega, b2, by omega⟩, ?_⟩
              refine cl none (cns) trivial ?_
              sym =>
              simp [Zaa,Zab,Zae,Zaf,Zal,Zam,Zap,Zav,Zaz,Za0,Za1,Za2,Za3,Za4,Za5,Za9,Zba,Zbb,Zbe,Zbf,Zbk,Zc7,Zc8,Zdj,Zdk,Zdo,Zdp,Zdq,Zdr,Zdt,Zdu,Zdv,Zd0,Zd1,Zd2,Zev,Zew,Zex,Zez,Ze0,Ze2,Zfd,Zfe,Zfh,Zfi,Zfl,Zfn,Zfq,Zgd,Zgg,Zjw,Zlz,Zna,Znb,Zne,Zo3,Zo7,eq_self,true_and,and_true,hwj]
              tactic =>
              unfold NextL; refine ⟨(k3 - 1), [(0, 0), (1, 1)], _, by omega, ⟨j + 1, by omega, rfl⟩, wkA ?_⟩
              simp only [sn]
              sym =>
              simp [Za2,Za3,Zez,Zfc,Znr,Zpc,Zpg,Zpi,Zpu,Zqf,Zqg,Zqh,Zqi,Zqk,Zql,Zqm,Zqn,eq_self,true_and,and_true,sc_rs]
              tactic =>
              exact rs_self (cB_okI _)
          · sym =>
            simp [Zab,Zad,Zae,Zaf,Zai,Zam,Zan,Zap,Zaq,Zav,Zaw,Zay,Zaz,Za0,Za1,Za2,Za3,Za4,Za5,Za9,Zba,Zbb,Zbf,Zev,Zew,Zez,Ze0,Ze2,Zfd,Zfe,Zfh,Zfn,Zfq,Zf1,Zna,Znb,Znt,Zo7,Zo9,eq_self,true_and,hjs,hw]
            tactic =>
            unfold NextL; refine ⟨(k - 1), [(0, 0), (1, 1)], _, by omega, ⟨i + 1, ⟨5, cd', sr', su', tk', es', er', os', t', s'', o', ⟨a', b', c'⟩, ⟨a2', b2', c2'⟩⟩, by omega, i1, k2.1, k2.2, rfl⟩, wkA ?_⟩
            simp only [sn]
            sym =>
            simp [Za2,Za3,Zez,Zfc,Znr,Zpc,Zpg,Zpi,Zpu,Zqf,Zqg,Zqh,Zqi,Zqk,Zql,Zqm,Zqn,eq_self,true_and,and_true,sc_rs]
            tactic =>
            exact rs_self (cB_okI _)
        · have n0 := ncd n55
          subst n0
          sym =>
          simp [Zaa,Zab,Zad,Zae,Zaf,Zag,Zah,Zal,Zam,Zaz,Za0,Za1,Za2,Za3,Za4,Za5,Za6,Za7,Zrh,Za8,Za9,Zba,Zbb,Zbd,Zbf,Zb7,Zcn,Zdi,Zev,Zew,Zex,Zez,Ze0,Ze2,Ze5,Zfd,Zfe,Zfh,Zfi,Zfk,Zfl,Zfn,Zf0,Zf1,Zf3,Zhb,Zhc,Zh6,Zh7,Zjq,Zky,Zkz,Zk0,Zk2,Zlz,Zm9,Zna,Znb,Zo3,Zo4,Zo7,Zo8,Zo9,eq_self,true_and,n8,w3,n1,n5,n55]
          tactic =>
          refine lpA (i10b src es q i ⟨st', 0, sr', su', tk', es', er', os', t', s'', o', ⟨a', b', c'⟩, ⟨a2', b2', c2'⟩⟩ fs) fs.length [(0, 0), (1, 1)] _ ⟨0, by omega, rfl⟩ (wkA ?_) ?_
          · simp only [sn]
            sym =>
            simp [Za2,Za3,Zez,Zfc,Znr,Zn5,Zpc,Zpg,Zpi,Zpu,Zqf,Zqg,Zqh,Zqi,Zqk,Zql,Zqm,Zqn,eq_self,true_and,and_true,sc_rs]
            tactic =>
            exact rs_self (cB_okI _)
          rintro k3 Q ⟨j, hj, rfl⟩
          simp only [sn]
          by_cases hjs : j < fs.length
          · have hwj := w64s j (by omega)
            have cat := cF_at fs j hjs
            have fgj := fg fs[j] (List.getElem_mem hjs)
            generalize fs[j] = g at *
            obtain ⟨lb, hlay⟩ := good_lay fgj i1 hsrc (by rw [k2.1]; exact t3_byt)
            obtain ⟨gk2, gt2, ges2, ger2, go2, gn2, gsu2, gd2, gr2, gc2⟩ := g
            have ft := fgj.t
            have fes := fgj.es
            have fer := fgj.er
            have fk := fgj.k
            have kt' := k2.1
            have ke' := k2.2
            simp only at ft fes fer fk kt' ke'
            subst kt' ke' ft fes fer
            simp only [fr] at cat hlay
            have cep2 := epoch_con ⟨st', 0, sr', su', t3, ges2, ger2, os', t', s'', o', ⟨a', b', c'⟩, ⟨a2', b2', c2'⟩⟩
            simp only [sn] at cep2
            sym =>
            simp [Zaa,Zab,Zad,Zae,Zaf,Zag,Zal,Zam,Zay,Zaz,Za0,Za1,Za2,Za3,Za4,Za5,Za9,Zba,Zbf,Zbt,Zb1,Zcv,Zc3,Zdc,Zdd,Zde,Zev,Zew,Zez,Ze0,Ze1,Ze2,Ze3,Ze5,Ze8,Zfc,Zfd,Zfe,Zfn,Zf1,Zgr,Zgs,Zgt,Zgu,Zg4,Zg6,Zho,Zin,Ziu,Ziv,Ziw,Zi6,Zjh,Zji,Zj7,Zla,Zlb,Zle,Zlf,Zlh,Zlm,Zm5,Zna,Znb,Zne,Znf,Zng,Zns,Znt,Znw,Zo7,Zo8,eq_self,true_and,and_true,fp_f,rb_0,fc_len,fc_ok,fz_fc,fcF1,hjs,cat,cF_length,callable_55]
            tactic =>
            and_intros <;> try (first | omega | rfl | assumption | simp only [IN]; omega)
            refine cl none (hlay) trivial ?_
            sym =>
            simp [Zac,Zad,Zam,Zaz,Za0,Za1,Za2,Za3,Za4,Za5,Za9,Zba,Zbb,Zbc,Zbe,Zbg,Zbi,Zbu,Zbw,Zb7,Zc7,Zc8,Zdf,Zdg,Zdh,Zdi,Zdp,Zdq,Zdr,Zdt,Zdu,Zdv,Zdw,Zdx,Zdy,Zdz,Zd0,Zd1,Zd2,Zec,Zek,Zen,Zeq,Zet,Zev,Zew,Zex,Zez,Ze0,Ze2,Ze5,Ze8,Zfc,Zfd,Zfe,Zfh,Zfi,Zfl,Zfn,Zf0,Zga,Zgc,Zgr,Zgs,Zgt,Zgv,Zgw,Zgx,Zhb,Zhc,Zka,Zky,Zk0,Zk4,Zla,Zlb,Zle,Zlf,Zlh,Zlm,Zlz,Zl2,Zm5,Zm7,Zm9,Zna,Znb,Zne,Znf,Zng,Zo3,Zo7,Zo8,eq_self,true_and,and_true,fc_17,fc_18,rb_1,fc_len,v16,rd_0,sc_len,sc_id,fz_sc,scF1,sk16,eqL_self,rt16,callable_52]
            tactic =>
            refine cl none (cep2) trivial ?_
            rcases fk with ⟨hk, hd⟩ | ⟨hk, d1, d2, o1, o2, dd⟩
            · have nk3 : ¬ gk2 = 3 := by omega
              sym =>
              simp [Zaa,Zab,Zac,Zad,Zae,Zaf,Zal,Zam,Zap,Zav,Zaz,Za0,Za1,Za2,Za3,Za4,Za5,Za9,Zba,Zbb,Zbc,Zbe,Zbf,Zbg,Zbi,Zbu,Zbw,Zc7,Zc8,Zdj,Zdk,Zdo,Zdp,Zdq,Zdr,Zri,Zds,Zdt,Zdu,Zdv,Zdw,Zdx,Zdy,Zdz,Zd0,Zd1,Zd2,Zd3,Zek,Zen,Zer,Zes,Zev,Zew,Zex,Zez,Ze0,Ze2,Ze5,Ze8,Zfc,Zfd,Zfe,Zfh,Zfi,Zfk,Zfl,Zfn,Zfq,Zfz,Zf0,Zga,Zgc,Zgr,Zgs,Zgt,Zgv,Zgw,Zgx,Zjq,Zkv,Zkw,Zkx,Zlz,Zm6,Zna,Znb,Zne,Zok,Zol,Zom,Zor,Zo3,Zo7,Zo8,Zo9,eq_self,true_and,and_true,fc_0,fc_17,fc_len,nk3,hwj]
              tactic =>
              unfold NextL; refine ⟨(k3 - 1), [(0, 0), (1, 1)], _, by omega, ⟨j + 1, by omega, rfl⟩, wkA ?_⟩
              simp only [sn]
              sym =>
              simp [Za2,Za3,Zez,Zfc,Znr,Zpc,Zpg,Zpi,Zpu,Zqf,Zqg,Zqh,Zqi,Zqk,Zql,Zqm,Zqn,eq_self,true_and,and_true,sc_rs]
              tactic =>
              exact rs_self (cB_okI _)
            · subst hk
              have wd : IntKind.u64.wrap (IN gd2.length) = IN gd2.length := by simp only [IN]; rw [wu64]; omega
              have wl : IntKind.u64.wrap (IN src.length) = IN src.length := by simp only [IN]; rw [wu64]; omega
              obtain ⟨hi, ehi⟩ : ∃ hi, hi = go2 + IN gd2.length := ⟨_, rfl⟩
              have o2' : go2 + IN gd2.length ≤ IN src.length := o2
              have whi : IntKind.u64.wrap (go2 + IN gd2.length) = hi := by simp only [IN] at ehi o2' ⊢; rw [wu64]; omega
              have nhi : ¬ IN src.length < hi := by rw [ehi]; omega
              have cns := nsame_con gd2 gd2 (by omega)
              rw [decide_eq_true (rfl : gd2 = gd2)] at cns
              have ecut : List.take gd2.length (List.drop go2.toNat (cB src)) = cB gd2 := by
                have e2 := congrArg cB dd
                rw [cB_take, cB_drop] at e2
                exact e2.symm
              have eln : hi.toNat - go2.toNat = gd2.length := by simp only [IN] at ehi; omega
              sym =>
              simp [Zaa,Zac,Zad,Zae,Zaf,Zal,Zam,Zaz,Za0,Za1,Za2,Za3,Zbc,Zbe,Zbg,Zbi,Zbm,Zbu,Zbw,Zci,Zco,Zc7,Zc8,Zdf,Zdg,Zdh,Zdj,Zdk,Zdo,Zdp,Zdq,Zdr,Zdt,Zdu,Zdv,Zdw,Zdx,Zdy,Zdz,Zd0,Zd1,Zd2,Zd3,Zeb,Zek,Zen,Zeq,Zer,Zes,Zet,Zev,Zew,Zex,Zez,Ze0,Ze2,Ze5,Ze8,Zfc,Zfd,Zfe,Zfh,Zfi,Zfl,Zfn,Zfq,Zfz,Zf0,Zf3,Zga,Zgc,Zgh,Zgi,Zgr,Zgs,Zgt,Zgv,Zgw,Zgx,Zhn,Zho,Zhs,Zht,Zhu,Zh6,Zh7,Zjq,Zkv,Zkw,Zkx,Zla,Zlb,Zle,Zll,Zlz,Zm6,Zna,Znb,Zne,Znf,Zng,Zok,Zol,Zom,Zor,Zo3,Zo7,Zo8,Zo9,eq_self,true_and,and_true,Nat.mul_one,fc_0,fc_17,fc_19,fc_53,fc_len,wd,wl,whi,nhi,ecut,eln,callable_22]
              tactic =>
              have b2 : go2 ≤ hi := by rw [ehi]; simp only [IN]; omega
              refine ⟨⟨by omega, b2, by omega⟩, ?_⟩
              refine cl none (cns) trivial ?_
              sym =>
              simp [Zaa,Zab,Zae,Zaf,Zal,Zam,Zap,Zav,Zaz,Za0,Za1,Za2,Za3,Za4,Za5,Za9,Zba,Zbb,Zbe,Zbf,Zbk,Zc7,Zc8,Zdj,Zdk,Zdo,Zdp,Zdq,Zdr,Zdt,Zdu,Zdv,Zd0,Zd1,Zd2,Zev,Zew,Zex,Zez,Ze0,Ze2,Zfd,Zfe,Zfh,Zfi,Zfl,Zfn,Zfq,Zgd,Zgg,Zjw,Zlz,Zna,Znb,Zne,Zo3,Zo7,eq_self,true_and,and_true,hwj]
              tactic =>
              unfold NextL; refine ⟨(k3 - 1), [(0, 0), (1, 1)], _, by omega, ⟨j + 1, by omega, rfl⟩, wkA ?_⟩
              simp only [sn]
              sym =>
              simp [Za2,Za3,Zez,Zfc,Znr,Zpc,Zpg,Zpi,Zpu,Zqf,Zqg,Zqh,Zqi,Zqk,Zql,Zqm,Zqn,eq_self,true_and,and_true,sc_rs]
              tactic =>
              exact rs_self (cB_okI _)
          · sym =>
            simp [Zab,Zad,Zae,Zaf,Zai,Zam,Zan,Zap,Zaq,Zav,Zaw,Zay,Zaz,Za0,Za1,Za2,Za3,Za4,Za5,Za9,Zba,Zbb,Zbf,Zev,Zew,Zez,Ze0,Ze2,Zfd,Zfe,Zfh,Zfn,Zfq,Zf1,Zna,Znb,Znt,Zo7,Zo9,eq_self,true_and,hjs,hw]
            tactic =>
            unfold NextL; refine ⟨(k - 1), [(0, 0), (1, 1)], _, by omega, ⟨i + 1, ⟨st', 0, sr', su', tk', es', er', os', t', s'', o', ⟨a', b', c'⟩, ⟨a2', b2', c2'⟩⟩, by omega, i1, k2.1, k2.2, rfl⟩, wkA ?_⟩
            simp only [sn]
            sym =>
            simp [Za2,Za3,Zez,Zfc,Znr,Zpc,Zpg,Zpi,Zpu,Zqf,Zqg,Zqh,Zqi,Zqk,Zql,Zqm,Zqn,eq_self,true_and,and_true,sc_rs]
            tactic =>
            exact rs_self (cB_okI _)
    · sym =>
      simp [Zab,Zad,Zae,Zaf,Zal,Zam,Zaz,Za0,Za1,Za2,Za3,Za4,Za5,Za9,Zba,Zbb,Zbt,Zbv,Zb7,Zdc,Zdd,Zde,Zdi,Zev,Zew,Zez,Ze0,Ze2,Ze5,Ze8,Zfc,Zfd,Zfe,Zfh,Zgr,Zgs,Zgt,Zgv,Zgw,Zgx,Zhb,Zhc,Zjq,Zky,Zkz,Zk0,Zk2,Zla,Zlb,Zle,Zlf,Zlh,Zlm,Zlz,Zm5,Zm6,Zm9,Zna,Znb,Zne,Znf,Zng,Zo7,eq_self,true_and,and_true,fc_len,rd_0,sc_len,fz_sc,scF1,hG,callable_48]
      tactic =>
      refine cl none (ctk) trivial ?_
      obtain ⟨⟨st', cd', sr', su', tk', es', er', os', t', s'', o', ⟨a', b', c'⟩, ⟨a2', b2', c2'⟩⟩, fs⟩ := R1
      obtain ⟨i1, fg, fl, f4⟩ := s1
      have cst2 := state_con ⟨st', cd', sr', su', tk', es', er', os', t', s'', o', ⟨a', b', c'⟩, ⟨a2', b2', c2'⟩⟩
      simp only at fg fl f4 k1
      simp only [fr, sn] at cst2 ⊢
      sym =>
      simp [Zab,Zad,Zam,Zaz,Za0,Za1,Za2,Za3,Za4,Za5,Za9,Zba,Zbb,Zbt,Zb7,Zc3,Zdc,Zdd,Zde,Zdi,Zev,Zew,Zez,Ze0,Ze1,Ze2,Ze3,Ze5,Ze8,Zfc,Zfd,Zfe,Zfh,Zgr,Zgs,Zgt,Zhb,Zhc,Ziu,Ziv,Ziw,Zi6,Zjh,Zji,Zj7,Zky,Zk0,Zk1,Zla,Zlb,Zle,Zlf,Zlh,Zlm,Zlz,Zl2,Zm5,Zm9,Zna,Znb,Zne,Znf,Zng,Zo7,eq_self,true_and,and_true,rd_0,sp_0,sc_len,sc_ok,fz_sc,scF1,flL_sc,callable_53]
      tactic =>
      refine cl none (cst2) trivial ?_
      have n8 : ¬ (8 : Int) < IN fs.length := by simp only [IN]; omega
      have n1 : ¬ st' < 1 := by have := i1.hst; simp only at this; omega
      have n5 : ¬ (5 : Int) < st' := by have := i1.hst; simp only at this; omega
      have ncd : st' ≠ 5 → cd' = 0 := i1.hcd
      by_cases w3 : 3 < st
      · have e4 := f4 w3
        injection e4 with e5 e6
        injection e5 with e7 e8
        have n0 : ¬ 0 < fs.length := by rw [e6]; decide
        clear f4 e6
        subst e7 e8
        by_cases n55 : st' = 5
        · subst n55
          sym =>
          simp [Zaa,Zab,Zad,Zae,Zaf,Zag,Zah,Zal,Zam,Zaz,Za0,Za1,Za2,Za3,Za4,Za5,Za6,Za7,Za8,Za9,Zba,Zbb,Zbd,Zbf,Zb7,Zcn,Zdi,Zev,Zew,Zex,Zez,Ze0,Ze2,Ze5,Zfd,Zfe,Zfh,Zfi,Zfk,Zfl,Zfn,Zf0,Zf1,Zf3,Zhb,Zhc,Zh6,Zh7,Zjq,Zky,Zkz,Zk0,Zk2,Zlz,Zm9,Zna,Znb,Znx,Zo3,Zo7,Zo8,Zo9,eq_self,true_and,n8,w3,n0]
          tactic =>
          refine lpA (i10b src es q i ⟨5, cd', sr', su', tk', es', er', os', t', s'', o', ⟨a', b', c'⟩, ⟨a2', b2', c2'⟩⟩ fs) fs.length [(0, 0), (1, 1)] _ ⟨0, by omega, rfl⟩ (wkA ?_) ?_
          · simp only [sn]
            sym =>
            simp [Za2,Za3,Zez,Zfc,Znr,Zn5,Zpc,Zpg,Zpi,Zpu,Zqf,Zqg,Zqh,Zqi,Zqk,Zql,Zqm,Zqn,eq_self,true_and,and_true,sc_rs]
            tactic =>
            exact rs_self (cB_okI _)
          rintro k3 Q ⟨j, hj, rfl⟩
          simp only [sn]
          by_cases hjs : j < fs.length
          · exfalso; omega
          · sym =>
            simp [Zab,Zad,Zae,Zaf,Zai,Zam,Zan,Zap,Zaq,Zav,Zaw,Zay,Zaz,Za0,Za1,Za2,Za3,Za4,Za5,Za9,Zba,Zbb,Zbf,Zev,Zew,Zez,Ze0,Ze2,Zfd,Zfe,Zfh,Zfn,Zfq,Zf1,Zna,Znb,Znt,Zo7,Zo9,eq_self,true_and,hjs,hw]
            tactic =>
            unfold NextL; refine ⟨(k - 1), [(0, 0), (1, 1)], _, by omega, ⟨i + 1, ⟨5, cd', sr', su', tk', es', er', os', t', s'', o', ⟨a', b', c'⟩, ⟨a2', b2', c2'⟩⟩, by omega, i1, k1.1, k1.2, rfl⟩, wkA ?_⟩
            simp only [sn]
            sym =>
            simp [Za2,Za3,Zez,Zfc,Znr,Zpc,Zpg,Zpi,Zpu,Zqf,Zqg,Zqh,Zqi,Zqk,Zql,Zqm,Zqn,eq_self,true_and,and_true,sc_rs]
            tactic =>
            exact rs_self (cB_okI _)
        · have n0' := ncd n55
          subst n0'
          sym =>
          simp [Zaa,Zab,Zad,Zae,Zaf,Zag,Zah,Zal,Zam,Zaz,Za0,Za1,Za2,Za3,Za4,Za5,Za6,Za7,Za9,Zba,Zbb,Zbd,Zbf,Zb7,Zcn,Zdi,Zev,Zew,Zex,Zez,Ze0,Ze2,Ze5,Zfd,Zfe,Zfh,Zfi,Zfl,Zfn,Zf0,Zf1,Zf3,Zhb,Zhc,Zh6,Zh7,Zjq,Zky,Zkz,Zk0,Zk2,Zlz,Zm9,Zna,Znb,Znx,Zo3,Zo4,Zo7,Zo8,Zo9,eq_self,true_and,n8,w3,n0,n1,n5,n55]
          tactic =>
          refine lpA (i10b src es q i ⟨st', 0, sr', su', tk', es', er', os', t', s'', o', ⟨a', b', c'⟩, ⟨a2', b2', c2'⟩⟩ fs) fs.length [(0, 0), (1, 1)] _ ⟨0, by omega, rfl⟩ (wkA ?_) ?_
          · simp only [sn]
            sym =>
            simp [Za2,Za3,Zez,Zfc,Znr,Zn5,Zpc,Zpg,Zpi,Zpu,Zqf,Zqg,Zqh,Zqi,Zqk,Zql,Zqm,Zqn,eq_self,true_and,and_true,sc_rs]
            tactic =>
            exact rs_self (cB_okI _)
          rintro k3 Q ⟨j, hj, rfl⟩
          simp only [sn]
          by_cases hjs : j < fs.length
          · exfalso; omega
          · sym =>
            simp [Zab,Zad,Zae,Zaf,Zai,Zam,Zan,Zap,Zaq,Zav,Zaw,Zay,Zaz,Za0,Za1,Za2,Za3,Za4,Za5,Za9,Zba,Zbb,Zbf,Zev,Zew,Zez,Ze0,Ze2,Zfd,Zfe,Zfh,Zfn,Zfq,Zf1,Zna,Znb,Znt,Zo7,Zo9,eq_self,true_and,hjs,hw]
            tactic =>
            unfold NextL; refine ⟨(k - 1), [(0, 0), (1, 1)], _, by omega, ⟨i + 1, ⟨st', 0, sr', su', tk', es', er', os', t', s'', o', ⟨a', b', c'⟩, ⟨a2', b2', c2'⟩⟩, by omega, i1, k1.1, k1.2, rfl⟩, wkA ?_⟩
            simp only [sn]
            sym =>
            simp [Za2,Za3,Zez,Zfc,Znr,Zpc,Zpg,Zpi,Zpu,Zqf,Zqg,Zqh,Zqi,Zqk,Zql,Zqm,Zqn,eq_self,true_and,and_true,sc_rs]
            tactic =>
            exact rs_self (cB_okI _)
      · by_cases n55 : st' = 5
        · subst n55
          sym =>
          simp [Zaa,Zab,Zad,Zae,Zaf,Zag,Zah,Zal,Zam,Zaz,Za0,Za1,Za2,Za3,Za4,Za5,Za6,Za7,Zrh,Za8,Za9,Zba,Zbb,Zbd,Zbf,Zb7,Zcn,Zdi,Zev,Zew,Zex,Zez,Ze0,Ze2,Ze5,Zfd,Zfe,Zfh,Zfi,Zfk,Zfl,Zfn,Zf0,Zf1,Zf3,Zhb,Zhc,Zh6,Zh7,Zjq,Zky,Zkz,Zk0,Zk2,Zlz,Zm9,Zna,Znb,Zo3,Zo7,Zo8,Zo9,eq_self,true_and,n8,w3]
          tactic =>
          refine lpA (i10b src es q i ⟨5, cd', sr', su', tk', es', er', os', t', s'', o', ⟨a', b', c'⟩, ⟨a2', b2', c2'⟩⟩ fs) fs.length [(0, 0), (1, 1)] _ ⟨0, by omega, rfl⟩ (wkA ?_) ?_
          · simp only [sn]
            sym =>
            simp [Za2,Za3,Zez,Zfc,Znr,Zn5,Zpc,Zpg,Zpi,Zpu,Zqf,Zqg,Zqh,Zqi,Zqk,Zql,Zqm,Zqn,eq_self,true_and,and_true,sc_rs]
            tactic =>
            exact rs_self (cB_okI _)
          rintro k3 Q ⟨j, hj, rfl⟩
          simp only [sn]
          by_cases hjs : j < fs.length
          · have hwj := w64s j (by omega)
            have cat := cF_at fs j hjs
            have fgj := fg fs[j] (List.getElem_mem hjs)
            generalize fs[j] = g at *
            obtain ⟨lb, hlay⟩ := good_lay fgj i1 hsrc (by rw [k1.1]; exact t3_byt)
            obtain ⟨gk2, gt2, ges2, ger2, go2, gn2, gsu2, gd2, gr2, gc2⟩ := g
            have ft := fgj.t
            have fes := fgj.es
            have fer := fgj.er
            have fk := fgj.k
            have kt' := k1.1
            have ke' := k1.2
            simp only at ft fes fer fk kt' ke'
            subst kt' ke' ft fes fer
            simp only [fr] at cat hlay
            have cep2 := epoch_con ⟨5, cd', sr', su', t3, ges2, ger2, os', t', s'', o', ⟨a', b', c'⟩, ⟨a2', b2', c2'⟩⟩
            simp only [sn] at cep2
            sym =>
            simp [Zaa,Zab,Zad,Zae,Zaf,Zag,Zal,Zam,Zay,Zaz,Za0,Za1,Za2,Za3,Za4,Za5,Za9,Zba,Zbf,Zbt,Zb1,Zcv,Zc3,Zdc,Zdd,Zde,Zev,Zew,Zez,Ze0,Ze1,Ze2,Ze3,Ze5,Ze8,Zfc,Zfd,Zfe,Zfn,Zf1,Zgr,Zgs,Zgt,Zgu,Zg4,Zg6,Zho,Zin,Ziu,Ziv,Ziw,Zi6,Zjh,Zji,Zj7,Zla,Zlb,Zle,Zlf,Zlh,Zlm,Zm5,Zna,Znb,Zne,Znf,Zng,Zns,Znt,Znw,Zo7,Zo8,eq_self,true_and,and_true,fp_f,rb_0,fc_len,fc_ok,fz_fc,fcF1,hjs,cat,cF_length,callable_55]
            tactic =>
            and_intros <;> try (first | omega | rfl | assumption | simp only [IN]; omega)
            refine cl none (hlay) trivial ?_
            sym =>
            simp [Zac,Zad,Zam,Zaz,Za0,Za1,Za2,Za3,Za4,Za5,Za9,Zba,Zbb,Zbc,Zbe,Zbg,Zbi,Zbu,Zbw,Zb7,Zc7,Zc8,Zdf,Zdg,Zdh,Zdi,Zdp,Zdq,Zdr,Zdt,Zdu,Zdv,Zdw,Zdx,Zdy,Zdz,Zd0,Zd1,Zd2,Zec,Zek,Zen,Zeq,Zet,Zev,Zew,Zex,Zez,Ze0,Ze2,Ze5,Ze8,Zfc,Zfd,Zfe,Zfh,Zfi,Zfl,Zfn,Zf0,Zga,Zgc,Zgr,Zgs,Zgt,Zgv,Zgw,Zgx,Zhb,Zhc,Zka,Zky,Zk0,Zk4,Zla,Zlb,Zle,Zlf,Zlh,Zlm,Zlz,Zl2,Zm5,Zm7,Zm9,Zna,Znb,Zne,Znf,Zng,Zo3,Zo7,Zo8,eq_self,true_and,and_true,fc_17,fc_18,rb_1,fc_len,v16,rd_0,sc_len,sc_id,fz_sc,scF1,sk16,eqL_self,rt16,callable_52]
            tactic =>
            refine cl none (cep2) trivial ?_
            rcases fk with ⟨hk, hd⟩ | ⟨hk, d1, d2, o1, o2, dd⟩
            · have nk3 : ¬ gk2 = 3 := by omega
              sym =>
              simp [Zaa,Zab,Zac,Zad,Zae,Zaf,Zal,Zam,Zap,Zav,Zaz,Za0,Za1,Za2,Za3,Za4,Za5,Za9,Zba,Zbb,Zbc,Zbe,Zbf,Zbg,Zbi,Zbu,Zbw,Zc7,Zc8,Zdj,Zdk,Zdo,Zdp,Zdq,Zdr,Zri,Zds,Zdt,Zdu,Zdv,Zdw,Zdx,Zdy,Zdz,Zd0,Zd1,Zd2,Zd3,Zek,Zen,Zer,Zes,Zev,Zew,Zex,Zez,Ze0,Ze2,Ze5,Ze8,Zfc,Zfd,Zfe,Zfh,Zfi,Zfk,Zfl,Zfn,Zfq,Zfz,Zf0,Zga,Zgc,Zgr,Zgs,Zgt,Zgv,Zgw,Zgx,Zjq,Zkv,Zkw,Zkx,Zlz,Zm6,Zna,Znb,Zne,Zok,Zol,Zom,Zor,Zo3,Zo7,Zo8,Zo9,eq_self,true_and,and_true,fc_0,fc_17,fc_len,nk3,hwj]
              tactic =>
              unfold NextL; refine ⟨(k3 - 1), [(0, 0), (1, 1)], _, by omega, ⟨j + 1, by omega, rfl⟩, wkA ?_⟩
              simp only [sn]
              sym =>
              simp [Za2,Za3,Zez,Zfc,Znr,Zpc,Zpg,Zpi,Zpu,Zqf,Zqg,Zqh,Zqi,Zqk,Zql,Zqm,Zqn,eq_self,true_and,and_true,sc_rs]
              tactic =>
              exact rs_self (cB_okI _)
            · subst hk
              have wd : IntKind.u64.wrap (IN gd2.length) = IN gd2.length := by simp only [IN]; rw [wu64]; omega
              have wl : IntKind.u64.wrap (IN src.length) = IN src.length := by simp only [IN]; rw [wu64]; omega
              obtain ⟨hi, ehi⟩ : ∃ hi, hi = go2 + IN gd2.length := ⟨_, rfl⟩
              have o2' : go2 + IN gd2.length ≤ IN src.length := o2
              have whi : IntKind.u64.wrap (go2 + IN gd2.length) = hi := by simp only [IN] at ehi o2' ⊢; rw [wu64]; omega
              have nhi : ¬ IN src.length < hi := by rw [ehi]; omega
              have cns := nsame_con gd2 gd2 (by omega)
              rw [decide_eq_true (rfl : gd2 = gd2)] at cns
              have ecut : List.take gd2.length (List.drop go2.toNat (cB src)) = cB gd2 := by
                have e2 := congrArg cB dd
                rw [cB_take, cB_drop] at e2
                exact e2.symm
              have eln : hi.toNat - go2.toNat = gd2.length := by simp only [IN] at ehi; omega
              sym =>
              simp [Zaa,Zac,Zad,Zae,Zaf,Zal,Zam,Zaz,Za0,Za1,Za2,Za3,Zbc,Zbe,Zbg,Zbi,Zbm,Zbu,Zbw,Zci,Zco,Zc7,Zc8,Zdf,Zdg,Zdh,Zdj,Zdk,Zdo,Zdp,Zdq,Zdr,Zdt,Zdu,Zdv,Zdw,Zdx,Zdy,Zdz,Zd0,Zd1,Zd2,Zd3,Zeb,Zek,Zen,Zeq,Zer,Zes,Zet,Zev,Zew,Zex,Zez,Ze0,Ze2,Ze5,Ze8,Zfc,Zfd,Zfe,Zfh,Zfi,Zfl,Zfn,Zfq,Zfz,Zf0,Zf3,Zga,Zgc,Zgh,Zgi,Zgr,Zgs,Zgt,Zgv,Zgw,Zgx,Zhn,Zho,Zhs,Zht,Zhu,Zh6,Zh7,Zjq,Zkv,Zkw,Zkx,Zla,Zlb,Zle,Zll,Zlz,Zm6,Zna,Znb,Zne,Znf,Zng,Zok,Zol,Zom,Zor,Zo3,Zo7,Zo8,Zo9,eq_self,true_and,and_true,Nat.mul_one,fc_0,fc_17,fc_19,fc_53,fc_len,wd,wl,whi,nhi,ecut,eln,callable_22]
              tactic =>
              have b2 : go2 ≤ hi := by rw [ehi]; simp only [IN]; omega
              refine ⟨⟨by omega, b2, by omega⟩, ?_⟩
              refine cl none (cns) trivial ?_
              sym =>
              simp [Zaa,Zab,Zae,Zaf,Zal,Zam,Zap,Zav,Zaz,Za0,Za1,Za2,Za3,Za4,Za5,Za9,Zba,Zbb,Zbe,Zbf,Zbk,Zc7,Zc8,Zdj,Zdk,Zdo,Zdp,Zdq,Zdr,Zdt,Zdu,Zdv,Zd0,Zd1,Zd2,Zev,Zew,Zex,Zez,Ze0,Ze2,Zfd,Zfe,Zfh,Zfi,Zfl,Zfn,Zfq,Zgd,Zgg,Zjw,Zlz,Zna,Znb,Zne,Zo3,Zo7,eq_self,true_and,and_true,hwj]
              tactic =>
              unfold NextL; refine ⟨(k3 - 1), [(0, 0), (1, 1)], _, by omega, ⟨j + 1, by omega, rfl⟩, wkA ?_⟩
              simp only [sn]
              sym =>
              simp [Za2,Za3,Zez,Zfc,Znr,Zpc,Zpg,Zpi,Zpu,Zqf,Zqg,Zqh,Zqi,Zqk,Zql,Zqm,Zqn,eq_self,true_and,and_true,sc_rs]
              tactic =>
              exact rs_self (cB_okI _)
          · sym =>
            simp [Zab,Zad,Zae,Zaf,Zai,Zam,Zan,Zap,Zaq,Zav,Zaw,Zay,Zaz,Za0,Za1,Za2,Za3,Za4,Za5,Za9,Zba,Zbb,Zbf,Zev,Zew,Zez,Ze0,Ze2,Zfd,Zfe,Zfh,Zfn,Zfq,Zf1,Zna,Znb,Znt,Zo7,Zo9,eq_self,true_and,hjs,hw]
            tactic =>
            unfold NextL; refine ⟨(k - 1), [(0, 0), (1, 1)], _, by omega, ⟨i + 1, ⟨5, cd', sr', su', tk', es', er', os', t', s'', o', ⟨a', b', c'⟩, ⟨a2', b2', c2'⟩⟩, by omega, i1, k1.1, k1.2, rfl⟩, wkA ?_⟩
            simp only [sn]
            sym =>
            simp [Za2,Za3,Zez,Zfc,Znr,Zpc,Zpg,Zpi,Zpu,Zqf,Zqg,Zqh,Zqi,Zqk,Zql,Zqm,Zqn,eq_self,true_and,and_true,sc_rs]
            tactic =>
            exact rs_self (cB_okI _)
        · have n0 := ncd n55
          subst n0
          sym =>
          simp [Zaa,Zab,Zad,Zae,Zaf,Zag,Zah,Zal,Zam,Zaz,Za0,Za1,Za2,Za3,Za4,Za5,Za6,Za7,Zrh,Za8,Za9,Zba,Zbb,Zbd,Zbf,Zb7,Zcn,Zdi,Zev,Zew,Zex,Zez,Ze0,Ze2,Ze5,Zfd,Zfe,Zfh,Zfi,Zfk,Zfl,Zfn,Zf0,Zf1,Zf3,Zhb,Zhc,Zh6,Zh7,Zjq,Zky,Zkz,Zk0,Zk2,Zlz,Zm9,Zna,Znb,Zo3,Zo4,Zo7,Zo8,Zo9,eq_self,true_and,n8,w3,n1,n5,n55]
          tactic =>
          refine lpA (i10b src es q i ⟨st', 0, sr', su', tk', es', er', os', t', s'', o', ⟨a', b', c'⟩, ⟨a2', b2', c2'⟩⟩ fs) fs.length [(0, 0), (1, 1)] _ ⟨0, by omega, rfl⟩ (wkA ?_) ?_
          · simp only [sn]
            sym =>
            simp [Za2,Za3,Zez,Zfc,Znr,Zn5,Zpc,Zpg,Zpi,Zpu,Zqf,Zqg,Zqh,Zqi,Zqk,Zql,Zqm,Zqn,eq_self,true_and,and_true,sc_rs]
            tactic =>
            exact rs_self (cB_okI _)
          rintro k3 Q ⟨j, hj, rfl⟩
          simp only [sn]
          by_cases hjs : j < fs.length
          · have hwj := w64s j (by omega)
            have cat := cF_at fs j hjs
            have fgj := fg fs[j] (List.getElem_mem hjs)
            generalize fs[j] = g at *
            obtain ⟨lb, hlay⟩ := good_lay fgj i1 hsrc (by rw [k1.1]; exact t3_byt)
            obtain ⟨gk2, gt2, ges2, ger2, go2, gn2, gsu2, gd2, gr2, gc2⟩ := g
            have ft := fgj.t
            have fes := fgj.es
            have fer := fgj.er
            have fk := fgj.k
            have kt' := k1.1
            have ke' := k1.2
            simp only at ft fes fer fk kt' ke'
            subst kt' ke' ft fes fer
            simp only [fr] at cat hlay
            have cep2 := epoch_con ⟨st', 0, sr', su', t3, ges2, ger2, os', t', s'', o', ⟨a', b', c'⟩, ⟨a2', b2', c2'⟩⟩
            simp only [sn] at cep2
            sym =>
            simp [Zaa,Zab,Zad,Zae,Zaf,Zag,Zal,Zam,Zay,Zaz,Za0,Za1,Za2,Za3,Za4,Za5,Za9,Zba,Zbf,Zbt,Zb1,Zcv,Zc3,Zdc,Zdd,Zde,Zev,Zew,Zez,Ze0,Ze1,Ze2,Ze3,Ze5,Ze8,Zfc,Zfd,Zfe,Zfn,Zf1,Zgr,Zgs,Zgt,Zgu,Zg4,Zg6,Zho,Zin,Ziu,Ziv,Ziw,Zi6,Zjh,Zji,Zj7,Zla,Zlb,Zle,Zlf,Zlh,Zlm,Zm5,Zna,Znb,Zne,Znf,Zng,Zns,Znt,Znw,Zo7,Zo8,eq_self,true_and,and_true,fp_f,rb_0,fc_len,fc_ok,fz_fc,fcF1,hjs,cat,cF_length,callable_55]
            tactic =>
            and_intros <;> try (first | omega | rfl | assumption | simp only [IN]; omega)
            refine cl none (hlay) trivial ?_
            sym =>
            simp [Zac,Zad,Zam,Zaz,Za0,Za1,Za2,Za3,Za4,Za5,Za9,Zba,Zbb,Zbc,Zbe,Zbg,Zbi,Zbu,Zbw,Zb7,Zc7,Zc8,Zdf,Zdg,Zdh,Zdi,Zdp,Zdq,Zdr,Zdt,Zdu,Zdv,Zdw,Zdx,Zdy,Zdz,Zd0,Zd1,Zd2,Zec,Zek,Zen,Zeq,Zet,Zev,Zew,Zex,Zez,Ze0,Ze2,Ze5,Ze8,Zfc,Zfd,Zfe,Zfh,Zfi,Zfl,Zfn,Zf0,Zga,Zgc,Zgr,Zgs,Zgt,Zgv,Zgw,Zgx,Zhb,Zhc,Zka,Zky,Zk0,Zk4,Zla,Zlb,Zle,Zlf,Zlh,Zlm,Zlz,Zl2,Zm5,Zm7,Zm9,Zna,Znb,Zne,Znf,Zng,Zo3,Zo7,Zo8,eq_self,true_and,and_true,fc_17,fc_18,rb_1,fc_len,v16,rd_0,sc_len,sc_id,fz_sc,scF1,sk16,eqL_self,rt16,callable_52]
            tactic =>
            refine cl none (cep2) trivial ?_
            rcases fk with ⟨hk, hd⟩ | ⟨hk, d1, d2, o1, o2, dd⟩
            · have nk3 : ¬ gk2 = 3 := by omega
              sym =>
              simp [Zaa,Zab,Zac,Zad,Zae,Zaf,Zal,Zam,Zap,Zav,Zaz,Za0,Za1,Za2,Za3,Za4,Za5,Za9,Zba,Zbb,Zbc,Zbe,Zbf,Zbg,Zbi,Zbu,Zbw,Zc7,Zc8,Zdj,Zdk,Zdo,Zdp,Zdq,Zdr,Zri,Zds,Zdt,Zdu,Zdv,Zdw,Zdx,Zdy,Zdz,Zd0,Zd1,Zd2,Zd3,Zek,Zen,Zer,Zes,Zev,Zew,Zex,Zez,Ze0,Ze2,Ze5,Ze8,Zfc,Zfd,Zfe,Zfh,Zfi,Zfk,Zfl,Zfn,Zfq,Zfz,Zf0,Zga,Zgc,Zgr,Zgs,Zgt,Zgv,Zgw,Zgx,Zjq,Zkv,Zkw,Zkx,Zlz,Zm6,Zna,Znb,Zne,Zok,Zol,Zom,Zor,Zo3,Zo7,Zo8,Zo9,eq_self,true_and,and_true,fc_0,fc_17,fc_len,nk3,hwj]
              tactic =>
              unfold NextL; refine ⟨(k3 - 1), [(0, 0), (1, 1)], _, by omega, ⟨j + 1, by omega, rfl⟩, wkA ?_⟩
              simp only [sn]
              sym =>
              simp [Za2,Za3,Zez,Zfc,Znr,Zpc,Zpg,Zpi,Zpu,Zqf,Zqg,Zqh,Zqi,Zqk,Zql,Zqm,Zqn,eq_self,true_and,and_true,sc_rs]
              tactic =>
              exact rs_self (cB_okI _)
            · subst hk
              have wd : IntKind.u64.wrap (IN gd2.length) = IN gd2.length := by simp only [IN]; rw [wu64]; omega
              have wl : IntKind.u64.wrap (IN src.length) = IN src.length := by simp only [IN]; rw [wu64]; omega
              obtain ⟨hi, ehi⟩ : ∃ hi, hi = go2 + IN gd2.length := ⟨_, rfl⟩
              have o2' : go2 + IN gd2.length ≤ IN src.length := o2
              have whi : IntKind.u64.wrap (go2 + IN gd2.length) = hi := by simp only [IN] at ehi o2' ⊢; rw [wu64]; omega
              have nhi : ¬ IN src.length < hi := by rw [ehi]; omega
              have cns := nsame_con gd2 gd2 (by omega)
              rw [decide_eq_true (rfl : gd2 = gd2)] at cns
              have ecut : List.take gd2.length (List.drop go2.toNat (cB src)) = cB gd2 := by
                have e2 := congrArg cB dd
                rw [cB_take, cB_drop] at e2
                exact e2.symm
              have eln : hi.toNat - go2.toNat = gd2.length := by simp only [IN] at ehi; omega
              sym =>
              simp [Zaa,Zac,Zad,Zae,Zaf,Zal,Zam,Zaz,Za0,Za1,Za2,Za3,Zbc,Zbe,Zbg,Zbi,Zbm,Zbu,Zbw,Zci,Zco,Zc7,Zc8,Zdf,Zdg,Zdh,Zdj,Zdk,Zdo,Zdp,Zdq,Zdr,Zdt,Zdu,Zdv,Zdw,Zdx,Zdy,Zdz,Zd0,Zd1,Zd2,Zd3,Zeb,Zek,Zen,Zeq,Zer,Zes,Zet,Zev,Zew,Zex,Zez,Ze0,Ze2,Ze5,Ze8,Zfc,Zfd,Zfe,Zfh,Zfi,Zfl,Zfn,Zfq,Zfz,Zf0,Zf3,Zga,Zgc,Zgh,Zgi,Zgr,Zgs,Zgt,Zgv,Zgw,Zgx,Zhn,Zho,Zhs,Zht,Zhu,Zh6,Zh7,Zjq,Zkv,Zkw,Zkx,Zla,Zlb,Zle,Zll,Zlz,Zm6,Zna,Znb,Zne,Znf,Zng,Zok,Zol,Zom,Zor,Zo3,Zo7,Zo8,Zo9,eq_self,true_and,and_true,Nat.mul_one,fc_0,fc_17,fc_19,fc_53,fc_len,wd,wl,whi,nhi,ecut,eln,callable_22]
              tactic =>
              have b2 : go2 ≤ hi := by rw [ehi]; simp only [IN]; omega
              refine ⟨⟨by omega, b2, by omega⟩, ?_⟩
              refine cl none (cns) trivial ?_
              sym =>
              simp [Zaa,Zab,Zae,Zaf,Zal,Zam,Zap,Zav,Zaz,Za0,Za1,Za2,Za3,Za4,Za5,Za9,Zba,Zbb,Zbe,Zbf,Zbk,Zc7,Zc8,Zdj,Zdk,Zdo,Zdp,Zdq,Zdr,Zdt,Zdu,Zdv,Zd0,Zd1,Zd2,Zev,Zew,Zex,Zez,Ze0,Ze2,Zfd,Zfe,Zfh,Zfi,Zfl,Zfn,Zfq,Zgd,Zgg,Zjw,Zlz,Zna,Znb,Zne,Zo3,Zo7,eq_self,true_and,and_true,hwj]
              tactic =>
              unfold NextL; refine ⟨(k3 - 1), [(0, 0), (1, 1)], _, by omega, ⟨j + 1, by omega, rfl⟩, wkA ?_⟩
              simp only [sn]
              sym =>
              simp [Za2,Za3,Zez,Zfc,Znr,Zpc,Zpg,Zpi,Zpu,Zqf,Zqg,Zqh,Zqi,Zqk,Zql,Zqm,Zqn,eq_self,true_and,and_true,sc_rs]
              tactic =>
              exact rs_self (cB_okI _)
          · sym =>
            simp [Zab,Zad,Zae,Zaf,Zai,Zam,Zan,Zap,Zaq,Zav,Zaw,Zay,Zaz,Za0,Za1,Za2,Za3,Za4,Za5,Za9,Zba,Zbb,Zbf,Zev,Zew,Zez,Ze0,Ze2,Zfd,Zfe,Zfh,Zfn,Zfq,Zf1,Zna,Znb,Znt,Zo7,Zo9,eq_self,true_and,hjs,hw]
            tactic =>
            unfold NextL; refine ⟨(k - 1), [(0, 0), (1, 1)], _, by omega, ⟨i + 1, ⟨st', 0, sr', su', tk', es', er', os', t', s'', o', ⟨a', b', c'⟩, ⟨a2', b2', c2'⟩⟩, by omega, i1, k1.1, k1.2, rfl⟩, wkA ?_⟩
            simp only [sn]
            sym =>
            simp [Za2,Za3,Zez,Zfc,Znr,Zpc,Zpg,Zpi,Zpu,Zqf,Zqg,Zqh,Zqi,Zqk,Zql,Zqm,Zqn,eq_self,true_and,and_true,sc_rs]
            tactic =>
            exact rs_self (cB_okI _)
  · sym =>
    simp [Zab,Zad,Zae,Zaf,Zai,Zam,Zan,Zaq,Zaw,Zay,Za4,Za5,Za9,Zba,Zbf,Zdc,Zdd,Zde,Zev,Zew,Zez,Ze0,Ze2,Zfd,Zfe,Zfn,Zf1,Zla,Zna,Znb,Zne,Znf,Znt,Zo7,Zo9,eq_self,true_and,h,callable_46]
    tactic =>
    and_intros <;> try (first | omega | rfl | assumption | simp only [IN]; omega)
    refine cl none (alive_con) trivial ?_
    sym =>
    simp [Zak,Zam,Zaz,Za0,Za1,Za2,Za3,Za4,Za5,Za9,Zba,Zbb,Zdi,Zev,Zez,Ze0,Ze2,Zfd,Zfe,Zfh,Zjw,Zlz,Zmt,Zmv,Zmw,Zmx,Zmz,Zm2,Zo7,eq_self,true_and]
    tactic =>
    refine endA ?_
    sym =>
    simp [Zpc,eq_self]
theorem says_law (src : List Int) (s : Int) (l : List (Bool × Bool × Bool × RF)) (hsrc : ∀ x ∈ src, IntKind.u8.min ≤ x ∧ x ≤ IntKind.u8.max) (hs : IntKind.u32.min ≤ s ∧ s ≤ IntKind.u32.max)
    (hl : ∀ x ∈ l, rok x.2.2.2 ∧ IntKind.u32.min ≤ x.2.2.2.2.2.1.2 ∧ x.2.2.2.2.2.1.2 ≤ IntKind.u32.max) :
    Con Try.prog 10 [] [.fz src.length (src.flatMap fun n : Int => [AV.sc (.int .u8 n)]), .sc (.int .u32 s), .fz l.length (l.flatMap (fun x => [AV.sc (.bool x.1)] ++ ([AV.sc (.bool x.2.1)] ++ ([AV.sc (.bool x.2.2.1)] ++ encF x.2.2.2))))] [] (Bo true) := by
  have m8 : IntKind.u8.min = 0 := by decide
  have x8 : IntKind.u8.max = 255 := by decide
  have m32 : IntKind.u32.min = 0 := by decide
  have x32 : IntKind.u32.max = 4294967295 := by decide
  rw [m32, x32] at hs
  rw [flat_cB, encT_all l (fun x hx => (hl x hx).1)]
  have := says_con src s (l.map fun x => (x.1, x.2.1, x.2.2.1, toF x.2.2.2)) (fun x hx => by have := hsrc x hx; rw [m8, x8] at this; omega) (by omega) (fun x hx => by
    obtain ⟨y, hy, rfl⟩ := List.mem_map.1 hx
    obtain ⟨h1, h2⟩ := hl y hy
    rw [m32, x32] at h2
    show 0 ≤ (toF y.2.2.2).er ∧ (toF y.2.2.2).er < 4294967296
    unfold toF
    rw [dif_pos h1]
    show 0 ≤ y.2.2.2.2.2.1.2 ∧ y.2.2.2.2.2.1.2 < 4294967296
    omega)
  rw [show fT (l.map fun x => (x.1, x.2.1, x.2.2.1, toF x.2.2.2)) = .fz l.length (cT (l.map fun x => (x.1, x.2.1, x.2.2.1, toF x.2.2.2))) from by unfold fT; rw [List.length_map]] at this
  exact this
end Go.Proofs.Ytbmdahhhgpbchaa.SaA
