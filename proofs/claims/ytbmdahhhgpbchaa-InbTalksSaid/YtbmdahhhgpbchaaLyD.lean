import Derived.Test.YtbmdahhhgpbchaaLyC
import Derived.Test.YtbmdahhhgpbchaaFrmM
namespace Go.Proofs.Ytbmdahhhgpbchaa.LyD
open Go Go.Sim Go.Sim.E Go.RowKit Go.Proofs Go.Proofs.Ytbmdahhhgpbchaa.Cod Go.Proofs.Ytbmdahhhgpbchaa.Tab Go.Proofs.Ytbmdahhhgpbchaa.Bse Go.Proofs.Ytbmdahhhgpbchaa.SpnP Go.Proofs.Ytbmdahhhgpbchaa.SwA Go.Proofs.Ytbmdahhhgpbchaa.SwB Go.Proofs.Ytbmdahhhgpbchaa.SwC Go.Proofs.Ytbmdahhhgpbchaa.SwS Go.Proofs.Ytbmdahhhgpbchaa.SwD Go.Proofs.Ytbmdahhhgpbchaa.SwF Go.Proofs.Ytbmdahhhgpbchaa.SwG Go.Proofs.Ytbmdahhhgpbchaa.SwL Go.Proofs.Ytbmdahhhgpbchaa.ObA Go.Proofs.Ytbmdahhhgpbchaa.ObB Go.Proofs.Ytbmdahhhgpbchaa.ObC Go.Proofs.Ytbmdahhhgpbchaa.SnA Go.Proofs.Ytbmdahhhgpbchaa.SnB Go.Proofs.Ytbmdahhhgpbchaa.LyA Go.Proofs.Ytbmdahhhgpbchaa.LyB Go.Proofs.Ytbmdahhhgpbchaa.LyC
set_option linter.unusedVariables false
set_option linter.unusedSimpArgs false
set_option maxRecDepth 100000
set_option maxHeartbeats 4000000
def mkF (es er : Int) : Int := (es % 4 + er % 4) % 4
/-! ### a contract made by hand turned into one of the engine -/
theorem con_sc {P : Program} {f : FuncId} {args : List AV} {cargs0 : Array Value} {v : Value} (hargs : ∀ W S L (cargs : Array Value), VRs W S L args cargs.toList → cargs = cargs0)
    (h : ∀ W, Calls P f cargs0 W fun e W' => e = .returned v ∧ Below W.heap.size W W') : Con P f [] args [] (.sc v) := by
  intro W I S L cargs hn hHR hv
  obtain rfl := hargs _ _ _ _ hv
  refine (h W).mono ?_
  rintro e W' ⟨rfl, hb⟩
  have hL : ∀ id, L id = none := fun id => hn id rfl
  refine ⟨v, L, rfl, fun id y h => .inl h, fun id _ _ => hL id, ⟨fun id o ho => (by cases ho), fun id B hB => (by rw [hL] at hB; cases hB), fun id id' B B' hB _ => (by rw [hL] at hB; cases hB), fun id B hB => (by rw [hL] at hB; cases hB), hHR.kept, ⟨hb.os, hb.tape, hb.output, hb.size, fun k hk _ => hb.block k hk, NcK.of_lt hb.block⟩⟩, .sc _ _⟩
theorem vrs_ag2 {W : World} {S : Nat → Nat → Prop} {L : Lay} {a b : Value} {cargs : Array Value} (h : VRs W S L [.ag [.sc a, .sc b]] cargs.toList) : cargs = #[.agg #[a, b]] := by
  obtain ⟨h1, h2⟩ := h
  obtain ⟨v, rfl⟩ : ∃ v, cargs = #[v] := by
    obtain ⟨l⟩ := cargs
    match l, h1 with
    | [v], _ => exact ⟨v, rfl⟩
  have h3 := h2 0 _ rfl
  obtain ⟨vs, g, e, h0, h1', h2'⟩ := h3.ag_eq
  have e' : v = .agg vs := e
  subst e'
  obtain ⟨l⟩ := vs
  match l, h0 with
  | [x, y], _ =>
    have hx := h1' 0 (by simp)
    have hy := h1' 1 (by simp)
    have gx := (h2' 0 _ rfl).sc_eq
    have gy := (h2' 1 _ rfl).sc_eq
    simp at hx hy
    rw [hx, hy, gx, gy]
theorem mark_con (es er : Int) (h1 : 0 ≤ es) (h2 : 0 ≤ er) : Con Try.prog 91 [] [.ag [U es, U er]] [] (Y (mkF es er)) :=
  con_sc (fun _ _ _ _ h => vrs_ag2 h) (fun W => FrmM.Mark_calls es er h1 h2 W)
/-- What stands ahead of a frame's fields. -/
def hdB (f : Fm) : List Int := [84, 87, f.k % 256, mkF f.es f.er] ++ f.t.1 ++ beN 4 f.es ++ beN 4 f.er
/-- A frame's datagram, and the error. -/
def layF (f : Fm) : List Int × Int := if mayF f = 0 then (slB (hdB f ++ bodyF (bare f)), 0) else ([], mayF f)
theorem fc_all (k : Int) (t : V 16) (es er o n : Int) (su : V 32) (d r : AV) (c : Int) : (fc k t es er o n su d r c).all isF = (isF d && isF r) := by
  rw [fc_split, List.all_append]
  have e : (I k :: (cB t.1 ++ (U es :: U er :: L o :: L n :: cB su.1))).all isF = true := List.all_eq_true.2 (fun x hx => fc_prI k t es er o n su x hx)
  have e2 : [d, r, I c].all isF = (isF d && (isF r && (true && true))) := rfl
  rw [e, e2, Bool.true_and, Bool.and_true, Bool.and_true]
theorem bare_len (f : Fm) : (bare f).d.length ≤ f.d.length ∧ (bare f).r.length ≤ f.r.length ∧ (bare f).k = f.k := by
  unfold bare
  repeat' split
  all_goals simp
theorem rgB_byt (l : List Rg) : byt8 (rgB l) := by
  intro x hx
  obtain ⟨r, _, h⟩ := List.mem_flatMap.1 hx
  exact byt8_app (beN_byt 8 r.1) (beN_byt 8 r.2) x h
theorem bodyF_byt (f : Fm) (h1 : byt8 f.su.1) (h2 : byt8 f.d) : byt8 (bodyF f) := by
  unfold bodyF
  repeat' split
  · exact byt8_app (beN_byt _ _) h1
  · exact beN_byt _ _
  · intro x hx; simp at hx; omega
  · exact byt8_app (byt8_app (beN_byt _ _) h2) (rgB_byt _)
theorem bodyF_len (f : Fm) : (bodyF f).length ≤ 40 + f.d.length + 16 * f.r.length := by
  unfold bodyF
  have := f.su.2
  repeat' split
  all_goals simp [beN_length, rgB_length, this]
  all_goals omega
theorem z32_byt : byt8 z32.1 := by
  intro x hx
  rw [List.eq_of_mem_replicate hx]; omega
theorem bare_byt (f : Fm) (h1 : byt8 f.su.1) (h2 : byt8 f.d) : byt8 (bare f).su.1 ∧ byt8 (bare f).d := by
  have hn : byt8 [] := fun x hx => by cases hx
  unfold bare
  repeat' split
  all_goals exact ⟨by first | exact h1 | exact z32_byt, by first | exact h2 | exact hn⟩
theorem hdB_byt (f : Fm) (h : byt8 f.t.1) : byt8 (hdB f) := by
  refine byt8_app (byt8_app (byt8_app ?_ h) (beN_byt _ _)) (beN_byt _ _)
  intro x hx
  simp only [List.mem_cons, List.not_mem_nil, or_false, mkF] at hx
  omega
theorem flay_con (f : Fm) (hd : f.d.length ≤ 5000) (hr : f.r.length ≤ 5000) (ht : byt8 f.t.1) (hs : byt8 f.su.1) (hdb : byt8 f.d) (h1 : 0 ≤ f.es ∧ f.es < 4294967296) (h2 : 0 ≤ f.er ∧ f.er < 4294967296) : Con Try.prog 55 [] [.ag (fr f)] [] (.tu [fB (layF f).1, I (layF f).2]) := by
  obtain ⟨k, t, es, er, o, n, su, d, r, c⟩ := f
  simp only at hd hr h1 h2
  have hmay := may_con ⟨k, t, es, er, o, n, su, d, r, c⟩ (Nat.le_trans hr (by decide))
  have hhb := hdB_byt ⟨k, t, es, er, o, n, su, d, r, c⟩ ht
  have hbb := bare_byt ⟨k, t, es, er, o, n, su, d, r, c⟩ hs hdb
  have hbb2 := bodyF_byt _ hbb.1 hbb.2
  have hbln := bodyF_len (bare ⟨k, t, es, er, o, n, su, d, r, c⟩)
  have hmark := mark_con es er h1.1 h2.1
  obtain ⟨R, hR⟩ : ∃ R, R = layF ⟨k, t, es, er, o, n, su, d, r, c⟩ := ⟨_, rfl⟩
  rw [← hR]
  unfold layF at hR
  simp only [fr] at hmay ⊢
  obtain ⟨M, hM⟩ : ∃ M, M = mayF ⟨k, t, es, er, o, n, su, d, r, c⟩ := ⟨_, rfl⟩
  rw [← hM] at hmay hR
  refine con_j b55 rfl ?_
  sym =>
  simp [Zab,Zad,Zam,Zaz,Za0,Za1,Za2,Za3,Za4,Za5,Za9,Zba,Zbb,Zbt,Zcx,Zdc,Zdd,Zde,Zev,Zew,Zez,Ze0,Ze2,Ze3,Ze5,Ze8,Zfc,Zfd,Zfe,Zfh,Zgr,Zgs,Zgt,Zio,Zip,Zi6,Zla,Zlb,Zle,Zlf,Zlh,Zlm,Zm5,Zna,Znb,Zne,Znf,Zng,Zos,Zot,Zo7,eq_self,true_and,and_true,rb_0,fc_len,fz_fc,fcF1,callable_90]
  tactic =>
  refine cl none (hmay) trivial ?_
  by_cases h0 : ¬ (M = 0)
  · rw [if_neg h0] at hR
    subst hR
    sym =>
    simp [Zab,Zad,Zae,Zaf,Zak,Zal,Zam,Zao,Zaz,Za0,Za1,Za2,Za3,Za4,Za5,Za9,Zba,Zbb,Zbf,Zdi,Zev,Zew,Zez,Ze0,Ze2,Zfd,Zfe,Zfh,Zfn,Zf0,Zjr,Zlz,Zmt,Zmv,Zmw,Zmx,Zmz,Zm3,Zna,Znb,Zof,Zog,Zo4,Zo7,Zo9,eq_self,true_and,h0]
    tactic =>
    refine endA ?_
    sym =>
    simp [Zpb,Zpw,Zp9,Zqd,Zqe,eq_self,true_and,and_true]
    tactic =>
    rfl
  replace h0 := Classical.not_not.1 h0
  rw [if_pos h0] at hR
  subst h0
  have hwk := w8u k
  sym =>
  simp [Zaa,Zab,Zac,Zad,Zae,Zaf,Zal,Zam,Zaz,Za0,Za1,Za2,Za3,Za4,Za5,Za9,Zba,Zbb,Zbf,Zbm,Zbs,Zbu,Zbw,Zc0,Zc7,Zc8,Zc9,Zdf,Zdg,Zdh,Zdi,Zdp,Zdt,Zdu,Zdv,Zdw,Zdx,Zdy,Zdz,Zd0,Zd1,Zd2,Zd3,Zeh,Zek,Zen,Zeq,Zer,Zes,Zet,Zev,Zew,Zez,Ze0,Ze2,Ze3,Ze5,Ze8,Ze9,Zfc,Zfd,Zfe,Zfh,Zfn,Zf0,Zgh,Zgi,Zgo,Zgp,Zgq,Zgr,Zgs,Zgt,Zgv,Zgw,Zgx,Zhf,Zhg,Zhh,Ziq,Zir,Zi7,Zjr,Zla,Zlb,Zlc,Zld,Zle,Zlf,Zlh,Zlk,Zlz,Zm5,Zm6,Zm7,Zna,Znb,Zne,Znf,Zng,Znn,Zno,Znp,Zo3,Zo7,Zo8,List.length_append,eq_self,true_and,and_true,fc_0,fc_17,fc_18,fc_len,hwk,callable_91]
  tactic =>
  and_intros <;> try (first | omega | rfl | assumption | simp only [IN]; omega)
  refine cl none (hmark) trivial ?_
  obtain ⟨h1', hh1⟩ : ∃ h1', h1' = [84, 87, k % 256, mkF es er] ++ t.1 := ⟨_, rfl⟩
  have hc : Y 84 :: Y 87 :: Y (k % 256) :: Y (mkF es er) :: cB t.1 = cB h1' := by rw [hh1]; rfl
  have hl1 : h1'.length = 20 := by rw [hh1, List.length_append, t.2]; rfl
  have hq := cB_length h1'
  rw [hl1] at hq
  have htF := cB_okF t.1
  have hI := cB_okI h1'
  have we : IntKind.u64.wrap es = es := by rw [wu64]; omega
  have wr : IntKind.u64.wrap er = er := by rw [wu64]; omega
  sym =>
  simp [Zab,Zac,Zad,Zam,Zaz,Za0,Za1,Za2,Za3,Za4,Za5,Za9,Zba,Zbb,Zbc,Zbm,Zbu,Zbv,Zbw,Zcj,Zc0,Zc5,Zc6,Zc7,Zc8,Zc9,Zdj,Zdk,Zdm,Zrk,Zrl,Zrm,Zrn,Zro,Zrq,Zrr,Zrs,Zru,Zrv,Zrw,Zrx,Zry,Zrz,Zr0,Zr2,Zr9,Zsd,Zse,Zsf,Zsg,Zsh,Zsj,Zdo,Zdp,Zdt,Zdu,Zdv,Zdw,Zdx,Zdy,Zdz,Zd0,Zd1,Zd2,Zeh,Zek,Zeq,Zet,Zev,Zew,Zez,Ze0,Ze2,Ze3,Ze4,Ze5,Ze8,Ze9,Zfc,Zfd,Zfe,Zff,Zfg,Zfh,Zgh,Zgi,Zgr,Zgs,Zgt,Zgv,Zgw,Zgx,Zhf,Zhg,Zhh,Zhm,Zh1,Zh2,Zh3,Ziq,Zir,Zix,Ziz,Zi0,Zi2,Zi3,Zi7,Zjj,Zjk,Zjo,Zjr,Zlj,Zlt,Zlx,Zlz,Zm6,Zm9,Zna,Znb,Znc,Znd,Zne,Znf,Zng,Znh,Znl,Znm,Znn,Zno,Znp,Zn5,Zob,Zrd,Zo7,List.length_append,eq_self,true_and,and_true,fc_17,fc_len,hc,hq,fc_tok,we,wr,callable_92]
  tactic =>
  and_intros <;> try (first | omega | rfl | assumption | simp only [IN]; omega)
  obtain ⟨h2', hh2⟩ : ∃ h2', h2' = h1' ++ beN 4 es := ⟨_, rfl⟩
  obtain ⟨h3', hh3⟩ : ∃ h3', h3' = h2' ++ beN 4 er := ⟨_, rfl⟩
  have hl2 : h2'.length = 24 := by rw [hh2, List.length_append, hl1, beN_length]
  have hl3 : h3'.length = 28 := by rw [hh3, List.length_append, hl2, beN_length]
  have hn1 := number_con' h1' h2' es 4 20 (by omega) hl1 (by omega) hh2 24 rfl 4 rfl
  have hn2 := number_con' h2' h3' er 4 24 (by omega) hl2 (by omega) hh3 28 rfl 4 rfl
  have hI2 := cB_okI h2'
  have hI3 := cB_okI h3'
  have hq2 := cB_length h2'
  rw [hl2] at hq2
  have hq3 := cB_length h3'
  rw [hl3] at hq3
  refine clG [none] (some ⟨cB h2', 1, 0⟩) hn1 rfl ⟨trivial, cB_okI _, rfl⟩ ?_
  sym =>
  simp [Za2,Za3,Zbm,Zbu,Zbw,Zc7,Zc8,Zdm,Zrk,Zrl,Zrm,Zrn,Zro,Zrq,Zrr,Zrs,Zru,Zrv,Zrw,Zrx,Zry,Zrz,Zr0,Zr2,Zr9,Zsd,Zse,Zsf,Zsg,Zsh,Zsj,Zsm,Zsn,Zso,Zsq,Zss,Zsy,Zth,Zti,Zdp,Zdt,Zdu,Zdv,Zdw,Zdx,Zdy,Zdz,Zd0,Zd1,Zd2,Zeh,Zek,Zeq,Zet,Zev,Zew,Zez,Ze0,Ze2,Ze5,Ze8,Zfc,Zfd,Zfe,Zff,Zfg,Zgh,Zgi,Zgr,Zgs,Zgt,Zgv,Zgw,Zgx,Zlj,Zlt,Zlx,Zl2,Zm6,Zm9,Znc,Zne,Znf,Zng,Znh,Zo7,eq_self,true_and,and_true,fc_18,fc_len,we,wr,hq2,callable_92]
  tactic =>
  and_intros <;> try (first | omega | rfl | assumption | simp only [IN]; omega)
  refine clG [none] (some ⟨cB h3', 1, 0⟩) hn2 rfl ⟨trivial, cB_okI _, rfl⟩ ?_
  have hbare := bare_con ⟨k, t, es, er, o, n, su, d, r, c⟩ (Nat.le_trans hd (by decide)) (Nat.le_trans hr (by decide))
  have hbl := bare_len ⟨k, t, es, er, o, n, su, d, r, c⟩
  simp only at hbl
  obtain ⟨G, hG⟩ : ∃ G, G = bare ⟨k, t, es, er, o, n, su, d, r, c⟩ := ⟨_, rfl⟩
  rw [← hG] at hbare hbl hR hbb2 hbln
  have hbody := body_con h3' G (by omega) (by omega) (by omega) (28 + (bodyF G).length) (by rw [hl3])
  obtain ⟨k', t', es', er', o', n', su', d', r', c'⟩ := G
  simp only [fr] at hbare hbody
  sym =>
  simp [Zab,Zad,Zam,Zaz,Za0,Za1,Za2,Za3,Za5,Za9,Zba,Zbb,Zbc,Zbt,Zc7,Zc8,Zdc,Zdd,Zde,Zsm,Zsn,Zso,Zsq,Zss,Zsy,Zth,Zti,Zdo,Zdp,Zdt,Zdu,Zdv,Zd0,Zd1,Zeh,Zev,Zew,Zez,Ze0,Ze2,Ze5,Ze8,Zfc,Zfd,Zfe,Zff,Zfg,Zfh,Zgr,Zgs,Zgt,Zla,Zlb,Zle,Zlf,Zlh,Zlm,Zl2,Zm5,Zna,Znb,Zne,Znf,Zng,Zo7,eq_self,true_and,and_true,rb_0,fc_len,fz_fc,fcF1,callable_95]
  tactic =>
  and_intros <;> try (first | omega | rfl | assumption | simp only [IN]; omega)
  refine cl none (hbare) trivial ?_
  obtain ⟨B, hB⟩ : ∃ B, B = bodyF ⟨k', t', es', er', o', n', su', d', r', c'⟩ := ⟨_, rfl⟩
  rw [← hB] at hbody hR hbb2 hbln
  simp only at hbln hbl
  rw [hl3] at hbody
  obtain ⟨z, hz⟩ : ∃ z, z = h3' ++ B := ⟨_, rfl⟩
  rw [← hz] at hbody
  sym =>
  simp [Za5,Za9,Zdi,Zdm,Zrj,Zrl,Zrm,Zrn,Zro,Zrq,Zrr,Zrs,Zru,Zrv,Zrw,Zrx,Zry,Zrz,Zr0,Zr7,Zxa,Zr9,Zsd,Zse,Zsf,Zsg,Zsh,Zsj,Zev,Zew,Zez,Ze0,Ze5,Zfc,Zfd,Zfe,Zj9,Zkv,Zlf,Zlh,Zlm,Zlt,Zlx,Zlz,Zl2,Zm9,Zne,Znf,Zng,Znh,Zo7,List.length_append,eq_self,true_and,and_true,Bool.and_true,fz_fc,fcF1,fc_all,flL_fz,hq3,callable_94]
  tactic =>
  and_intros <;> try (first | omega | rfl | assumption | simp only [IN]; omega)
  refine clG [none] (some ⟨cB z, 1, 0⟩) hbody rfl ⟨trivial, cB_okI _, rfl⟩ ?_
  have hzl : 28 + B.length = z.length := by rw [hz, List.length_append, hl3]
  have hza := cB_all z
  have hzc := cB_length z
  rw [hzl]
  sym =>
  simp [Za5,Za9,Zdc,Zdd,Zde,Zrp,Zsm,Zsn,Zso,Zsq,Zss,Zsy,Zth,Zti,Zev,Zew,Zez,Ze0,Ze5,Zfc,Zfd,Zfe,Zff,Zfg,Zla,Zlb,Zle,Zlt,Zlx,Zl2,Zne,Znf,Zng,Znh,eq_self,true_and,and_true,Nat.zero_add,Nat.mul_one,hza,hzc,callable_93]
  tactic =>
  refine ⟨⟨Nat.le_refl _, cB_okI _⟩, ?_⟩
  have hh : h3' = hdB ⟨k, t, es, er, o, n, su, d, r, c⟩ := by rw [hh3, hh2, hh1]; rfl
  have hzb : byt8 z := by rw [hz, hh]; exact byt8_app hhb hbb2
  refine cl none (seal_con z hzb (by omega)) trivial ?_
  sym =>
  simp [Zak,Zam,Zaz,Za0,Za1,Za2,Za3,Za4,Za5,Za9,Zba,Zbb,Zdi,Zev,Zew,Zez,Ze0,Ze2,Zfc,Zfd,Zfe,Zfh,Zkb,Zlz,Zl2,Zl3,Zl4,Zmt,Zmv,Zmw,Zmx,Zmz,Zm3,Zo7,eq_self,true_and]
  tactic =>
  refine endA ?_
  rw [hR, ← hh, ← hz]
  sym =>
  simp [Zof,Zog,Zpb,Zph,Zp9,Zqd,Zqe,eq_self,and_true]
end Go.Proofs.Ytbmdahhhgpbchaa.LyD
