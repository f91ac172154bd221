import Derived.Test.YtbmdahhhgpbchaaOpI
namespace Go.Proofs.Ytbmdahhhgpbchaa.OpJ
open Go Go.Sim Go.Sim.E Go.RowKit Go.Proofs Go.Proofs.Ytbmdahhhgpbchaa.Cod Go.Proofs.Ytbmdahhhgpbchaa.Tab Go.Proofs.Ytbmdahhhgpbchaa.Bse Go.Proofs.Ytbmdahhhgpbchaa.SpnP Go.Proofs.Ytbmdahhhgpbchaa.SwA Go.Proofs.Ytbmdahhhgpbchaa.SwB Go.Proofs.Ytbmdahhhgpbchaa.SwC Go.Proofs.Ytbmdahhhgpbchaa.SwS Go.Proofs.Ytbmdahhhgpbchaa.SwD Go.Proofs.Ytbmdahhhgpbchaa.SwF Go.Proofs.Ytbmdahhhgpbchaa.SwG Go.Proofs.Ytbmdahhhgpbchaa.SwL Go.Proofs.Ytbmdahhhgpbchaa.ObA Go.Proofs.Ytbmdahhhgpbchaa.ObB Go.Proofs.Ytbmdahhhgpbchaa.ObC Go.Proofs.Ytbmdahhhgpbchaa.OeP Go.Proofs.Ytbmdahhhgpbchaa.OeQ Go.Proofs.Ytbmdahhhgpbchaa.OeA Go.Proofs.Ytbmdahhhgpbchaa.OpA Go.Proofs.Ytbmdahhhgpbchaa.OpB Go.Proofs.Ytbmdahhhgpbchaa.OpC Go.Proofs.Ytbmdahhhgpbchaa.OpD Go.Proofs.Ytbmdahhhgpbchaa.OpE Go.Proofs.Ytbmdahhhgpbchaa.OpF Go.Proofs.Ytbmdahhhgpbchaa.OpG Go.Proofs.Ytbmdahhhgpbchaa.OpH Go.Proofs.Ytbmdahhhgpbchaa.OpI
set_option linter.unusedVariables false
set_option linter.unusedSimpArgs false
set_option maxRecDepth 100000
set_option maxHeartbeats 4000000
abbrev Stp := Int × Int × List Rg
def enS (x : Stp) : List AV := [.sc (.int .u8 x.1), I x.2.1, fR x.2.2]
def cS (l : List Stp) : List AV := l.flatMap enS
abbrev fS (l : List Stp) : AV := .fz l.length (cS l)
@[simp] theorem cS_length (l : List Stp) : (cS l).length = l.length * 3 := flat_length enS 3 l (fun _ _ => rfl)
@[simp] theorem cS_okI (l : List Stp) : okI (cS l) := okI_flat (fun a => by simp [enS]) l
theorem cS_q0 (l : List Stp) (i : Nat) (h : i < l.length) : (cS l).getD (i * 3) .un = .sc (.int .u8 l[i].1) := by
  have := flat_at enS (s := 3) l (fun _ _ => rfl) i 0 h (by omega)
  rw [List.getD_eq_getElem?_getD]
  simpa [enS, cS, List.getElem?_eq_getElem h] using congrArg (fun x => x.getD AV.un) this
theorem cS_q1 (l : List Stp) (i : Nat) (h : i < l.length) : (cS l).getD (i * 3 + 1) .un = I l[i].2.1 := by
  have := flat_at enS (s := 3) l (fun _ _ => rfl) i 1 h (by omega)
  rw [List.getD_eq_getElem?_getD]
  simpa [enS, cS, List.getElem?_eq_getElem h] using congrArg (fun x => x.getD AV.un) this
theorem cS_q2 (l : List Stp) (i : Nat) (h : i < l.length) : (cS l).getD (i * 3 + 2) .un = fR l[i].2.2 := by
  have := flat_at enS (s := 3) l (fun _ _ => rfl) i 2 h (by omega)
  rw [List.getD_eq_getElem?_getD]
  simpa [enS, cS, List.getElem?_eq_getElem h] using congrArg (fun x => x.getD AV.un) this
theorem cS_takes (l : List Stp) (k : Nat) : (cS l).take (k * 3) = cS (l.take k) := by
  induction l generalizing k with
  | nil => simp [cS]
  | cons r l ih =>
    cases k with
    | zero => simp [cS]
    | succ k =>
      rw [show (k + 1) * 3 = k * 3 + 3 from by omega]
      show ([_, _, _] ++ cS l).take (k * 3 + 3) = [_, _, _] ++ cS (l.take k)
      simp [ih]
def rC (src : List Int) (t f : Int) (cm ou : List Int) (T : Tm) : List AV := [fB src, I t, I f, fJ cm, fJ ou, Bo T.1, I T.2.1, I T.2.2]
theorem rel_new {t b : Int} (ht : 0 ≤ t ∧ t ≤ 20000) (hp : plF t b = true) : Rel t b [] [] (addS [] 0 b) [] := by
  have p := plF_mod hp
  obtain ⟨c1, c2, _⟩ := (Ok.nil t).add (by omega : 0 ≤ t ∧ t ≤ 1099511627776) 0 b p.2.1
  refine ⟨ht, p, ⟨by simp, by simp⟩, c1, Ok.nil t, fun q h1 h2 => ?_, by simp, by simp, fun q _ _ => ?_⟩
  · rw [c2 q, show lim 0 = 0 from rfl, lim_id p.1 (by omega)]
    constructor
    · rintro (h | h)
      · exact .inl h.2
      · exact absurd h (mem_nil q)
    · rintro (h | h)
      · exact .inl ⟨h1, h⟩
      · cases h
  · exact ⟨fun h => absurd h (mem_nil q), fun h => by cases h⟩
theorem rel_lose {t f : Int} {cm ou : List Int} {s o : List Rg} (h : Rel t f cm ou s o) : Rel t f cm [] s [] :=
  ⟨h.ht, h.hf, h.rk, h.hs, Ok.nil t, h.mem, by simp, by simp, fun q _ _ => ⟨fun h => absurd h (mem_nil q), fun h => by cases h⟩⟩
theorem rel_tick {t f : Int} {cm ou : List Int} {s o : List Rg} (h : Rel t f cm ou s o) (T : Tm) : Rel t f cm (roF ou T) s (otF t s o T) := by
  unfold roF otF
  split
  · exact rel_lose h
  · exact h
theorem rel_tm {t f : Int} {cm ou : List Int} {s o : List Rg} (h : Rel t f cm ou s o) (T : Tm) : rtF t f cm T = tmF t s T := by
  unfold rtF tmF
  rw [h.left]
theorem rel_T {t f : Int} {cm ou : List Int} {s o : List Rg} (h : Rel t f cm ou s o) (off : Int) (l : List Rg) (T : Tm) : raT t f off cm l T = acT t s off l T := by
  obtain ⟨h1, h2⟩ := rel_ack h off l
  unfold raT acT
  rw [rel_tm h1, h2]
def i7 (src : List Int) (t f : Int) (q : List Stp) (k : Nat) (st : St) : Prop := ∃ (i : Nat) (cm ou : List Int) (s o : List Rg) (T : Tm), i + k = q.length ∧ Rel t f cm ou s o ∧ TOk T ∧
  st = ⟨[(7, .pt 0 0), (9, .pt 1 0), (57, fS q), (58, I (IN q.length)), (59, I (IN i))], [(0, ⟨oC src t s o T, 1, 0⟩), (1, ⟨rC src t f cm ou T, 1, 0⟩)], 2⟩
def i7b (src : List Int) (t f : Int) (q : List Stp) (i : Nat) (x : Stp) (cm ou : List Int) (s o : List Rg) (T : Tm) (k : Nat) (st : St) : Prop := ∃ j : Nat, j + k = x.2.2.length ∧
  st = ⟨[(7, .pt 0 0), (9, .pt 1 0), (12, .pt 2 0), (13, .lv 3 0 j), (57, fS q), (58, I (IN q.length)), (59, I (IN i)), (69, fR x.2.2), (70, I (IN x.2.2.length)), (71, I (IN j))],
    [(0, ⟨oC src t s o T, 1, 0⟩), (1, ⟨rC src t f cm ou T, 1, 0⟩), (2, ⟨[.sc (.int .u8 x.1), I x.2.1, fR x.2.2], 1, 0⟩), (3, ⟨cR (x.2.2.take j), 2, 0⟩)], 4⟩
def i7c (src : List Int) (t f : Int) (q : List Stp) (i : Nat) (cm ou : List Int) (s o : List Rg) (T : Tm) (rs : List Rg) (k : Nat) (st : St) : Prop := ∃ j : Nat, j + k = rs.length ∧
  st = ⟨[(7, .pt 0 0), (9, .pt 1 0), (16, Bo false), (17, Bo false), (19, fP src rs), (21, fP src rs), (57, fS q), (58, I (IN q.length)), (59, I (IN i)), (120, I (IN rs.length)), (121, I (IN j))],
    [(0, ⟨oC src t s o T, 1, 0⟩), (1, ⟨rC src t f cm ou T, 1, 0⟩)], 2⟩
theorem plays_con (src : List Int) (b : Int) (l : List Stp) : Con Try.prog 7 [] [fB src, I b, fS l] [] (Bo true) := by
  refine con_j b7 rfl ?_
  sym =>
  simp [Zab,Zad,Zam,Zaz,Za0,Za1,Za2,Za3,Za4,Za5,Za9,Zba,Zbb,Zdm,Zrj,Zrl,Zrm,Zrn,Zro,Zrq,Zrr,Zva,Zru,Zrx,Zry,Zrz,Zr2,Zr5,Zsf,Zsh,Zsj,Zev,Zew,Zez,Ze0,Ze2,Zfd,Zfe,Zfh,Zlj,Zll,Zm9,Zna,Znb,Zne,Znf,Zng,Zos,Zot,Zo7,eq_self,true_and,and_true,callable_31]
  tactic =>
  by_cases hn : 1099511627776 < IN src.length ∨ plF (IN src.length) b = false
  · refine clG [] none (bnewN src b hn) rfl ⟨trivial, trivial, rfl⟩ ?_
    unfold offT
    sym =>
    simp [Zab,Zad,Zam,Zaz,Za0,Za1,Za2,Za3,Za4,Za5,Za9,Zba,Zbb,Zb7,Zcv,Zc3,Zdc,Zdd,Zde,Zrp,Zsm,Zsn,Zso,Zsr,Zs0,Zs7,Zta,Ztf,Ztg,Zev,Zew,Zez,Ze0,Ze1,Ze2,Ze3,Ze5,Zfc,Zfd,Zfe,Zfh,Zhb,Zhc,Zin,Ziu,Ziv,Ziw,Zi6,Zjh,Zji,Zjn,Zjs,Zj7,Zla,Zlb,Zle,Zlj,Zll,Zl2,Zm9,Zna,Znb,Zne,Znf,Zng,Znn,Zno,Znp,Zof,Zog,Zo7,eq_self,true_and,and_true,callable_39]
    tactic =>
    refine cl none (rnew_no src b hn) trivial ?_
    unfold offT
    sym =>
    simp [Zab,Zad,Zae,Zaf,Zal,Zam,Zaz,Za0,Za1,Za2,Za3,Za4,Za5,Za6,Za7,Za8,Za9,Zba,Zbb,Zbd,Zbf,Zb7,Zcv,Zc3,Zdc,Zdd,Zde,Zdi,Zev,Zew,Zex,Zez,Ze0,Ze1,Ze2,Ze3,Ze5,Zfc,Zfd,Zfe,Zfh,Zfi,Zfj,Zfl,Zfn,Zfz,Zf0,Zhb,Zhc,Zin,Ziu,Ziv,Ziw,Zi6,Zjh,Zji,Zjn,Zjs,Zj7,Zka,Zkx,Zky,Zk0,Zk1,Zla,Zlz,Zl2,Zm9,Zna,Znb,Zne,Znf,Znn,Zno,Znp,Zof,Zog,Zo3,Zo4,Zo6,Zo7,Zo8,Zo9,eq_self,true_and,and_true,callable_30]
    tactic =>
    refine cl none (alive_con) trivial ?_
    sym =>
    simp [Zak,Zam,Zao,Zaz,Za0,Za1,Za2,Za3,Za4,Za5,Za9,Zba,Zbb,Zbd,Zdi,Zev,Zew,Zez,Ze0,Ze2,Zfd,Zfe,Zfh,Zfi,Zfl,Zjw,Zlz,Zmt,Zmv,Zmw,Zmx,Zmz,Zm2,Zo7,eq_self,true_and]
    tactic =>
    refine endA ?_
    sym =>
    simp [Zpc,eq_self]
  have n1 : src.length ≤ 1099511627776 := by
    apply Decidable.byContradiction
    intro hc
    exact hn (.inl (by simp only [IN]; omega))
  have hp : plF (IN src.length) b = true := by
    cases h : plF (IN src.length) b
    · exact absurd (.inr h) hn
    · rfl
  refine clG [] none (bnewG src b n1 hp) rfl ⟨trivial, trivial, rfl⟩ ?_
  generalize hT0 : tmF (IN src.length) (addS [] 0 b) oneT = T0 at *
  sym =>
  simp [Zab,Zad,Zam,Zaz,Za0,Za1,Za2,Za3,Za4,Za5,Za9,Zba,Zbb,Zb7,Zcv,Zc3,Zdc,Zdd,Zde,Zrp,Zsm,Zsn,Zso,Zsr,Zs0,Zs7,Zta,Ztf,Ztg,Zev,Zew,Zez,Ze0,Ze1,Ze2,Ze3,Ze5,Zfc,Zfd,Zfe,Zfh,Zhb,Zhc,Zin,Ziu,Ziv,Ziw,Zi6,Zjh,Zji,Zjn,Zjs,Zj7,Zla,Zlb,Zle,Zlj,Zll,Zl2,Zm9,Zna,Znb,Zne,Znf,Zng,Znn,Zno,Znp,Zo7,eq_self,true_and,and_true,callable_39]
  tactic =>
  refine cl none (rnew_yes src b n1 hp) trivial ?_
  generalize hT1 : rtF (IN src.length) b [] oneT = T1 at *
  by_cases h8 : (8000 : Int) < IN src.length
  · sym =>
    simp [Zab,Zad,Zae,Zaf,Zal,Zam,Zaz,Za0,Za1,Za2,Za3,Za4,Za5,Za6,Za7,Za9,Zba,Zbb,Zbd,Zbf,Zb7,Zcn,Zcv,Zc3,Zdc,Zdd,Zde,Zdi,Zev,Zew,Zex,Zez,Ze0,Ze1,Ze2,Ze3,Ze5,Zfc,Zfd,Zfe,Zfh,Zfi,Zfl,Zfn,Zfz,Zf0,Zf3,Zhb,Zhc,Zh6,Zh7,Zin,Ziu,Ziv,Ziw,Zi6,Zjh,Zji,Zjn,Zjs,Zj7,Zka,Zkx,Zky,Zk0,Zk1,Zla,Zlz,Zl2,Zm9,Zna,Znb,Zne,Znf,Znn,Zno,Znp,Zo3,Zo7,Zo8,eq_self,true_and,and_true,h8,callable_30]
    tactic =>
    refine cl none (alive_con) trivial ?_
    sym =>
    simp [Zak,Zam,Zao,Zaz,Za0,Za1,Za2,Za3,Za4,Za5,Za9,Zba,Zbb,Zbd,Zdi,Zev,Zew,Zez,Ze0,Ze2,Zfd,Zfe,Zfh,Zfi,Zfl,Zjw,Zlz,Zmt,Zmv,Zmw,Zmx,Zmz,Zm2,Zo7,eq_self,true_and]
    tactic =>
    refine endA ?_
    sym =>
    simp [Zpc,eq_self]
  have h80 : src.length ≤ 8000 := by simp only [IN] at h8; omega
  have e1 : min (IN l.length) 40 = IN (l.take 40).length := by simp [IN]; omega
  have e2 : (cS l).take ((l.take 40).length * 3) = cS (l.take 40) := by rw [cS_takes]; congr 1; simp [List.take_take]
  have e3 : (l.take 40).length ≤ l.length := by simp; omega
  have hq40 : (l.take 40).length ≤ 40 := by simp; omega
  sym =>
  simp [Zaa,Zab,Zad,Zae,Zaf,Zag,Zah,Zal,Zam,Zaz,Za0,Za1,Za2,Za3,Za4,Za5,Za6,Za7,Za9,Zba,Zbb,Zbd,Zbf,Zb7,Zch,Zcn,Zct,Zcv,Zc3,Zdi,Zev,Zew,Zex,Zez,Ze0,Ze1,Ze2,Ze3,Ze5,Zfc,Zfd,Zfe,Zfh,Zfi,Zfl,Zfn,Zf0,Zf3,Zhb,Zhc,Zhm,Zhn,Zho,Zhs,Zht,Zhu,Zh6,Zh7,Zif,Zig,Zik,Zil,Zim,Zin,Ziu,Ziv,Ziw,Zi6,Zjh,Zji,Zjn,Zjs,Zj7,Zka,Zkx,Zky,Zk0,Zk1,Zlz,Zl2,Zm9,Zna,Znb,Znf,Zng,Znh,Znn,Zno,Znp,Zns,Znu,Znw,Zn5,Zrd,Zo3,Zo7,Zo8,Zo9,eq_self,true_and,and_true,Nat.sub_zero,h8,e1,e2,e3]
  tactic =>
  generalize l.take 40 = q at *
  obtain ⟨t, et⟩ : ∃ t, t = IN src.length := ⟨_, rfl⟩
  rw [← et] at hp hT0 hT1 ⊢
  have ht2 : 0 ≤ t ∧ t ≤ 20000 := by rw [et]; simp only [IN]; omega
  have ht : 0 ≤ t ∧ t ≤ 1099511627776 := by omega
  have hR0 := rel_new ht2 hp
  have hTT : T1 = T0 := by rw [← hT1, ← hT0]; exact rel_tm hR0 oneT
  subst hTT
  have hTok : TOk T1 := by rw [← hT0]; exact TOk.timed TOk.one
  generalize addS [] 0 b = s0 at *
  obtain ⟨f, hf⟩ : ∃ f, f = b := ⟨_, rfl⟩
  rw [← hf] at hR0
  refine lpA (i7 src t f q) q.length [(0, 7), (1, 16)] _ ⟨0, [], [], s0, [], T1, by omega, hR0, hTok, rfl⟩ (wkA ?_) ?_
  · unfold oC rC
    rw [hf]
    sym =>
    simp [Za2,Za3,Zez,Zfc,Zna,Znr,Zn5,Zpa,Zpc,Zpg,Zpi,Zpu,Zqb,Zqc,Zqf,Zqg,Zqh,Zqi,Zqk,Zql,Zqm,Zqn,eq_self,and_true]
  clear hR0 hTok hT0 hT1 hp hn hf
  rintro k st ⟨i, cm, ou, s, o, T, hi, hR, hT, rfl⟩
  unfold oC rC
  by_cases h : i < q.length
  · have hw := w64s i (by omega)
    have h0 := cS_q0 q i h
    have h1 := cS_q1 q i h
    have h2 := cS_q2 q i h
    sym =>
    simp [Zaa,Zab,Zad,Zae,Zaf,Zag,Zal,Zam,Zay,Zaz,Za0,Za1,Za2,Za3,Za4,Za5,Za9,Zba,Zbf,Zbt,Zbv,Zb1,Zcn,Zcv,Zc3,Zev,Zew,Zez,Ze0,Ze1,Ze2,Ze3,Ze5,Ze8,Zfc,Zfd,Zfe,Zfn,Zf1,Zf3,Zgr,Zgs,Zgt,Zgu,Zgv,Zgw,Zgx,Zg4,Zg6,Zho,Zh6,Zh7,Zin,Ziu,Ziv,Ziw,Zi6,Zjh,Zji,Zjn,Zj7,Zm5,Zm6,Zm7,Zm9,Zna,Znb,Znn,Zno,Znp,Zns,Znt,Znw,Zou,Zo7,Zo8,eq_self,true_and,and_true,h,h0,h1,h2,cS_length]
    tactic =>
    and_intros <;> try (first | omega | rfl | assumption | exact cR_okF _ | exact cR_okI _ | exact cS_okI _ | exact rs_self (cR_okI _) | exact rs_self (cS_okI _) | (symm; refine List.take_of_length_le ?_; simp <;> omega))
    generalize q[i] = x at *
    by_cases h10 : (10 : Int) < IN x.2.2.length
    · sym =>
      simp [Zab,Zad,Zal,Za0,Za1,Za2,Za5,Zdc,Zdd,Zde,Zew,Zla,Zna,Znb,Zne,Znf,Zo7,Zo8,eq_self,true_and,h10,callable_30]
      tactic =>
      refine cl none (alive_con) trivial ?_
      sym =>
      simp [Zak,Zam,Zao,Zar,Zax,Zaz,Za0,Za1,Za2,Za3,Za4,Za5,Za9,Zba,Zbb,Zdi,Zev,Zez,Ze0,Ze2,Zfd,Zfe,Zfh,Zjw,Zlz,Zmt,Zmv,Zmw,Zmx,Zmz,Zm2,Zo7,eq_self,true_and]
      tactic =>
      refine endA ?_
      sym =>
      simp [Zpc,eq_self]
    have h11 : x.2.2.length ≤ 10 := by simp only [IN] at h10; omega
    sym =>
    simp [Zaa,Zab,Zad,Zag,Zah,Zal,Zam,Zaz,Za0,Za1,Za2,Za3,Za4,Za5,Za9,Zba,Zbb,Zbt,Zbv,Zcn,Zev,Zew,Zez,Ze0,Ze2,Ze5,Ze8,Zfc,Zfd,Zfe,Zfh,Zgr,Zgs,Zgt,Zgv,Zgw,Zgx,Zh6,Zh7,Zm6,Zm9,Zna,Znb,Zo7,Zo9,eq_self,true_and,h10]
    tactic =>
    refine lpA (i7b src t f q i x cm ou s o T) x.2.2.length [(0, 0), (1, 1), (2, 5)] _ ⟨0, by omega, rfl⟩ (wkA ?_) ?_
    · unfold oC rC
      sym =>
      simp [Za2,Za3,Zez,Zfb,Zfc,Znr,Zn5,Zpa,Zpc,Zpg,Zpi,Zpr,Zpu,Zqb,Zqc,Zqf,Zqg,Zqh,Zqi,Zqj,Zqk,Zql,Zqm,Zqn,eq_self,true_and,and_true]
      tactic =>
      all_goals rfl
    rintro k2 st ⟨j, hj, rfl⟩
    unfold oC rC
    by_cases hjr : j < x.2.2.length
    · have hwj := w64s j (by omega)
      have a0 := cR_q0 x.2.2 j hjr
      have a1 := cR_q1 x.2.2 j hjr
      have htk : cR (x.2.2.take (j + 1)) = cR (x.2.2.take j) ++ [I x.2.2[j].1, I x.2.2[j].2] := by rw [take_one x.2.2 j hjr, cR_snoc]
      have hcl : (cR (x.2.2.take j)).length = j * 2 := by rw [SwA.cR_length, List.length_take]; omega
      have hll : (x.2.2.take j).length * 2 = j * 2 := by rw [List.length_take]; omega
      sym =>
      simp [Zaa,Zab,Zad,Zae,Zaf,Zag,Zal,Zam,Zap,Zav,Zay,Zaz,Za0,Za1,Za2,Za3,Za4,Za5,Za9,Zba,Zbb,Zbf,Zbt,Zb1,Zcv,Zcz,Zc3,Zc5,Zev,Zew,Zez,Ze0,Ze1,Ze2,Ze3,Ze4,Ze5,Ze8,Zfc,Zfd,Zfe,Zff,Zfg,Zfh,Zfn,Zfq,Zf1,Zgr,Zgs,Zgt,Zgu,Zg4,Zg6,Zhf,Zhg,Zhh,Zho,Zin,Ziq,Zir,Ziu,Ziv,Ziw,Zix,Ziz,Zi0,Zi2,Zi3,Zi6,Zjh,Zji,Zjj,Zjk,Zjn,Zjo,Zm5,Zm7,Zm9,Zna,Znb,Znh,Znl,Znm,Znn,Zno,Znp,Zns,Znt,Znw,Zo7,Zo8,eq_self,true_and,and_true,hjr,a0,a1,cR_length,hcl,hwj]
      tactic =>
      refine ⟨by omega, by omega, ⟨by omega, by omega, hll, by omega⟩, ?_⟩
      unfold NextL; refine ⟨(k2 - 1), [(0, 0), (1, 1), (2, 2), (3, 12)], _, by omega, ⟨j + 1, by omega, rfl⟩, wkA ?_⟩
      unfold oC rC
      rw [htk]
      sym =>
      simp [Za2,Za3,Zez,Zfc,Znr,Zpa,Zpc,Zpg,Zpi,Zpo,Zpu,Zqb,Zqc,Zqf,Zqg,Zqh,Zqi,Zqk,Zql,Zqm,Zqn,eq_self,true_and,and_true]
      tactic =>
      exact rs_self (by rw [← htk]; exact cR_okI _)
    have et2 : x.2.2.take j = x.2.2 := List.take_of_length_le (by omega)
    have ej : j = x.2.2.length := by omega
    subst ej
    rw [et2]
    by_cases k0 : Int.tmod x.1 (4 : Int) = 0
    · sym =>
      simp [Zab,Zad,Zae,Zaf,Zag,Zai,Zal,Zam,Zan,Zaq,Zaw,Zay,Zaz,Za0,Za1,Za2,Za3,Za4,Za5,Za9,Zba,Zbb,Zbf,Zbt,Zbv,Zdc,Zdd,Zde,Zev,Zew,Zez,Ze0,Ze2,Ze5,Ze8,Zfc,Zfd,Zfe,Zfh,Zfn,Zfu,Zfz,Zf1,Zgr,Zgs,Zgt,Zgv,Zgw,Zgx,Zla,Zlb,Zlc,Zld,Zle,Zlf,Zlh,Zlk,Zlm,Zm5,Zm6,Zm7,Zm9,Zna,Znb,Zne,Znf,Zng,Znt,Zo7,Zo8,Zo9,eq_self,true_and,and_true,hjr,k0,callable_32]
      tactic =>
      have bS := hR.hs.base ht2.1
      refine cl none (poll_con src s o T t et (by omega) hR.hs hR.ho _ rfl) trivial ?_
      sym =>
      simp [Zab,Zad,Zam,Zaz,Za0,Za1,Za2,Za3,Za4,Za5,Za9,Zba,Zbb,Zbt,Zb7,Zcv,Zc3,Zdc,Zdd,Zde,Zdi,Zev,Zew,Zez,Ze0,Ze1,Ze2,Ze3,Ze5,Ze8,Zfc,Zfd,Zfe,Zfh,Zgr,Zgs,Zgt,Zhb,Zhc,Zin,Ziu,Ziv,Ziw,Zi6,Zjh,Zji,Zjn,Zjs,Zj7,Zka,Zkx,Zky,Zk0,Zk1,Zla,Zlb,Zlc,Zld,Zle,Zlf,Zlh,Zlk,Zlm,Zlz,Zl2,Zm5,Zm7,Zm9,Zna,Znb,Zne,Znf,Zng,Znn,Zno,Znp,Zo7,eq_self,true_and,and_true,callable_40]
      tactic =>
      refine cl none (rpoll_con src t f cm ou T et hR.ri (by have := hR.olen; omega) _ hR.base (by omega)) trivial ?_
      obtain ⟨p1, p2⟩ := rel_poll 9 ou o hR
      have pok := poll_ok (s := s) (b := endF (lim 0) s) ht 9 o hR.ho
      have pln := poll_len (s := s) ht bS.1 hR.ho 9
      rw [p1]
      generalize rpF t f cm (endF (lim 0) s) 9 ou = RR at *
      generalize pollF t s (endF (lim 0) s) 9 o = PP at *
      obtain ⟨rs, O⟩ := PP
      obtain ⟨rs', U⟩ := RR
      simp only at p1 p2 pok pln ⊢
      clear p1 bS
      have hR := p2
      sym =>
      simp [Zaa,Zab,Zac,Zad,Zae,Zaf,Zag,Zah,Zal,Zam,Zaz,Za0,Za1,Za2,Za3,Za4,Za5,Za9,Zba,Zbb,Zbf,Zbu,Zb7,Zcn,Zcv,Zc3,Zc4,Zc7,Zc8,Zc9,Zdi,Zdo,Zdp,Zdt,Zdu,Zdv,Zdw,Zdx,Zdy,Zdz,Zd0,Zd1,Zd3,Zec,Zek,Zen,Zer,Zes,Zev,Zew,Zez,Ze0,Ze1,Ze2,Ze3,Ze5,Ze8,Zfc,Zfd,Zfe,Zfh,Zfn,Zf0,Zgr,Zgs,Zgt,Zhb,Zhc,Zh6,Zh7,Zin,Ziu,Ziv,Ziw,Zi6,Zjh,Zji,Zjn,Zjs,Zj7,Zka,Zkx,Zky,Zk0,Zk1,Zlz,Zl2,Zm5,Zm7,Zm9,Zna,Znb,Zne,Znn,Zno,Znp,Zo3,Zo7,Zo8,eq_self,true_and,and_true]
      tactic =>
      refine lpA (i7c src t f q i cm U s O T rs) rs.length [(0, 0), (1, 1)] _ ⟨0, by omega, rfl⟩ (wkA ?_) ?_
      · unfold oC rC
        sym =>
        simp [Za2,Za3,Zez,Zfc,Znr,Zn5,Zpa,Zpc,Zpg,Zpi,Zpu,Zqb,Zqc,Zqf,Zqg,Zqh,Zqi,Zqk,Zql,Zqm,Zqn,eq_self,and_true]
      rintro k3 st ⟨j, hj, rfl⟩
      unfold oC rC
      by_cases hjs : j < rs.length
      · have hwj := w64s j (by omega)
        have p0 := cP_q0 src rs j hjs
        have p1 := cP_q1 src rs j hjs
        obtain ⟨v1, v2, v3, v4⟩ := pok.2 rs[j] (List.getElem_mem hjs)
        sym =>
        simp [Zaa,Zab,Zac,Zad,Zae,Zaf,Zag,Zal,Zam,Zay,Zaz,Za0,Za1,Za2,Za3,Za4,Za5,Za9,Zba,Zbb,Zbc,Zbf,Zbg,Zbu,Zbw,Zb2,Zc7,Zc8,Zdf,Zdg,Zdh,Zdp,Zdq,Zdr,Zdt,Zdu,Zdv,Zdw,Zdx,Zdy,Zd0,Zd1,Zd2,Zeb,Zee,Zeq,Zet,Zev,Zew,Zex,Zez,Ze0,Ze2,Ze5,Zfd,Zfe,Zfh,Zfn,Zf0,Zf1,Zgr,Zgu,Zgw,Zgy,Zg4,Zg6,Zho,Zla,Zlb,Zle,Zll,Zm6,Zna,Znb,Zne,Znf,Zng,Zns,Znt,Znw,Zo3,Zo7,Zo8,List.length_drop,eq_self,true_and,and_true,Nat.add_zero,hjs,p0,p1,cP_length,callable_22]
        tactic =>
        and_intros <;> try (first | omega | rfl | assumption | exact cR_okF _ | exact cR_okI _ | exact cS_okI _ | exact rs_self (cR_okI _) | exact rs_self (cS_okI _) | (symm; refine List.take_of_length_le ?_; simp <;> omega))
        generalize rs[j] = r at *
        have hpl : (pc src r).length ≤ src.length := by simp only [pc, List.length_take, List.length_drop]; omega
        refine cl none (nsame_con (pc src r) (pc src r) (by omega)) trivial ?_
        rw [decide_eq_true (rfl : pc src r = pc src r)]
        sym =>
        simp [Zaa,Zab,Zae,Zaf,Zal,Zam,Zap,Zav,Zaz,Za0,Za1,Za2,Za3,Za4,Za5,Za9,Zba,Zbb,Zbe,Zbf,Zbk,Zc7,Zc8,Zdj,Zdk,Zdo,Zdp,Zdq,Zdr,Zdt,Zdu,Zdv,Zd0,Zd1,Zd2,Zev,Zew,Zex,Zez,Ze0,Ze2,Zfd,Zfe,Zfh,Zfi,Zfl,Zfn,Zfq,Zgd,Zgg,Zjw,Zlz,Zna,Znb,Zne,Zo3,Zo7,eq_self,true_and,and_true,hwj]
        tactic =>
        unfold NextL; refine ⟨(k3 - 1), [(0, 0), (1, 1)], _, by omega, ⟨j + 1, by omega, rfl⟩, wkA ?_⟩
        unfold oC rC
        sym =>
        simp [Za2,Za3,Zez,Zfc,Znr,Zpa,Zpc,Zpg,Zpi,Zpu,Zqb,Zqc,Zqf,Zqg,Zqh,Zqi,Zqk,Zql,Zqm,Zqn,eq_self,and_true]
      · have hTT := hT
        have lS := hR.hs.len ht2
        have lO := hR.ho.len ht2
        have bS := hR.hs.base ht2.1
        have hri := hR.ri
        have hbb := hR.base
        have hlf := hR.left
        have hou := rel_out hR
        have hok : (false == false) = true := by simp
        have hdd : (decide (lfF t s = 0) == decide (lfF t s = 0)) = true := by simp
        sym =>
        simp [Zab,Zac,Zad,Zae,Zaf,Zai,Zam,Zan,Zap,Zaq,Zaw,Zay,Za2,Za3,Za4,Za5,Za9,Zba,Zbc,Zbf,Zbg,Zbu,Zc7,Zc8,Zdf,Zdg,Zdh,Zdp,Zdq,Zdr,Zdt,Zdu,Zdv,Zdw,Zdx,Zdy,Zd0,Zd1,Zd2,Zd3,Zec,Zek,Zen,Zeq,Zer,Zes,Zet,Zev,Zew,Zex,Zez,Ze0,Ze2,Ze5,Ze8,Zfc,Zfd,Zfe,Zfh,Zfn,Zf1,Zf6,Zgr,Zgs,Zgt,Zla,Zlb,Zlc,Zld,Zle,Zlf,Zlh,Zlk,Zlm,Zm5,Zm7,Zm9,Zna,Znb,Zne,Znf,Zng,Znt,Zoy,Zo3,Zo4,Zo7,Zo9,eq_self,true_and,and_true,hok,hjs,callable_34]
        tactic =>
        refine cl none (base_con' src t s O T (by omega)) trivial ?_
        sym =>
        simp [Za2,Za3,Zbu,Zbw,Zc7,Zc8,Zdf,Zdg,Zdh,Zdj,Zdk,Zdq,Zdr,Zdt,Zdu,Zdv,Zdw,Zdx,Zdy,Zdz,Zd0,Zd1,Zd3,Zec,Zek,Zen,Zeq,Zer,Zes,Zet,Zev,Zew,Zex,Zez,Ze0,Ze2,Ze5,Ze8,Zfc,Zfd,Zfe,Zgr,Zgs,Zgt,Zgv,Zgw,Zgx,Zjr,Zla,Zlb,Zlc,Zld,Zle,Zlf,Zlh,Zlk,Zlm,Zlz,Zm5,Zm7,Zm9,Zna,Znb,Zne,Znf,Zng,Zo7,eq_self,true_and,and_true,callable_43]
        tactic =>
        refine cl none (rbase_con t f cm U hri) trivial ?_
        rw [hbb]
        sym =>
        simp [Za2,Zbc,Zbe,Zbg,Zbu,Zc7,Zc8,Zdf,Zdg,Zdh,Zdj,Zdk,Zdp,Zdq,Zdr,Zdt,Zdu,Zdv,Zd0,Zd1,Zd2,Zd3,Zec,Zek,Zen,Zeq,Zer,Zes,Zet,Zev,Zew,Zex,Zez,Ze0,Ze2,Ze5,Ze8,Zfc,Zfd,Zfe,Zfh,Zfi,Zfl,Zfn,Zf0,Zgr,Zgs,Zgt,Zjr,Zla,Zlb,Zlc,Zld,Zle,Zlf,Zlh,Zlk,Zlm,Zlz,Zm5,Zm7,Zm9,Zna,Znb,Zne,Znf,Zng,Zo3,Zo7,Zo8,eq_self,true_and,and_true,callable_38]
        tactic =>
        refine cl none (waits_con src t s O T (by omega) (by omega) ht _ rfl (by omega)) trivial ?_
        rw [hou]
        sym =>
        simp [Za2,Za3,Zbc,Zbe,Zbg,Zbu,Zbw,Zco,Zc7,Zc8,Zdf,Zdg,Zdh,Zdj,Zdk,Zdp,Zdq,Zdr,Zdt,Zdu,Zdv,Zdw,Zdx,Zdy,Zdz,Zd0,Zd1,Zd2,Zd3,Zeb,Zec,Zek,Zen,Zeq,Zer,Zes,Zet,Zev,Zew,Zex,Zez,Ze0,Ze2,Ze5,Ze8,Zfc,Zfd,Zfe,Zfh,Zfi,Zfl,Zfn,Zf0,Zgr,Zgs,Zgt,Zgv,Zgw,Zgx,Zh6,Zh7,Zjr,Zla,Zlb,Zlc,Zld,Zle,Zlf,Zlh,Zlk,Zlm,Zlz,Zm5,Zm6,Zm7,Zm9,Zna,Znb,Zne,Znf,Zng,Zo3,Zo7,Zo8,eq_self,true_and,and_true,callable_36]
        tactic =>
        refine cl none (bdone_con src t s O T (by omega)) trivial ?_
        sym =>
        simp [Za2,Za3,Zbu,Zbw,Zc7,Zc8,Zdf,Zdg,Zdh,Zdj,Zdk,Zdq,Zdr,Zdt,Zdu,Zdv,Zdw,Zdx,Zdy,Zdz,Zd0,Zd1,Zd3,Zec,Zek,Zen,Zeq,Zer,Zes,Zet,Zev,Zew,Zex,Zez,Ze0,Ze2,Ze5,Ze8,Zfc,Zfd,Zfe,Zgr,Zgs,Zgt,Zgv,Zgw,Zgx,Zjw,Zla,Zlb,Zlc,Zld,Zle,Zlf,Zlh,Zlk,Zlm,Zlz,Zm5,Zm7,Zm9,Zna,Znb,Zne,Znf,Zng,Zo7,eq_self,true_and,and_true,callable_44]
        tactic =>
        refine cl none (rleft_con t f cm U hri) trivial ?_
        rw [hlf]
        sym =>
        simp [Za2,Zbc,Zbe,Zbg,Zbu,Zc7,Zc8,Zdf,Zdg,Zdh,Zdj,Zdk,Zdp,Zdq,Zdr,Zdt,Zdu,Zdv,Zd0,Zd1,Zd2,Zd3,Zec,Zek,Zen,Zeq,Zer,Zes,Zet,Zev,Zew,Zex,Zez,Ze0,Ze2,Ze5,Ze8,Zfc,Zfd,Zfe,Zfh,Zfi,Zfl,Zfn,Zfz,Zf6,Zgr,Zgs,Zgt,Zjr,Zla,Zlb,Zlc,Zld,Zle,Zlf,Zlh,Zlk,Zlm,Zlz,Zm5,Zm7,Zm9,Zna,Znb,Zne,Znf,Zng,Zo3,Zo7,eq_self,true_and,and_true,hdd,callable_37]
        tactic =>
        refine cl none (wait_con src t s O T) trivial ?_
        sym =>
        simp [Zaa,Zab,Zae,Zaf,Zal,Zam,Zap,Zav,Zaz,Za0,Za1,Za2,Za3,Za4,Za5,Za9,Zba,Zbb,Zbe,Zbf,Zbg,Zbu,Zbw,Zc7,Zc8,Zdj,Zdk,Zdo,Zdp,Zdq,Zdr,Zdt,Zdu,Zdv,Zdw,Zdx,Zdy,Zdz,Zd0,Zd1,Zd2,Zek,Zev,Zew,Zex,Zez,Ze0,Ze2,Ze5,Ze8,Zfc,Zfd,Zfe,Zfh,Zfi,Zfl,Zfn,Zfq,Zf0,Zgr,Zgs,Zgt,Zgv,Zgw,Zgx,Zjr,Zlz,Zm6,Zm9,Zna,Znb,Zne,Zo3,Zo7,Zo8,eq_self,true_and,and_true,hw]
        tactic =>
        unfold NextL; refine ⟨(k - 1), [(0, 0), (1, 1)], _, by omega, ⟨i + 1, cm, U, s, O, T, by omega, hR, hTT, rfl⟩, wkA ?_⟩
        unfold oC rC
        sym =>
        simp [Za2,Za3,Zez,Zfc,Znr,Zpa,Zpc,Zpg,Zpi,Zpu,Zqb,Zqc,Zqf,Zqg,Zqh,Zqi,Zqk,Zql,Zqm,Zqn,eq_self,and_true]
    · by_cases k1 : Int.tmod x.1 (4 : Int) = 1
      · have hbt := btick_con src t s o T hT
        have hrt := rtick_con src t f cm ou T hT
        have hR := rel_tick hR T
        have hTT := hT.tick
        generalize otF t s o T = O at *
        generalize roF ou T = U at *
        generalize tkF T = T' at *
        obtain ⟨T', ok⟩ := T'
        simp only at hbt hrt hTT
        sym =>
        simp [Zab,Zad,Zae,Zaf,Zag,Zai,Zal,Zam,Zan,Zaq,Zaw,Zay,Zaz,Za0,Za1,Za2,Za3,Za4,Za5,Za9,Zba,Zbb,Zbf,Zbt,Zbv,Zdc,Zdd,Zde,Zev,Zew,Zez,Ze0,Ze2,Ze5,Ze8,Zfc,Zfd,Zfe,Zfh,Zfn,Zfu,Zfz,Zf1,Zgr,Zgs,Zgt,Zgv,Zgw,Zgx,Zla,Zlb,Zlc,Zld,Zle,Zlf,Zlh,Zlk,Zlm,Zm5,Zm6,Zm7,Zm9,Zna,Znb,Zne,Znf,Zng,Znt,Zo7,Zo8,Zo9,eq_self,true_and,and_true,hjr,k0,k1,callable_35]
        tactic =>
        refine cl none (hbt) trivial ?_
        sym =>
        simp [Zab,Zam,Zaz,Za0,Za1,Za2,Za3,Za4,Za5,Za9,Zba,Zbb,Zbt,Zb7,Zc3,Zdc,Zdd,Zde,Zdi,Zev,Zew,Zez,Ze0,Ze1,Ze2,Ze3,Ze5,Ze8,Zfc,Zfd,Zfe,Zfh,Zgr,Zgs,Zgt,Zhb,Zhc,Ziu,Ziv,Ziw,Zi6,Zjh,Zji,Zjn,Zjs,Zj7,Zka,Zkx,Zky,Zk0,Zk1,Zla,Zlb,Zlc,Zld,Zle,Zlf,Zlh,Zlk,Zlm,Zlz,Zl2,Zm5,Zm7,Zm9,Zna,Znb,Zne,Znf,Zng,Znn,Zno,Znp,Zo7,eq_self,true_and,and_true,callable_41]
        tactic =>
        refine cl none (hrt) trivial ?_
        have lS := hR.hs.len ht2
        have lO := hR.ho.len ht2
        have bS := hR.hs.base ht2.1
        have hri := hR.ri
        have hbb := hR.base
        have hlf := hR.left
        have hou := rel_out hR
        have hok : (ok == ok) = true := by simp
        have hdd : (decide (lfF t s = 0) == decide (lfF t s = 0)) = true := by simp
        sym =>
        simp [Zac,Zad,Zam,Zap,Zaz,Za0,Za1,Za2,Za3,Za4,Za5,Za9,Zba,Zbb,Zbc,Zbg,Zbu,Zb7,Zc3,Zc7,Zc8,Zdf,Zdg,Zdh,Zdi,Zdp,Zdq,Zdr,Zdt,Zdu,Zdv,Zdw,Zdx,Zdy,Zd0,Zd1,Zd2,Zd3,Zec,Zek,Zen,Zeq,Zer,Zes,Zet,Zev,Zew,Zex,Zez,Ze0,Ze1,Ze2,Ze3,Ze5,Ze8,Zfc,Zfd,Zfe,Zfh,Zfn,Zf6,Zgr,Zgs,Zgt,Zhb,Zhc,Ziu,Ziv,Ziw,Zi6,Zjh,Zji,Zjn,Zjs,Zj7,Zka,Zkx,Zky,Zk0,Zk1,Zla,Zlb,Zlc,Zld,Zle,Zlf,Zlh,Zlk,Zlm,Zlz,Zl2,Zm5,Zm7,Zm9,Zna,Znb,Zne,Znf,Zng,Znn,Zno,Znp,Zo3,Zo7,eq_self,true_and,and_true,hok,hw,callable_34]
        tactic =>
        refine cl none (base_con' src t s O T' (by omega)) trivial ?_
        sym =>
        simp [Za2,Za3,Zbu,Zbw,Zc7,Zc8,Zdf,Zdg,Zdh,Zdj,Zdk,Zdq,Zdr,Zdt,Zdu,Zdv,Zdw,Zdx,Zdy,Zdz,Zd0,Zd1,Zd3,Zec,Zek,Zen,Zeq,Zer,Zes,Zet,Zev,Zew,Zex,Zez,Ze0,Ze2,Ze5,Ze8,Zfc,Zfd,Zfe,Zgr,Zgs,Zgt,Zgv,Zgw,Zgx,Zjr,Zla,Zlb,Zlc,Zld,Zle,Zlf,Zlh,Zlk,Zlm,Zlz,Zm5,Zm7,Zm9,Zna,Znb,Zne,Znf,Zng,Zo7,eq_self,true_and,and_true,callable_43]
        tactic =>
        refine cl none (rbase_con t f cm U hri) trivial ?_
        rw [hbb]
        sym =>
        simp [Za2,Zbc,Zbe,Zbg,Zbu,Zc7,Zc8,Zdf,Zdg,Zdh,Zdj,Zdk,Zdp,Zdq,Zdr,Zdt,Zdu,Zdv,Zd0,Zd1,Zd2,Zd3,Zec,Zek,Zen,Zeq,Zer,Zes,Zet,Zev,Zew,Zex,Zez,Ze0,Ze2,Ze5,Ze8,Zfc,Zfd,Zfe,Zfh,Zfi,Zfl,Zfn,Zf0,Zgr,Zgs,Zgt,Zjr,Zla,Zlb,Zlc,Zld,Zle,Zlf,Zlh,Zlk,Zlm,Zlz,Zm5,Zm7,Zm9,Zna,Znb,Zne,Znf,Zng,Zo3,Zo7,Zo8,eq_self,true_and,and_true,callable_38]
        tactic =>
        refine cl none (waits_con src t s O T' (by omega) (by omega) ht _ rfl (by omega)) trivial ?_
        rw [hou]
        sym =>
        simp [Za2,Za3,Zbc,Zbe,Zbg,Zbu,Zbw,Zco,Zc7,Zc8,Zdf,Zdg,Zdh,Zdj,Zdk,Zdp,Zdq,Zdr,Zdt,Zdu,Zdv,Zdw,Zdx,Zdy,Zdz,Zd0,Zd1,Zd2,Zd3,Zeb,Zec,Zek,Zen,Zeq,Zer,Zes,Zet,Zev,Zew,Zex,Zez,Ze0,Ze2,Ze5,Ze8,Zfc,Zfd,Zfe,Zfh,Zfi,Zfl,Zfn,Zf0,Zgr,Zgs,Zgt,Zgv,Zgw,Zgx,Zh6,Zh7,Zjr,Zla,Zlb,Zlc,Zld,Zle,Zlf,Zlh,Zlk,Zlm,Zlz,Zm5,Zm6,Zm7,Zm9,Zna,Znb,Zne,Znf,Zng,Zo3,Zo7,Zo8,eq_self,true_and,and_true,callable_36]
        tactic =>
        refine cl none (bdone_con src t s O T' (by omega)) trivial ?_
        sym =>
        simp [Za2,Za3,Zbu,Zbw,Zc7,Zc8,Zdf,Zdg,Zdh,Zdj,Zdk,Zdq,Zdr,Zdt,Zdu,Zdv,Zdw,Zdx,Zdy,Zdz,Zd0,Zd1,Zd3,Zec,Zek,Zen,Zeq,Zer,Zes,Zet,Zev,Zew,Zex,Zez,Ze0,Ze2,Ze5,Ze8,Zfc,Zfd,Zfe,Zgr,Zgs,Zgt,Zgv,Zgw,Zgx,Zjw,Zla,Zlb,Zlc,Zld,Zle,Zlf,Zlh,Zlk,Zlm,Zlz,Zm5,Zm7,Zm9,Zna,Znb,Zne,Znf,Zng,Zo7,eq_self,true_and,and_true,callable_44]
        tactic =>
        refine cl none (rleft_con t f cm U hri) trivial ?_
        rw [hlf]
        sym =>
        simp [Za2,Zbc,Zbe,Zbg,Zbu,Zc7,Zc8,Zdf,Zdg,Zdh,Zdj,Zdk,Zdp,Zdq,Zdr,Zdt,Zdu,Zdv,Zd0,Zd1,Zd2,Zd3,Zec,Zek,Zen,Zeq,Zer,Zes,Zet,Zev,Zew,Zex,Zez,Ze0,Ze2,Ze5,Ze8,Zfc,Zfd,Zfe,Zfh,Zfi,Zfl,Zfn,Zfz,Zf6,Zgr,Zgs,Zgt,Zjr,Zla,Zlb,Zlc,Zld,Zle,Zlf,Zlh,Zlk,Zlm,Zlz,Zm5,Zm7,Zm9,Zna,Znb,Zne,Znf,Zng,Zo3,Zo7,eq_self,true_and,and_true,hdd,callable_37]
        tactic =>
        refine cl none (wait_con src t s O T') trivial ?_
        sym =>
        simp [Zaa,Zab,Zae,Zaf,Zal,Zam,Zap,Zav,Zaz,Za0,Za1,Za2,Za3,Za4,Za5,Za9,Zba,Zbb,Zbe,Zbf,Zbg,Zbu,Zbw,Zc7,Zc8,Zdj,Zdk,Zdo,Zdp,Zdq,Zdr,Zdt,Zdu,Zdv,Zdw,Zdx,Zdy,Zdz,Zd0,Zd1,Zd2,Zek,Zev,Zew,Zex,Zez,Ze0,Ze2,Ze5,Ze8,Zfc,Zfd,Zfe,Zfh,Zfi,Zfl,Zfn,Zfq,Zf0,Zgr,Zgs,Zgt,Zgv,Zgw,Zgx,Zjr,Zlz,Zm6,Zm9,Zna,Znb,Zne,Zo3,Zo7,Zo8,eq_self,true_and,and_true,hw]
        tactic =>
        unfold NextL; refine ⟨(k - 1), [(0, 0), (1, 1)], _, by omega, ⟨i + 1, cm, U, s, O, T', by omega, hR, hTT, rfl⟩, wkA ?_⟩
        unfold oC rC
        sym =>
        simp [Za2,Za3,Zez,Zfc,Znr,Zpa,Zpc,Zpg,Zpi,Zpu,Zqb,Zqc,Zqf,Zqg,Zqh,Zqi,Zqk,Zql,Zqm,Zqn,eq_self,and_true]
      · have hbk := back_con src t s o T x.2.1 x.2.2 ht2 hR.hs hR.ho (by omega)
        have hrb := rback_con src t f x.2.1 cm ou T x.2.2 hR.ri hR.rk hR.hf.2.2 (by omega)
        obtain ⟨hR2, hM⟩ := rel_ack hR x.2.1 x.2.2
        have hTT : TOk (acT t s x.2.1 x.2.2 T) := TOk.timed (by split; exact hT.again; exact hT)
        rw [rel_T hR x.2.1 x.2.2 T, ← hM] at hrb
        have hR := hR2
        clear hR2 hM
        generalize acS t s x.2.1 x.2.2 = S at *
        generalize acO t s o x.2.1 x.2.2 = O at *
        generalize raC t f x.2.1 cm x.2.2 = C at *
        generalize raO t f x.2.1 cm ou x.2.2 = U at *
        generalize acT t s x.2.1 x.2.2 T = T' at *
        generalize acM t s x.2.1 x.2.2 = ok at *
        sym =>
        simp [Zab,Zad,Zae,Zaf,Zag,Zai,Zal,Zam,Zan,Zaq,Zaw,Zay,Zaz,Za0,Za1,Za2,Za3,Za4,Za5,Za9,Zba,Zbb,Zbf,Zbt,Zbv,Zdc,Zdd,Zde,Zev,Zew,Zez,Ze0,Ze2,Ze5,Ze8,Zfc,Zfd,Zfe,Zfh,Zfn,Zfu,Zfz,Zf1,Zgr,Zgs,Zgt,Zgv,Zgw,Zgx,Zla,Zlb,Zlc,Zld,Zle,Zlf,Zlh,Zlj,Zlk,Zlm,Zlt,Zlx,Zm5,Zm6,Zm7,Zm9,Zna,Znb,Znc,Zne,Znf,Zng,Znh,Znt,Zo7,Zo9,eq_self,true_and,and_true,Nat.zero_add,hjr,k0,k1,callable_33]
        tactic =>
        refine ⟨⟨by simp, cR_okI _⟩, ?_⟩
        rw [show List.take (x.2.2.length * 2) (cR x.2.2) = cR x.2.2 from List.take_of_length_le (by simp)]
        refine cl none (hbk) trivial ?_
        sym =>
        simp [Zab,Zam,Zaz,Za0,Za1,Za2,Za3,Za4,Za5,Za9,Zba,Zbb,Zbt,Zbv,Zb7,Zc3,Zdc,Zdd,Zde,Zdi,Zev,Zew,Zez,Ze0,Ze1,Ze2,Ze3,Ze5,Ze8,Zfc,Zfd,Zfe,Zfh,Zgr,Zgs,Zgt,Zgv,Zgw,Zgx,Zhb,Zhc,Ziu,Ziv,Ziw,Zi6,Zjh,Zji,Zjn,Zjs,Zj7,Zka,Zkx,Zky,Zk0,Zk1,Zla,Zlb,Zlc,Zld,Zle,Zlf,Zlh,Zlj,Zlk,Zll,Zlm,Zlz,Zl2,Zl3,Zl4,Zm5,Zm6,Zm7,Zm9,Zna,Znb,Zne,Znf,Zng,Znn,Zno,Znp,Zo7,eq_self,true_and,and_true,callable_42]
        tactic =>
        refine cl none (hrb) trivial ?_
        have lS := hR.hs.len ht2
        have lO := hR.ho.len ht2
        have bS := hR.hs.base ht2.1
        have hri := hR.ri
        have hbb := hR.base
        have hlf := hR.left
        have hou := rel_out hR
        have hok : (ok == ok) = true := by simp
        have hdd : (decide (lfF t S = 0) == decide (lfF t S = 0)) = true := by simp
        sym =>
        simp [Zac,Zad,Zam,Zap,Zaz,Za0,Za1,Za2,Za3,Za4,Za5,Za9,Zba,Zbb,Zbc,Zbg,Zbu,Zb7,Zc3,Zc7,Zc8,Zdf,Zdg,Zdh,Zdi,Zdp,Zdq,Zdr,Zdt,Zdu,Zdv,Zdw,Zdx,Zdy,Zd0,Zd1,Zd2,Zd3,Zec,Zek,Zen,Zeq,Zer,Zes,Zet,Zev,Zew,Zex,Zez,Ze0,Ze1,Ze2,Ze3,Ze5,Ze8,Zfc,Zfd,Zfe,Zfh,Zfn,Zf6,Zgr,Zgs,Zgt,Zhb,Zhc,Ziu,Ziv,Ziw,Zi6,Zjh,Zji,Zjn,Zjs,Zj7,Zka,Zkx,Zky,Zk0,Zk1,Zla,Zlb,Zlc,Zld,Zle,Zlf,Zlh,Zlk,Zlm,Zlz,Zl2,Zm5,Zm7,Zm9,Zna,Znb,Zne,Znf,Zng,Znn,Zno,Znp,Zo3,Zo7,eq_self,true_and,and_true,hok,hw,callable_34]
        tactic =>
        refine cl none (base_con' src t S O T' (by omega)) trivial ?_
        sym =>
        simp [Za2,Za3,Zbu,Zbw,Zc7,Zc8,Zdf,Zdg,Zdh,Zdj,Zdk,Zdq,Zdr,Zdt,Zdu,Zdv,Zdw,Zdx,Zdy,Zdz,Zd0,Zd1,Zd3,Zec,Zek,Zen,Zeq,Zer,Zes,Zet,Zev,Zew,Zex,Zez,Ze0,Ze2,Ze5,Ze8,Zfc,Zfd,Zfe,Zgr,Zgs,Zgt,Zgv,Zgw,Zgx,Zjr,Zla,Zlb,Zlc,Zld,Zle,Zlf,Zlh,Zlk,Zlm,Zlz,Zm5,Zm7,Zm9,Zna,Znb,Zne,Znf,Zng,Zo7,eq_self,true_and,and_true,callable_43]
        tactic =>
        refine cl none (rbase_con t f C U hri) trivial ?_
        rw [hbb]
        sym =>
        simp [Za2,Zbc,Zbe,Zbg,Zbu,Zc7,Zc8,Zdf,Zdg,Zdh,Zdj,Zdk,Zdp,Zdq,Zdr,Zdt,Zdu,Zdv,Zd0,Zd1,Zd2,Zd3,Zec,Zek,Zen,Zeq,Zer,Zes,Zet,Zev,Zew,Zex,Zez,Ze0,Ze2,Ze5,Ze8,Zfc,Zfd,Zfe,Zfh,Zfi,Zfl,Zfn,Zf0,Zgr,Zgs,Zgt,Zjr,Zla,Zlb,Zlc,Zld,Zle,Zlf,Zlh,Zlk,Zlm,Zlz,Zm5,Zm7,Zm9,Zna,Znb,Zne,Znf,Zng,Zo3,Zo7,Zo8,eq_self,true_and,and_true,callable_38]
        tactic =>
        refine cl none (waits_con src t S O T' (by omega) (by omega) ht _ rfl (by omega)) trivial ?_
        rw [hou]
        sym =>
        simp [Za2,Za3,Zbc,Zbe,Zbg,Zbu,Zbw,Zco,Zc7,Zc8,Zdf,Zdg,Zdh,Zdj,Zdk,Zdp,Zdq,Zdr,Zdt,Zdu,Zdv,Zdw,Zdx,Zdy,Zdz,Zd0,Zd1,Zd2,Zd3,Zeb,Zec,Zek,Zen,Zeq,Zer,Zes,Zet,Zev,Zew,Zex,Zez,Ze0,Ze2,Ze5,Ze8,Zfc,Zfd,Zfe,Zfh,Zfi,Zfl,Zfn,Zf0,Zgr,Zgs,Zgt,Zgv,Zgw,Zgx,Zh6,Zh7,Zjr,Zla,Zlb,Zlc,Zld,Zle,Zlf,Zlh,Zlk,Zlm,Zlz,Zm5,Zm6,Zm7,Zm9,Zna,Znb,Zne,Znf,Zng,Zo3,Zo7,Zo8,eq_self,true_and,and_true,callable_36]
        tactic =>
        refine cl none (bdone_con src t S O T' (by omega)) trivial ?_
        sym =>
        simp [Za2,Za3,Zbu,Zbw,Zc7,Zc8,Zdf,Zdg,Zdh,Zdj,Zdk,Zdq,Zdr,Zdt,Zdu,Zdv,Zdw,Zdx,Zdy,Zdz,Zd0,Zd1,Zd3,Zec,Zek,Zen,Zeq,Zer,Zes,Zet,Zev,Zew,Zex,Zez,Ze0,Ze2,Ze5,Ze8,Zfc,Zfd,Zfe,Zgr,Zgs,Zgt,Zgv,Zgw,Zgx,Zjw,Zla,Zlb,Zlc,Zld,Zle,Zlf,Zlh,Zlk,Zlm,Zlz,Zm5,Zm7,Zm9,Zna,Znb,Zne,Znf,Zng,Zo7,eq_self,true_and,and_true,callable_44]
        tactic =>
        refine cl none (rleft_con t f C U hri) trivial ?_
        rw [hlf]
        sym =>
        simp [Za2,Zbc,Zbe,Zbg,Zbu,Zc7,Zc8,Zdf,Zdg,Zdh,Zdj,Zdk,Zdp,Zdq,Zdr,Zdt,Zdu,Zdv,Zd0,Zd1,Zd2,Zd3,Zec,Zek,Zen,Zeq,Zer,Zes,Zet,Zev,Zew,Zex,Zez,Ze0,Ze2,Ze5,Ze8,Zfc,Zfd,Zfe,Zfh,Zfi,Zfl,Zfn,Zfz,Zf6,Zgr,Zgs,Zgt,Zjr,Zla,Zlb,Zlc,Zld,Zle,Zlf,Zlh,Zlk,Zlm,Zlz,Zm5,Zm7,Zm9,Zna,Znb,Zne,Znf,Zng,Zo3,Zo7,eq_self,true_and,and_true,hdd,callable_37]
        tactic =>
        refine cl none (wait_con src t S O T') trivial ?_
        sym =>
        simp [Zaa,Zab,Zae,Zaf,Zal,Zam,Zap,Zav,Zaz,Za0,Za1,Za2,Za3,Za4,Za5,Za9,Zba,Zbb,Zbe,Zbf,Zbg,Zbu,Zbw,Zc7,Zc8,Zdj,Zdk,Zdo,Zdp,Zdq,Zdr,Zdt,Zdu,Zdv,Zdw,Zdx,Zdy,Zdz,Zd0,Zd1,Zd2,Zek,Zev,Zew,Zex,Zez,Ze0,Ze2,Ze5,Ze8,Zfc,Zfd,Zfe,Zfh,Zfi,Zfl,Zfn,Zfq,Zf0,Zgr,Zgs,Zgt,Zgv,Zgw,Zgx,Zjr,Zlz,Zm6,Zm9,Zna,Znb,Zne,Zo3,Zo7,Zo8,eq_self,true_and,and_true,hw]
        tactic =>
        unfold NextL; refine ⟨(k - 1), [(0, 0), (1, 1)], _, by omega, ⟨i + 1, C, U, S, O, T', by omega, hR, hTT, rfl⟩, wkA ?_⟩
        unfold oC rC
        sym =>
        simp [Za2,Za3,Zez,Zfc,Znr,Zpa,Zpc,Zpg,Zpi,Zpu,Zqb,Zqc,Zqf,Zqg,Zqh,Zqi,Zqk,Zql,Zqm,Zqn,eq_self,and_true]
  · sym =>
    simp [Zab,Zad,Zae,Zaf,Zai,Zam,Zan,Zaq,Zaw,Zay,Za4,Za5,Za9,Zba,Zbf,Zdc,Zdd,Zde,Zev,Zew,Zez,Ze0,Ze2,Zfd,Zfe,Zfn,Zf1,Zla,Zna,Znb,Zne,Znf,Znt,Zo7,Zo9,eq_self,true_and,h,callable_30]
    tactic =>
    and_intros <;> try (first | omega | rfl | assumption | exact cR_okF _ | exact cR_okI _ | exact cS_okI _ | exact rs_self (cR_okI _) | exact rs_self (cS_okI _) | (symm; refine List.take_of_length_le ?_; simp <;> omega))
    refine cl none (alive_con) trivial ?_
    sym =>
    simp [Zak,Zam,Zaz,Za0,Za1,Za2,Za3,Za4,Za5,Za9,Zba,Zbb,Zdi,Zev,Zez,Ze0,Ze2,Zfd,Zfe,Zfh,Zjw,Zlz,Zmt,Zmv,Zmw,Zmx,Zmz,Zm2,Zo7,eq_self,true_and]
    tactic =>
    refine endA ?_
    sym =>
    simp [Zpc,eq_self]
theorem plays_law (src : List Int) (b : Int) (l : List (Int × Int × List (Int × Int))) : Con Try.prog 7 [] [.fz src.length (src.flatMap fun n : Int => [AV.sc (.int .u8 n)]), I b, .fz l.length (l.flatMap fun x => [AV.sc (.int .u8 x.1)] ++ ([AV.sc (.int .i64 x.2.1)] ++ [AV.fz x.2.2.length (x.2.2.flatMap fun r : Int × Int => [AV.sc (.int .i64 r.1)] ++ [AV.sc (.int .i64 r.2)])]))] [] (Bo true) := by
  rw [flat_cB]
  exact plays_con src b l
end Go.Proofs.Ytbmdahhhgpbchaa.OpJ
