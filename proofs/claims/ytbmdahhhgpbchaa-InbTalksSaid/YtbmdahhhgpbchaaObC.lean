import Derived.Test.YtbmdahhhgpbchaaObB
namespace Go.Proofs.Ytbmdahhhgpbchaa.ObC
open Go Go.Sim Go.Sim.E Go.RowKit Go.Proofs Go.Proofs.Ytbmdahhhgpbchaa.Cod Go.Proofs.Ytbmdahhhgpbchaa.Tab Go.Proofs.Ytbmdahhhgpbchaa.Bse Go.Proofs.Ytbmdahhhgpbchaa.SpnP Go.Proofs.Ytbmdahhhgpbchaa.SwA Go.Proofs.Ytbmdahhhgpbchaa.SwB Go.Proofs.Ytbmdahhhgpbchaa.SwC Go.Proofs.Ytbmdahhhgpbchaa.SwS Go.Proofs.Ytbmdahhhgpbchaa.SwD Go.Proofs.Ytbmdahhhgpbchaa.SwF Go.Proofs.Ytbmdahhhgpbchaa.SwG Go.Proofs.Ytbmdahhhgpbchaa.SwL Go.Proofs.Ytbmdahhhgpbchaa.ObA Go.Proofs.Ytbmdahhhgpbchaa.ObB
set_option linter.unusedVariables false
set_option linter.unusedSimpArgs false
set_option maxRecDepth 100000
set_option maxHeartbeats 4000000
def pc (src : List Int) (r : Rg) : List Int := (src.drop r.1.toNat).take (r.2.toNat - r.1.toNat)
def enP (src : List Int) (r : Rg) : List AV := [I r.1, fB (pc src r)]
def cP (src : List Int) (rs : List Rg) : List AV := rs.flatMap (enP src)
abbrev fP (src : List Int) (rs : List Rg) : AV := .fz rs.length (cP src rs)
@[simp] theorem cP_length (src : List Int) (l : List Rg) : (cP src l).length = l.length * 2 := flat_length (enP src) 2 l (fun _ _ => rfl)
theorem cP_snoc (src : List Int) (l : List Rg) (r : Rg) : cP src (l ++ [r]) = cP src l ++ [I r.1, fB (pc src r)] := by simp [cP, enP]
@[simp] theorem cP_okI (src : List Int) (l : List Rg) : okI (cP src l) := by
  refine okI_flat (fun a => ?_) l
  intro x hx
  simp only [enP, List.mem_cons, List.not_mem_nil, or_false] at hx
  rcases hx with rfl | rfl <;> simp [isF, okI]
theorem cP_q0 (src : List Int) (l : List Rg) (i : Nat) (h : i < l.length) : (cP src l).getD (i * 2) .un = I l[i].1 := by
  have := flat_at (enP src) (s := 2) l (fun _ _ => rfl) i 0 h (by omega)
  rw [List.getD_eq_getElem?_getD]
  simpa [enP, cP, List.getElem?_eq_getElem h] using congrArg (fun x => x.getD AV.un) this
theorem cP_q1 (src : List Int) (l : List Rg) (i : Nat) (h : i < l.length) : (cP src l).getD (i * 2 + 1) .un = fB (pc src l[i]) := by
  have := flat_at (enP src) (s := 2) l (fun _ _ => rfl) i 1 h (by omega)
  rw [List.getD_eq_getElem?_getD]
  simpa [enP, cP, List.getElem?_eq_getElem h] using congrArg (fun x => x.getD AV.un) this
def pollF (t : Int) (s : List Rg) (b : Int) : Nat → List Rg → List Rg × List Rg
  | 0, o => ([], o)
  | n + 1, o => match nxF s o (segs t b) with
    | none => ([], o)
    | some r => (r :: (pollF t s b n (addS o r.1 r.2)).1, (pollF t s b n (addS o r.1 r.2)).2)
theorem pollF_none {t b : Int} {s o : List Rg} (h : nxF s o (segs t b) = none) (n : Nat) : pollF t s b n o = ([], o) := by
  cases n with
  | zero => rfl
  | succ n => simp only [pollF, h]
theorem pollF_some {t b : Int} {s o : List Rg} {r : Rg} (h : nxF s o (segs t b) = some r) (n : Nat) :
    pollF t s b (n + 1) o = (r :: (pollF t s b n (addS o r.1 r.2)).1, (pollF t s b n (addS o r.1 r.2)).2) := by
  simp only [pollF, h]
theorem poll_ok {t b : Int} {s : List Rg} (ht : 0 ≤ t ∧ t ≤ 1099511627776) : ∀ (n : Nat) (o : List Rg), Ok t o →
    Ok t (pollF t s b n o).2 ∧ (∀ r ∈ (pollF t s b n o).1, b ≤ r.1 ∧ r.1 < r.2 ∧ r.2 ≤ t ∧ r.2 - r.1 ≤ 256)
  | 0, o, ho => ⟨ho, fun r hr => by cases hr⟩
  | n + 1, o, ho => by
    rcases h : nxF s o (segs t b) with _ | r
    · rw [pollF_none h]; exact ⟨ho, fun r hr => by cases hr⟩
    · rw [pollF_some h]
      obtain ⟨r0, r1, r2, r3, r4, r5, r6⟩ := nx_spec h
      obtain ⟨a, b⟩ := poll_ok ht n (addS o r.1 r.2) (ho.add ht r.1 r.2 r5).1
      refine ⟨a, fun x hx => ?_⟩
      rcases List.mem_cons.1 hx with rfl | hx
      · omega
      · exact b x hx
theorem cnt_next {t b : Int} {s o : List Rg} {r : Rg} (ht : 0 ≤ t ∧ t ≤ 1099511627776) (ho : Ok t o) (h : nxF s o (segs t b) = some r) (hb : 0 ≤ b) :
    cntF (addS o r.1 r.2) (segs t b) = cntF o (segs t b) + 1 := by
  obtain ⟨r0, r1, r2, r3, r4, r5, r6⟩ := nx_spec h
  have hA := (ho.add ht r.1 r.2 r5).2.1
  exact cnt_add (t := t) (e := min t (b + 2048)) (o := o) (o' := addS o r.1 r.2) (r := r) r1 (fun n => by rw [hasF_mem, hasF_mem, hA n, lim_id (by omega) (by omega), lim_id (by omega) (by omega)]) ⟨r4, by omega⟩ 9 b r0
theorem poll_cnt {t b : Int} {s : List Rg} (ht : 0 ≤ t ∧ t ≤ 1099511627776) (hb : 0 ≤ b) : ∀ (n : Nat) (o : List Rg), Ok t o →
    cntF (pollF t s b n o).2 (segs t b) = cntF o (segs t b) + (pollF t s b n o).1.length
  | 0, o, ho => rfl
  | n + 1, o, ho => by
    rcases h : nxF s o (segs t b) with _ | r
    · rw [pollF_none h]; rfl
    · rw [pollF_some h]
      have h1 := (nx_spec h).2.2.2.2.2.1
      have := poll_cnt (s := s) ht hb n (addS o r.1 r.2) (ho.add ht r.1 r.2 h1).1
      have := cnt_next ht ho h hb
      simp only [List.length_cons]
      omega
theorem poll_len {t b : Int} {s o : List Rg} (ht : 0 ≤ t ∧ t ≤ 1099511627776) (hb : 0 ≤ b) (ho : Ok t o) (n : Nat) : (pollF t s b n o).1.length ≤ 8 := by
  have := poll_cnt (s := s) ht hb n o ho
  have := cnt8 t b (pollF t s b n o).2
  omega
def i32 (src : List Int) (t : Int) (s : List Rg) (T : Tm) (b : Int) (R : List Rg × List Rg) (k : Nat) (q : St) : Prop := ∃ (rs o : List Rg), rs.length + k = 9 ∧ Ok t o ∧ rs.length ≤ cntF o (segs t b) ∧
  R = (rs ++ (pollF t s b k o).1, (pollF t s b k o).2) ∧
  q = ⟨[(1, .pt 0 0), (2, .pt 1 0), (4, .lv 2 0 rs.length)], [(0, ⟨[fB src, I t, fR s, fR o, Bo T.1, I T.2.1, I T.2.2], 1, 0⟩), (1, ⟨[.nl, I 0, .nl, .nl, Bo false, I 0, I 0], 1, 0⟩), (2, ⟨cP src rs, 2, 0⟩)], 3⟩
theorem poll_con (src : List Int) (s o : List Rg) (T : Tm) (t : Int) (et : t = IN src.length) (hsrc : src.length ≤ 20000) (hs : Ok t s) (ho : Ok t o) (b : Int) (hb : endF (lim 0) s = b) :
    Con Try.prog 32 [] [oV src t s o T] [] (.tu [oV src t s (pollF t s b 9 o).2 T, fP src (pollF t s b 9 o).1]) := by
  have ht2 : 0 ≤ t ∧ t ≤ 20000 := by rw [et]; simp only [IN]; omega
  have ht : 0 ≤ t ∧ t ≤ 1099511627776 := by omega
  have ls := hs.len ht2
  have bs := hs.base ht.1
  rw [hb] at bs
  obtain ⟨R, hR⟩ : ∃ R, R = pollF t s b 9 o := ⟨_, rfl⟩
  rw [← hR]
  refine con_j b32 rfl ?_
  sym =>
  simp [Zab,Zad,Zag,Zah,Zaj,Zam,Zxe,Zay,Zaz,Za0,Za1,Za2,Za3,Za4,Za5,Za9,Zba,Zbb,Zcv,Zcx,Zev,Zew,Zez,Ze0,Ze2,Ze3,Zfd,Zfe,Zfh,Zin,Zio,Zip,Zi6,Zna,Znb,Zos,Zot,Zo7,eq_self,true_and]
  tactic =>
  refine lpA (i32 src t s T b R) 9 [(0, 0), (1, 1)] _ ⟨[], o, rfl, ho, by simp, by rw [hR]; rfl, rfl⟩ (wkA ?_) ?_
  · sym =>
    simp [Za2,Za3,Zez,Zfb,Zfc,Zna,Znr,Zpa,Zpd,Zpg,Zpr,Zpu,Zqb,Zqc,Zqf,Zqg,Zqh,Zqi,Zqj,Zqk,Zql,Zqm,Zqn,eq_self,true_and,and_true]
    tactic =>
    and_intros <;> try (first | omega | rfl | assumption | exact cR_okF _ | exact cR_okI _ | exact cB_okI _ | exact cP_okI _ _)
  rintro k q ⟨rs, o, hk, ho, hc, hR, rfl⟩
  have lo := ho.len ht2
  have c8 := cnt8 t b o
  sym =>
  simp [Zab,Zad,Zag,Za5,Za9,Zba,Zbt,Zbv,Zdc,Zdd,Zde,Zev,Zew,Zez,Ze0,Ze2,Ze5,Ze8,Zfc,Zfd,Zfe,Zgr,Zgs,Zgt,Zgv,Zgw,Zgx,Zla,Zlb,Zlc,Zld,Zle,Zlf,Zlh,Zlk,Zlm,Zm5,Zm7,Zm9,Zna,Znb,Zne,Znf,Zng,List.length_drop,eq_self,true_and,and_true,callable_70]
  tactic =>
  rcases hq : nxF s o (segs t b) with _ | r
  · refine cl none (next_con t s o (by omega) (by omega) ht b hb (by omega) none hq) trivial ?_
    unfold nxR
    have e1 : R = (rs, o) := by rw [hR, pollF_none hq, List.append_nil]
    rw [e1]
    sym =>
    simp [Zab,Zad,Zae,Zaf,Zai,Zak,Zam,Zan,Zaq,Zau,Zaw,Zaz,Za0,Za1,Za2,Za3,Za4,Za5,Za9,Zba,Zbb,Zbj,Zbt,Zb7,Zcv,Zc3,Zdi,Zev,Zez,Ze0,Ze1,Ze2,Ze3,Ze5,Ze8,Zfc,Zfd,Zfe,Zfh,Zgd,Zgg,Zgr,Zgs,Zgt,Zhb,Zhc,Zin,Ziu,Ziv,Ziw,Zi6,Zjh,Zji,Zjn,Zjq,Zjs,Zj7,Zka,Zkx,Zky,Zk0,Zk1,Zlz,Zl2,Zmt,Zmv,Zmw,Zmx,Zmy,Zmz,Zm0,Zm1,Zm3,Zm5,Zm7,Zm9,Zna,Znb,Znn,Zno,Znp,Zof,Zog,Zo4,Zo7,eq_self,true_and,and_true]
    tactic =>
    refine endA ?_
    sym =>
    simp [Zfc,Znh,Zpa,Zpg,Zpz,Zp1,Zp2,Zp7,Zp9,Zqb,Zqc,Zqd,Zqe,eq_self,true_and,and_true,Nat.zero_add]
    tactic =>
    and_intros <;> try (first | omega | rfl | assumption | exact cR_okF _ | exact cR_okI _ | exact cB_okI _ | exact cP_okI _ _)
    · exact (List.take_of_length_le (by simp)).symm
    · simp
  · obtain ⟨r0, r1, r2, r3, r4, r5, r6⟩ := nx_spec hq
    refine cl none (next_con t s o (by omega) (by omega) ht b hb (by omega) (some r) hq) trivial ?_
    unfold nxR
    have hpl : (pc src r).length = r.2.toNat - r.1.toNat := by
      simp only [pc, List.length_take, List.length_drop]
      simp only [IN] at et
      omega
    have e1 : List.take (r.2.toNat - r.1.toNat) (List.drop r.1.toNat (cB src)) = cB (pc src r) := by rw [pc, cB_take, cB_drop]
    sym =>
    simp [Zaa,Zab,Zac,Zad,Zae,Zaf,Zal,Zam,Zaz,Za0,Za1,Za2,Za3,Za4,Za5,Za9,Zba,Zbb,Zbc,Zbj,Zbt,Zbu,Zbv,Zbw,Zb7,Zci,Zcv,Zc3,Zc7,Zc8,Zdi,Zdm,Zrk,Zrl,Zrm,Zrn,Zro,Zrq,Zrr,Zva,Zru,Zrx,Zry,Zrz,Zr5,Zsf,Zsh,Zsj,Zdp,Zdt,Zdu,Zdv,Zdw,Zdx,Zdy,Zdz,Zd0,Zd1,Zd2,Zeb,Zeh,Zek,Zeq,Zet,Zev,Zew,Zez,Ze0,Ze1,Ze2,Ze3,Ze5,Ze8,Zfc,Zfd,Zfe,Zfh,Zgd,Zgg,Zgr,Zgs,Zgt,Zgv,Zgw,Zgx,Zhb,Zhc,Zhn,Zho,Zhs,Zht,Zhu,Zin,Ziu,Ziv,Ziw,Zi6,Zjh,Zji,Zjn,Zjq,Zj7,Zka,Zkx,Zky,Zk0,Zk1,Zll,Zlz,Zl2,Zm5,Zm6,Zm7,Zm9,Zna,Znb,Zne,Znf,Zng,Znn,Zno,Znp,Zo3,Zo7,eq_self,true_and,and_true,Nat.mul_one]
    tactic =>
    rw [e1, ← hpl]
    refine ⟨⟨by omega, by omega, by omega⟩, callable_68, ?_⟩
    refine clG [] none (clone_con (pc src r) (by omega)) rfl ⟨trivial, trivial, rfl⟩ ?_
    have hcn := cnt_next ht ho hq (by omega : 0 ≤ b)
    have hc8 := cnt8 t b (addS o r.1 r.2)
    have hk2 : k = (k - 1) + 1 := by omega
    rw [hk2, pollF_some hq] at hR
    sym =>
    simp [Zap,Zav,Zaz,Za0,Za1,Za2,Za3,Zbc,Zca,Zc0,Zc6,Zc7,Zc8,Zc9,Zsm,Zsn,Zso,Zsr,Zsw,Zdo,Zdp,Zdt,Zdu,Zdv,Zdw,Zdx,Zdy,Zdz,Zd0,Zd1,Zd2,Zd3,Zeb,Zec,Zeh,Zen,Zer,Zes,Zev,Zez,Ze0,Ze2,Ze3,Ze4,Ze5,Zfc,Zfd,Zfe,Zff,Zfg,Zfh,Zhd,Zhe,Zhf,Zhg,Zhh,Ziq,Zir,Zix,Ziz,Zi0,Zi2,Zi3,Zi6,Zi7,Zjb,Zjj,Zjk,Zjo,Zj8,Zl2,Zna,Znb,Znc,Znd,Zne,Znh,Znl,Znm,Znn,Zno,Znp,Zo7,List.append_assoc,List.length_append,eq_self,true_and,and_true,Nat.zero_add]
    tactic =>
    refine ⟨⟨by omega, by omega, by simp, by omega⟩, ?_⟩
    unfold NextL; refine ⟨(k - 1), [(0, 0), (1, 1), (2, 33)], _, by omega, ⟨rs ++ [r], addS o r.1 r.2, by simp; omega, (ho.add ht r.1 r.2 r5).1, by rw [hcn]; simp; omega, by rw [hR]; simp, rfl⟩, wkA ?_⟩
    rw [cP_snoc]
    sym =>
    simp [Za2,Za3,Zez,Zfc,Zna,Znb,Znr,Zpa,Zpd,Zpg,Zpo,Zpu,Zqb,Zqc,Zqf,Zqg,Zqh,Zqi,Zqk,Zql,Zqm,Zqn,List.length_append,eq_self,true_and,and_true]
    tactic =>
    rw [← cP_snoc src rs r]
    exact rs_self (cP_okI _ _)
theorem take_eq_step {a b : List Int} {i : Nat} (h : a.take i = b.take i) (ha : i < a.length) (hb : i < b.length) (e : a.getD i 0 = b.getD i 0) : a.take (i + 1) = b.take (i + 1) := by
  rw [take_stepD a i ha, take_stepD b i hb, h, e]
def i22 (a b : List Int) (k : Nat) (s : St) : Prop := ∃ i : Nat, i + k = a.length ∧ a.take i = b.take i ∧ s = ⟨[(0, fB a), (1, fB b), (5, I (IN i))], [], 0⟩
theorem nsame_con (a b : List Int) (ha : a.length < 4611686018427387904) : Con Try.prog 22 [] [fB a, fB b] [] (Bo (decide (a = b))) := by
  refine con_j b22 rfl ?_
  by_cases hl : a.length = b.length
  · have hl1 : IN a.length = IN b.length := by rw [hl]
    sym =>
    simp [Zaa,Zab,Zad,Zae,Zaf,Zag,Zah,Zal,Zam,Zaz,Za0,Za1,Za2,Za3,Za4,Za5,Za9,Zba,Zbb,Zbf,Zcn,Zev,Zew,Zez,Ze0,Ze2,Ze5,Zfd,Zfe,Zfh,Zfn,Zf0,Zh6,Zh7,Zna,Znb,Zos,Zot,Zo3,Zo7,Zo8,eq_self,true_and,hl1]
    tactic =>
    refine lpA (i22 a b) a.length [] _ ⟨0, by omega, rfl, rfl⟩ (wkA ?_) ?_
    · sym =>
      simp [Zez,Zn5,Zpc,Zpi,Zqf,Zqg,Zqh,Zqm,eq_self,and_true]
    rintro k s ⟨i, hi, ht, rfl⟩
    by_cases h : i < a.length
    · have hI : IN i < IN a.length := by simp only [IN]; omega
      have hI2 : IN i < IN b.length := by simp only [IN]; omega
      have hw := w64s i (by omega)
      have ga := cB_get a i h
      have gb := cB_get b i (by omega)
      have hb : i < b.length := by omega
      by_cases he : a.getD i 0 = b.getD i 0
      · sym =>
        simp [Zaa,Zab,Zac,Zad,Zae,Zaf,Zag,Zal,Zam,Zap,Zav,Zaz,Za0,Za1,Za2,Za3,Za4,Za5,Za9,Zba,Zbb,Zbc,Zbf,Zbg,Zbu,Zb2,Zcn,Zc7,Zc8,Zdo,Zdp,Zdt,Zdu,Zdv,Zdw,Zdx,Zdy,Zd0,Zd1,Zd2,Zeb,Zee,Zev,Zew,Zez,Ze0,Ze2,Ze5,Zfd,Zfe,Zfh,Zfn,Zfq,Zf0,Zf1,Zgr,Zgu,Zg4,Zg6,Zho,Zh6,Zh7,Zm6,Zna,Znb,Zne,Zns,Znt,Znw,Zo3,Zo7,Zo8,eq_self,true_and,and_true,Nat.mul_one,h,hb,hw,ga,gb,he,cB_length]
        tactic =>
        and_intros <;> try (first | omega | rfl | assumption | exact cR_okF _ | exact cR_okI _ | exact cB_okI _ | exact cP_okI _ _)
        unfold NextL; refine ⟨(k - 1), [], _, by omega, ⟨i + 1, by omega, take_eq_step ht h (by omega) he, rfl⟩, wkA ?_⟩
        sym =>
        simp [Zez,Zpc,Zpi,Zqf,Zqg,Zqh,Zqm,eq_self,and_true]
      · have hab : ¬ a = b := fun e => he (by rw [e])
        sym =>
        simp [Zaa,Zab,Zac,Zad,Zae,Zaf,Zag,Zak,Zal,Zam,Zao,Zar,Zax,Zay,Zaz,Za0,Za1,Za2,Za3,Za4,Za5,Za9,Zba,Zbb,Zbc,Zbf,Zbg,Zbu,Zb2,Zcn,Zc7,Zc8,Zdo,Zdp,Zdt,Zdu,Zdv,Zdw,Zdx,Zdy,Zd0,Zd1,Zd2,Zeb,Zee,Zev,Zew,Zez,Ze0,Ze2,Ze5,Zfd,Zfe,Zfh,Zfn,Zf0,Zf1,Zgr,Zgu,Zg4,Zg6,Zho,Zh6,Zh7,Zmt,Zmv,Zmw,Zmx,Zmz,Zm2,Zm6,Zna,Znb,Zne,Zns,Znt,Znw,Zo4,Zo7,Zo8,Zo9,eq_self,true_and,and_true,Nat.mul_one,h,hb,hw,ga,gb,he,cB_length]
        tactic =>
        and_intros <;> try (first | omega | rfl | assumption | exact cR_okF _ | exact cR_okI _ | exact cB_okI _ | exact cP_okI _ _)
        refine endA ?_
        sym =>
        simp [Zo9,Zpc,eq_self,hab]
    · have hab : a = b := by
        rw [List.take_of_length_le (by omega), List.take_of_length_le (by omega)] at ht
        exact ht
      sym =>
      simp [Zab,Zad,Zae,Zaf,Zai,Zak,Zam,Zan,Zaq,Zaw,Zaz,Za0,Za1,Za2,Za3,Za4,Za5,Za9,Zba,Zbb,Zbf,Zcn,Zev,Zew,Zez,Ze0,Ze2,Ze5,Zfd,Zfe,Zfh,Zfn,Zf1,Zh6,Zh7,Zmt,Zmv,Zmw,Zmx,Zmz,Zm2,Zna,Znb,Znt,Zo7,Zo9,eq_self,true_and,h]
      tactic =>
      refine endA ?_
      sym =>
      simp [Zo8,Zpc,eq_self,hab]
  · have hl1 : ¬ IN a.length = IN b.length := by simp only [IN]; omega
    have hab : ¬ a = b := fun e => hl (by rw [e])
    sym =>
    simp [Zab,Zad,Zae,Zaf,Zak,Zal,Zam,Zao,Zay,Zaz,Za0,Za1,Za2,Za3,Za4,Za5,Za9,Zba,Zbb,Zbf,Zcn,Zev,Zew,Zez,Ze0,Ze2,Ze5,Zfd,Zfe,Zfh,Zfn,Zf0,Zh6,Zh7,Zmt,Zmv,Zmw,Zmx,Zmz,Zm2,Zna,Znb,Znv,Zos,Zot,Zo4,Zo7,Zo9,eq_self,true_and,hl]
    tactic =>
    refine endA ?_
    sym =>
    simp [Zo9,Zpc,eq_self,hab]
end Go.Proofs.Ytbmdahhhgpbchaa.ObC
