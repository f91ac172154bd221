import Derived.Test.YtdjjibmjinllnaaDelG
namespace Go.Proofs.Ytdjjibmjinllnaa.DelH
open Go Go.Sim Go.Sim.E Go.RowKit Go.Proofs Go.Proofs.Ytdjjibmjinllnaa.Cod Go.Proofs.Ytdjjibmjinllnaa.Tab Go.Proofs.Ytdjjibmjinllnaa.Bse Go.Proofs.Ytdjjibmjinllnaa.DelA Go.Proofs.Ytdjjibmjinllnaa.DelB Go.Proofs.Ytdjjibmjinllnaa.DelC Go.Proofs.Ytdjjibmjinllnaa.DelD Go.Proofs.Ytdjjibmjinllnaa.Krc Go.Proofs.Ytdjjibmjinllnaa.DelE Go.Proofs.Ytdjjibmjinllnaa.DelF Go.Proofs.Ytdjjibmjinllnaa.DelG
set_option linter.unusedVariables false
set_option linter.unusedSimpArgs false
set_option maxRecDepth 100000
set_option maxHeartbeats 4000000
def paF : Nat → List Int → List Pc → List Pc × Int × Int
  | _, [], _ => ([], 0, 4)
  | 0, _ :: _, _ => ([], 0, 4)
  | n + 1, c :: t, l => if c = 69 then (if (laS t).2 = 0 then (l, (laS t).1, 0) else ([], 0, (laS t).2)) else if c = 67 then (if (fiF c t).2.2 = 0 then paF n (fiF c t).2.1 (l ++ [(fiF c t).1]) else ([], 0, (fiF c t).2.2)) else if c = 79 then (if (fiF c t).2.2 = 0 then paF n (fiF c t).2.1 (l ++ [(fiF c t).1]) else ([], 0, (fiF c t).2.2)) else ([], 0, 3)
theorem fiF_short (c : Int) (t : List Int) : (fiF c t).2.1.length ≤ t.length := by
  unfold fiF
  repeat' split
  all_goals simp
  all_goals omega
theorem fiF_byt (c : Int) (t : List Int) (h : byt8 t) : byt8 (fiF c t).2.1 := by
  unfold fiF
  repeat' split
  all_goals first
    | exact byt8_drop (byt8_drop h _) _
    | (intro x hx; cases hx)
abbrev paV (r : List Pc × Int × Int) : AV := .tu [fP r.1, U r.2.1, I r.2.2]
def i60 (R : List Pc × Int × Int) (N : Nat) (k : Nat) (s : St) : Prop := ∃ b l, paF k b l = R ∧ b.length ≤ k ∧ byt8 b ∧ l.length + b.length ≤ N ∧ s = ⟨[(0, fB b), (5, .lv 0 0 l.length)], [(0, ⟨cP l, 3, 0⟩)], 1⟩
theorem parse_con (b : List Int) (hb : byt8 b) (hl : b.length ≤ 100000000000) : Con Try.prog 60 [] [fB b] [] (paV (paF b.length b [])) := by
  refine con_j b60 rfl ?_
  sym =>
  simp [Zaa,Zab,Zad,Zae,Zaf,Zag,Zah,Zai,Zak,Zal,Zam,Zan,Zao,Zap,Zaq,Zar,Zav,Zaw,Zax,Zay,Zaz,Za0,Za1,Za2,Za3,Za4,Za5,Za9,Zba,Zbb,Zbf,Zbt,Zb1,Zb7,Zcn,Zcv,Zcz,Zc3,Zc5,Zdc,Zdd,Zde,Zdi,Zev,Zew,Zez,Ze0,Ze1,Ze2,Ze3,Ze4,Ze5,Ze8,Zfb,Zfc,Zfd,Zfe,Zff,Zfg,Zfh,Zfn,Zfz,Zf0,Zf3,Zgr,Zgs,Zgt,Zgu,Zg4,Zg6,Zhb,Zhc,Zhf,Zhg,Zhh,Zho,Zh6,Zh7,Zin,Ziq,Zir,Ziu,Ziv,Ziw,Zix,Ziz,Zi0,Zi2,Zi3,Zi6,Zjh,Zji,Zjj,Zjk,Zjn,Zjo,Zjq,Zj7,Zj8,Zka,Zkx,Zky,Zkz,Zk0,Zk1,Zk2,Zla,Zlb,Zle,Zll,Zlz,Zl2,Zmt,Zmv,Zmw,Zmx,Zmz,Zm3,Zm5,Zm6,Zm7,Zm9,Zna,Znb,Zne,Znf,Zng,Znh,Znl,Znm,Znn,Zno,Znp,Znr,Znx,Zn5,Zof,Zog,Zoh,Zrd,Zos,Zot,Zo3,Zo4,Zo7,Zo8,Zo9,Zpb,Zpi,Zpo,Zpr,Zpw,Zpz,Zp1,Zp2,Zp9,Zqd,Zqe,Zqf,Zqg,Zqh,Zqi,Zqj,Zqk,Zql,Zqm,Zqn,List.length_append,eq_self,true_and,and_true,and_false,Nat.zero_add]
  tactic =>
  obtain ⟨R, hR⟩ : ∃ R, R = paF b.length b [] := ⟨_, rfl⟩
  rw [← hR]
  refine lpA (i60 R b.length) b.length [] _ ⟨b, [], hR.symm, Nat.le_refl _, hb, by simp, rfl⟩ (wkA ?_) ?_
  · sym =>
    simp [Zaa,Zab,Zad,Zae,Zaf,Zag,Zah,Zai,Zak,Zal,Zam,Zan,Zao,Zap,Zaq,Zar,Zav,Zaw,Zax,Zay,Zaz,Za0,Za1,Za2,Za3,Za4,Za5,Za9,Zba,Zbb,Zbf,Zbt,Zb1,Zb7,Zcn,Zcv,Zcz,Zc3,Zc5,Zdc,Zdd,Zde,Zdi,Zev,Zew,Zez,Ze0,Ze1,Ze2,Ze3,Ze4,Ze5,Ze8,Zfb,Zfc,Zfd,Zfe,Zff,Zfg,Zfh,Zfn,Zfz,Zf0,Zf3,Zgr,Zgs,Zgt,Zgu,Zg4,Zg6,Zhb,Zhc,Zhf,Zhg,Zhh,Zho,Zh6,Zh7,Zin,Ziq,Zir,Ziu,Ziv,Ziw,Zix,Ziz,Zi0,Zi2,Zi3,Zi6,Zjh,Zji,Zjj,Zjk,Zjn,Zjo,Zjq,Zj7,Zj8,Zka,Zkx,Zky,Zkz,Zk0,Zk1,Zk2,Zla,Zlb,Zle,Zll,Zlz,Zl2,Zmt,Zmv,Zmw,Zmx,Zmz,Zm3,Zm5,Zm6,Zm7,Zm9,Zna,Znb,Zne,Znf,Zng,Znh,Znl,Znm,Znn,Zno,Znp,Znr,Znx,Zn5,Zof,Zog,Zoh,Zrd,Zos,Zot,Zo3,Zo4,Zo7,Zo8,Zo9,Zpb,Zpi,Zpo,Zpr,Zpw,Zpz,Zp1,Zp2,Zp9,Zqd,Zqe,Zqf,Zqg,Zqh,Zqi,Zqj,Zqk,Zql,Zqm,Zqn,List.length_append,eq_self,true_and,and_true,and_false,Nat.zero_add]
    tactic =>
    rfl
  obtain ⟨N, hN⟩ : ∃ N, N = b.length := ⟨_, rfl⟩
  rw [← hN] at hl ⊢
  clear hR hN hb b
  rintro k s ⟨b, l, hp, hbk, hb, hlN, rfl⟩
  have hPl := cP_length l
  rcases b with _ | ⟨c, t⟩
  · have : R = ([], 0, 4) := by rw [← hp]; cases k <;> rfl
    subst this
    sym =>
    simp [Zaa,Zab,Zad,Zae,Zaf,Zag,Zah,Zai,Zak,Zal,Zam,Zan,Zao,Zap,Zaq,Zar,Zav,Zaw,Zax,Zay,Zaz,Za0,Za1,Za2,Za3,Za4,Za5,Za9,Zba,Zbb,Zbf,Zbt,Zb1,Zb7,Zcn,Zcv,Zcz,Zc3,Zc5,Zdc,Zdd,Zde,Zdi,Zev,Zew,Zez,Ze0,Ze1,Ze2,Ze3,Ze4,Ze5,Ze8,Zfb,Zfc,Zfd,Zfe,Zff,Zfg,Zfh,Zfn,Zfz,Zf0,Zf3,Zgr,Zgs,Zgt,Zgu,Zg4,Zg6,Zhb,Zhc,Zhf,Zhg,Zhh,Zho,Zh6,Zh7,Zin,Ziq,Zir,Ziu,Ziv,Ziw,Zix,Ziz,Zi0,Zi2,Zi3,Zi6,Zjh,Zji,Zjj,Zjk,Zjn,Zjo,Zjq,Zj7,Zj8,Zka,Zkx,Zky,Zkz,Zk0,Zk1,Zk2,Zla,Zlb,Zle,Zll,Zlz,Zl2,Zmt,Zmv,Zmw,Zmx,Zmz,Zm3,Zm5,Zm6,Zm7,Zm9,Zna,Znb,Zne,Znf,Zng,Znh,Znl,Znm,Znn,Zno,Znp,Znr,Znx,Zn5,Zof,Zog,Zoh,Zrd,Zos,Zot,Zo3,Zo4,Zo7,Zo8,Zo9,Zpb,Zpi,Zpo,Zpr,Zpw,Zpz,Zp1,Zp2,Zp9,Zqd,Zqe,Zqf,Zqg,Zqh,Zqi,Zqj,Zqk,Zql,Zqm,Zqn,List.length_append,eq_self,true_and,and_true,and_false,Nat.zero_add]
    tactic =>
    refine endA ?_
    sym =>
    simp [Zaa,Zab,Zad,Zae,Zaf,Zag,Zah,Zai,Zak,Zal,Zam,Zan,Zao,Zap,Zaq,Zar,Zav,Zaw,Zax,Zay,Zaz,Za0,Za1,Za2,Za3,Za4,Za5,Za9,Zba,Zbb,Zbf,Zbt,Zb1,Zb7,Zcn,Zcv,Zcz,Zc3,Zc5,Zdc,Zdd,Zde,Zdi,Zev,Zew,Zez,Ze0,Ze1,Ze2,Ze3,Ze4,Ze5,Ze8,Zfb,Zfc,Zfd,Zfe,Zff,Zfg,Zfh,Zfn,Zfz,Zf0,Zf3,Zgr,Zgs,Zgt,Zgu,Zg4,Zg6,Zhb,Zhc,Zhf,Zhg,Zhh,Zho,Zh6,Zh7,Zin,Ziq,Zir,Ziu,Ziv,Ziw,Zix,Ziz,Zi0,Zi2,Zi3,Zi6,Zjh,Zji,Zjj,Zjk,Zjn,Zjo,Zjq,Zj7,Zj8,Zka,Zkx,Zky,Zkz,Zk0,Zk1,Zk2,Zla,Zlb,Zle,Zll,Zlz,Zl2,Zmt,Zmv,Zmw,Zmx,Zmz,Zm3,Zm5,Zm6,Zm7,Zm9,Zna,Znb,Zne,Znf,Zng,Znh,Znl,Znm,Znn,Zno,Znp,Znr,Znx,Zn5,Zof,Zog,Zoh,Zrd,Zos,Zot,Zo3,Zo4,Zo7,Zo8,Zo9,Zpb,Zpi,Zpo,Zpr,Zpw,Zpz,Zp1,Zp2,Zp9,Zqd,Zqe,Zqf,Zqg,Zqh,Zqi,Zqj,Zqk,Zql,Zqm,Zqn,List.length_append,eq_self,true_and,and_true,and_false,Nat.zero_add]
    tactic =>
    rfl
  obtain ⟨kq, rfl⟩ : ∃ kq, k = kq + 1 := by cases k with | zero => simp at hbk | succ k => exact ⟨k, rfl⟩
  simp only [List.length_cons] at hbk hlN
  have ht : byt8 t := fun x hx => hb x (List.mem_cons_of_mem _ hx)
  rw [paF] at hp
  have hc0 : (cB (c :: t)).getD 0 .un = Y c := rfl
  have hcl := cB_length (c :: t)
  have hl1 : (c :: t).length = t.length + 1 := rfl
  have h0 : 0 < t.length + 1 := by omega
  have hcl1 : 1 ≤ (cB (c :: t)).length := by rw [hcl, hl1]; omega
  have hla := last_con c t ht (by omega)
  have hfi := first_con c t ht (by omega)
  have hfs := fiF_short c t
  have hfb := fiF_byt c t ht
  by_cases h69 : c = 69
  · subst h69
    rw [if_pos rfl] at hp
    obtain ⟨x, hx⟩ : ∃ x, x = laS t := ⟨_, rfl⟩
    rw [← hx] at hp hla
    by_cases hx0 : x.2 = 0
    · rw [if_pos hx0] at hp
      sym =>
      simp [Zaa,Zab,Zad,Zae,Zaf,Zag,Zah,Zai,Zak,Zal,Zam,Zan,Zao,Zap,Zaq,Zar,Zav,Zaw,Zax,Zay,Zaz,Za0,Za1,Za2,Za3,Za4,Za5,Za9,Zba,Zbb,Zbf,Zbt,Zb1,Zb7,Zcn,Zcv,Zcz,Zc3,Zc5,Zdc,Zdd,Zde,Zdi,Zev,Zew,Zez,Ze0,Ze1,Ze2,Ze3,Ze4,Ze5,Ze8,Zfb,Zfc,Zfd,Zfe,Zff,Zfg,Zfh,Zfn,Zfz,Zf0,Zf3,Zgr,Zgs,Zgt,Zgu,Zg4,Zg6,Zhb,Zhc,Zhf,Zhg,Zhh,Zho,Zh6,Zh7,Zin,Ziq,Zir,Ziu,Ziv,Ziw,Zix,Ziz,Zi0,Zi2,Zi3,Zi6,Zjh,Zji,Zjj,Zjk,Zjn,Zjo,Zjq,Zj7,Zj8,Zka,Zkx,Zky,Zkz,Zk0,Zk1,Zk2,Zla,Zlb,Zle,Zll,Zlz,Zl2,Zmt,Zmv,Zmw,Zmx,Zmz,Zm3,Zm5,Zm6,Zm7,Zm9,Zna,Znb,Zne,Znf,Zng,Znh,Znl,Znm,Znn,Zno,Znp,Znr,Znx,Zn5,Zof,Zog,Zoh,Zrd,Zos,Zot,Zo3,Zo4,Zo7,Zo8,Zo9,Zpb,Zpi,Zpo,Zpr,Zpw,Zpz,Zp1,Zp2,Zp9,Zqd,Zqe,Zqf,Zqg,Zqh,Zqi,Zqj,Zqk,Zql,Zqm,Zqn,List.length_append,eq_self,true_and,and_true,and_false,Nat.zero_add,hl1,h0,hc0,callable_77]
      tactic =>
      and_intros <;> try (first | omega | rfl | assumption | simp only [IN]; omega)
      refine cl none (hla) trivial ?_
      sym =>
      simp [Zaa,Zab,Zad,Zae,Zaf,Zag,Zah,Zai,Zak,Zal,Zam,Zan,Zao,Zap,Zaq,Zar,Zav,Zaw,Zax,Zay,Zaz,Za0,Za1,Za2,Za3,Za4,Za5,Za9,Zba,Zbb,Zbf,Zbt,Zb1,Zb7,Zcn,Zcv,Zcz,Zc3,Zc5,Zdc,Zdd,Zde,Zdi,Zev,Zew,Zez,Ze0,Ze1,Ze2,Ze3,Ze4,Ze5,Ze8,Zfb,Zfc,Zfd,Zfe,Zff,Zfg,Zfh,Zfn,Zfz,Zf0,Zf3,Zgr,Zgs,Zgt,Zgu,Zg4,Zg6,Zhb,Zhc,Zhf,Zhg,Zhh,Zho,Zh6,Zh7,Zin,Ziq,Zir,Ziu,Ziv,Ziw,Zix,Ziz,Zi0,Zi2,Zi3,Zi6,Zjh,Zji,Zjj,Zjk,Zjn,Zjo,Zjq,Zj7,Zj8,Zka,Zkx,Zky,Zkz,Zk0,Zk1,Zk2,Zla,Zlb,Zle,Zll,Zlz,Zl2,Zmt,Zmv,Zmw,Zmx,Zmz,Zm3,Zm5,Zm6,Zm7,Zm9,Zna,Znb,Zne,Znf,Zng,Znh,Znl,Znm,Znn,Zno,Znp,Znr,Znx,Zn5,Zof,Zog,Zoh,Zrd,Zos,Zot,Zo3,Zo4,Zo7,Zo8,Zo9,Zpb,Zpi,Zpo,Zpr,Zpw,Zpz,Zp1,Zp2,Zp9,Zqd,Zqe,Zqf,Zqg,Zqh,Zqi,Zqj,Zqk,Zql,Zqm,Zqn,List.length_append,eq_self,true_and,and_true,and_false,Nat.zero_add,hx0]
      tactic =>
      refine endA ?_
      rw [← hp]
      sym =>
      simp [Zaa,Zab,Zad,Zae,Zaf,Zag,Zah,Zai,Zak,Zal,Zam,Zan,Zao,Zap,Zaq,Zar,Zav,Zaw,Zax,Zay,Zaz,Za0,Za1,Za2,Za3,Za4,Za5,Za9,Zba,Zbb,Zbf,Zbt,Zb1,Zb7,Zcn,Zcv,Zcz,Zc3,Zc5,Zdc,Zdd,Zde,Zdi,Zev,Zew,Zez,Ze0,Ze1,Ze2,Ze3,Ze4,Ze5,Ze8,Zfb,Zfc,Zfd,Zfe,Zff,Zfg,Zfh,Zfn,Zfz,Zf0,Zf3,Zgr,Zgs,Zgt,Zgu,Zg4,Zg6,Zhb,Zhc,Zhf,Zhg,Zhh,Zho,Zh6,Zh7,Zin,Ziq,Zir,Ziu,Ziv,Ziw,Zix,Ziz,Zi0,Zi2,Zi3,Zi6,Zjh,Zji,Zjj,Zjk,Zjn,Zjo,Zjq,Zj7,Zj8,Zka,Zkx,Zky,Zkz,Zk0,Zk1,Zk2,Zla,Zlb,Zle,Zll,Zlz,Zl2,Zmt,Zmv,Zmw,Zmx,Zmz,Zm3,Zm5,Zm6,Zm7,Zm9,Zna,Znb,Zne,Znf,Zng,Znh,Znl,Znm,Znn,Zno,Znp,Znr,Znx,Zn5,Zof,Zog,Zoh,Zrd,Zos,Zot,Zo3,Zo4,Zo7,Zo8,Zo9,Zpb,Zpi,Zpo,Zpr,Zpw,Zpz,Zp1,Zp2,Zp9,Zqd,Zqe,Zqf,Zqg,Zqh,Zqi,Zqj,Zqk,Zql,Zqm,Zqn,List.length_append,eq_self,true_and,and_true,and_false,Nat.zero_add]
      tactic =>
      exact ⟨(cP_all l).symm, by rw [cP_length]; exact Nat.le_refl _, cP_okI l⟩
    · rw [if_neg hx0] at hp
      sym =>
      simp [Zaa,Zab,Zad,Zae,Zaf,Zag,Zah,Zai,Zak,Zal,Zam,Zan,Zao,Zap,Zaq,Zar,Zav,Zaw,Zax,Zay,Zaz,Za0,Za1,Za2,Za3,Za4,Za5,Za9,Zba,Zbb,Zbf,Zbt,Zb1,Zb7,Zcn,Zcv,Zcz,Zc3,Zc5,Zdc,Zdd,Zde,Zdi,Zev,Zew,Zez,Ze0,Ze1,Ze2,Ze3,Ze4,Ze5,Ze8,Zfb,Zfc,Zfd,Zfe,Zff,Zfg,Zfh,Zfn,Zfz,Zf0,Zf3,Zgr,Zgs,Zgt,Zgu,Zg4,Zg6,Zhb,Zhc,Zhf,Zhg,Zhh,Zho,Zh6,Zh7,Zin,Ziq,Zir,Ziu,Ziv,Ziw,Zix,Ziz,Zi0,Zi2,Zi3,Zi6,Zjh,Zji,Zjj,Zjk,Zjn,Zjo,Zjq,Zj7,Zj8,Zka,Zkx,Zky,Zkz,Zk0,Zk1,Zk2,Zla,Zlb,Zle,Zll,Zlz,Zl2,Zmt,Zmv,Zmw,Zmx,Zmz,Zm3,Zm5,Zm6,Zm7,Zm9,Zna,Znb,Zne,Znf,Zng,Znh,Znl,Znm,Znn,Zno,Znp,Znr,Znx,Zn5,Zof,Zog,Zoh,Zrd,Zos,Zot,Zo3,Zo4,Zo7,Zo8,Zo9,Zpb,Zpi,Zpo,Zpr,Zpw,Zpz,Zp1,Zp2,Zp9,Zqd,Zqe,Zqf,Zqg,Zqh,Zqi,Zqj,Zqk,Zql,Zqm,Zqn,List.length_append,eq_self,true_and,and_true,and_false,Nat.zero_add,hl1,h0,hc0,callable_77]
      tactic =>
      and_intros <;> try (first | omega | rfl | assumption | simp only [IN]; omega)
      refine cl none (hla) trivial ?_
      sym =>
      simp [Zaa,Zab,Zad,Zae,Zaf,Zag,Zah,Zai,Zak,Zal,Zam,Zan,Zao,Zap,Zaq,Zar,Zav,Zaw,Zax,Zay,Zaz,Za0,Za1,Za2,Za3,Za4,Za5,Za9,Zba,Zbb,Zbf,Zbt,Zb1,Zb7,Zcn,Zcv,Zcz,Zc3,Zc5,Zdc,Zdd,Zde,Zdi,Zev,Zew,Zez,Ze0,Ze1,Ze2,Ze3,Ze4,Ze5,Ze8,Zfb,Zfc,Zfd,Zfe,Zff,Zfg,Zfh,Zfn,Zfz,Zf0,Zf3,Zgr,Zgs,Zgt,Zgu,Zg4,Zg6,Zhb,Zhc,Zhf,Zhg,Zhh,Zho,Zh6,Zh7,Zin,Ziq,Zir,Ziu,Ziv,Ziw,Zix,Ziz,Zi0,Zi2,Zi3,Zi6,Zjh,Zji,Zjj,Zjk,Zjn,Zjo,Zjq,Zj7,Zj8,Zka,Zkx,Zky,Zkz,Zk0,Zk1,Zk2,Zla,Zlb,Zle,Zll,Zlz,Zl2,Zmt,Zmv,Zmw,Zmx,Zmz,Zm3,Zm5,Zm6,Zm7,Zm9,Zna,Znb,Zne,Znf,Zng,Znh,Znl,Znm,Znn,Zno,Znp,Znr,Znx,Zn5,Zof,Zog,Zoh,Zrd,Zos,Zot,Zo3,Zo4,Zo7,Zo8,Zo9,Zpb,Zpi,Zpo,Zpr,Zpw,Zpz,Zp1,Zp2,Zp9,Zqd,Zqe,Zqf,Zqg,Zqh,Zqi,Zqj,Zqk,Zql,Zqm,Zqn,List.length_append,eq_self,true_and,and_true,and_false,Nat.zero_add,hx0]
      tactic =>
      refine endA ?_
      rw [← hp]
      sym =>
      simp [Zaa,Zab,Zad,Zae,Zaf,Zag,Zah,Zai,Zak,Zal,Zam,Zan,Zao,Zap,Zaq,Zar,Zav,Zaw,Zax,Zay,Zaz,Za0,Za1,Za2,Za3,Za4,Za5,Za9,Zba,Zbb,Zbf,Zbt,Zb1,Zb7,Zcn,Zcv,Zcz,Zc3,Zc5,Zdc,Zdd,Zde,Zdi,Zev,Zew,Zez,Ze0,Ze1,Ze2,Ze3,Ze4,Ze5,Ze8,Zfb,Zfc,Zfd,Zfe,Zff,Zfg,Zfh,Zfn,Zfz,Zf0,Zf3,Zgr,Zgs,Zgt,Zgu,Zg4,Zg6,Zhb,Zhc,Zhf,Zhg,Zhh,Zho,Zh6,Zh7,Zin,Ziq,Zir,Ziu,Ziv,Ziw,Zix,Ziz,Zi0,Zi2,Zi3,Zi6,Zjh,Zji,Zjj,Zjk,Zjn,Zjo,Zjq,Zj7,Zj8,Zka,Zkx,Zky,Zkz,Zk0,Zk1,Zk2,Zla,Zlb,Zle,Zll,Zlz,Zl2,Zmt,Zmv,Zmw,Zmx,Zmz,Zm3,Zm5,Zm6,Zm7,Zm9,Zna,Znb,Zne,Znf,Zng,Znh,Znl,Znm,Znn,Zno,Znp,Znr,Znx,Zn5,Zof,Zog,Zoh,Zrd,Zos,Zot,Zo3,Zo4,Zo7,Zo8,Zo9,Zpb,Zpi,Zpo,Zpr,Zpw,Zpz,Zp1,Zp2,Zp9,Zqd,Zqe,Zqf,Zqg,Zqh,Zqi,Zqj,Zqk,Zql,Zqm,Zqn,List.length_append,eq_self,true_and,and_true,and_false,Nat.zero_add]
      tactic =>
      rfl
  rw [if_neg h69] at hp
  obtain ⟨x, hx⟩ : ∃ x, x = fiF c t := ⟨_, rfl⟩
  rw [← hx] at hp hfi hfs hfb
  obtain ⟨⟨pa, pb, pq⟩, u, e⟩ := x
  simp only at hp hfs hfb
  change Con Try.prog 78 [] [fB (c :: t)] [] (.tu [.ag [I pa, I pb, fB pq], fB u, I e]) at hfi
  have hfin : ∀ s : St, s = s := fun _ => rfl
  by_cases h67 : c = 67
  · subst h67
    rw [if_pos rfl] at hp
    by_cases he : e = 0
    · rw [if_pos he] at hp
      sym =>
      simp [Zaa,Zab,Zad,Zae,Zaf,Zag,Zah,Zai,Zak,Zal,Zam,Zan,Zao,Zap,Zaq,Zar,Zav,Zaw,Zax,Zay,Zaz,Za0,Za1,Za2,Za3,Za4,Za5,Za9,Zba,Zbb,Zbf,Zbt,Zb1,Zb7,Zcn,Zcv,Zcz,Zc3,Zc5,Zdc,Zdd,Zde,Zdi,Zev,Zew,Zez,Ze0,Ze1,Ze2,Ze3,Ze4,Ze5,Ze8,Zfb,Zfc,Zfd,Zfe,Zff,Zfg,Zfh,Zfn,Zfz,Zf0,Zf3,Zgr,Zgs,Zgt,Zgu,Zg4,Zg6,Zhb,Zhc,Zhf,Zhg,Zhh,Zho,Zh6,Zh7,Zin,Ziq,Zir,Ziu,Ziv,Ziw,Zix,Ziz,Zi0,Zi2,Zi3,Zi6,Zjh,Zji,Zjj,Zjk,Zjn,Zjo,Zjq,Zj7,Zj8,Zka,Zkx,Zky,Zkz,Zk0,Zk1,Zk2,Zla,Zlb,Zle,Zll,Zlz,Zl2,Zmt,Zmv,Zmw,Zmx,Zmz,Zm3,Zm5,Zm6,Zm7,Zm9,Zna,Znb,Zne,Znf,Zng,Znh,Znl,Znm,Znn,Zno,Znp,Znr,Znx,Zn5,Zof,Zog,Zoh,Zrd,Zos,Zot,Zo3,Zo4,Zo7,Zo8,Zo9,Zpb,Zpi,Zpo,Zpr,Zpw,Zpz,Zp1,Zp2,Zp9,Zqd,Zqe,Zqf,Zqg,Zqh,Zqi,Zqj,Zqk,Zql,Zqm,Zqn,List.length_append,eq_self,true_and,and_true,and_false,Nat.zero_add,hl1,h0,hc0,callable_78]
      tactic =>
      and_intros <;> try (first | omega | rfl | assumption | simp only [IN]; omega)
      refine cl none (hfi) trivial ?_
      sym =>
      simp [Zaa,Zab,Zad,Zae,Zaf,Zag,Zah,Zai,Zak,Zal,Zam,Zan,Zao,Zap,Zaq,Zar,Zav,Zaw,Zax,Zay,Zaz,Za0,Za1,Za2,Za3,Za4,Za5,Za9,Zba,Zbb,Zbf,Zbt,Zb1,Zb7,Zcn,Zcv,Zcz,Zc3,Zc5,Zdc,Zdd,Zde,Zdi,Zev,Zew,Zez,Ze0,Ze1,Ze2,Ze3,Ze4,Ze5,Ze8,Zfb,Zfc,Zfd,Zfe,Zff,Zfg,Zfh,Zfn,Zfz,Zf0,Zf3,Zgr,Zgs,Zgt,Zgu,Zg4,Zg6,Zhb,Zhc,Zhf,Zhg,Zhh,Zho,Zh6,Zh7,Zin,Ziq,Zir,Ziu,Ziv,Ziw,Zix,Ziz,Zi0,Zi2,Zi3,Zi6,Zjh,Zji,Zjj,Zjk,Zjn,Zjo,Zjq,Zj7,Zj8,Zka,Zkx,Zky,Zkz,Zk0,Zk1,Zk2,Zla,Zlb,Zle,Zll,Zlz,Zl2,Zmt,Zmv,Zmw,Zmx,Zmz,Zm3,Zm5,Zm6,Zm7,Zm9,Zna,Znb,Zne,Znf,Zng,Znh,Znl,Znm,Znn,Zno,Znp,Znr,Znx,Zn5,Zof,Zog,Zoh,Zrd,Zos,Zot,Zo3,Zo4,Zo7,Zo8,Zo9,Zpb,Zpi,Zpo,Zpr,Zpw,Zpz,Zp1,Zp2,Zp9,Zqd,Zqe,Zqf,Zqg,Zqh,Zqi,Zqj,Zqk,Zql,Zqm,Zqn,List.length_append,eq_self,true_and,and_true,and_false,Nat.zero_add,he]
      tactic =>
      and_intros <;> try (first | omega | rfl | assumption | simp only [IN]; omega)
      unfold NextL; refine ⟨kq, [(0, 26)], _, by omega, ⟨u, l ++ [(pa, pb, pq)], hp, by omega, hfb, by simp; omega, rfl⟩, wkA ?_⟩
      sym =>
      simp [Zaa,Zab,Zad,Zae,Zaf,Zag,Zah,Zai,Zak,Zal,Zam,Zan,Zao,Zap,Zaq,Zar,Zav,Zaw,Zax,Zay,Zaz,Za0,Za1,Za2,Za3,Za4,Za5,Za9,Zba,Zbb,Zbf,Zbt,Zb1,Zb7,Zcn,Zcv,Zcz,Zc3,Zc5,Zdc,Zdd,Zde,Zdi,Zev,Zew,Zez,Ze0,Ze1,Ze2,Ze3,Ze4,Ze5,Ze8,Zfb,Zfc,Zfd,Zfe,Zff,Zfg,Zfh,Zfn,Zfz,Zf0,Zf3,Zgr,Zgs,Zgt,Zgu,Zg4,Zg6,Zhb,Zhc,Zhf,Zhg,Zhh,Zho,Zh6,Zh7,Zin,Ziq,Zir,Ziu,Ziv,Ziw,Zix,Ziz,Zi0,Zi2,Zi3,Zi6,Zjh,Zji,Zjj,Zjk,Zjn,Zjo,Zjq,Zj7,Zj8,Zka,Zkx,Zky,Zkz,Zk0,Zk1,Zk2,Zla,Zlb,Zle,Zll,Zlz,Zl2,Zmt,Zmv,Zmw,Zmx,Zmz,Zm3,Zm5,Zm6,Zm7,Zm9,Zna,Znb,Zne,Znf,Zng,Znh,Znl,Znm,Znn,Zno,Znp,Znr,Znx,Zn5,Zof,Zog,Zoh,Zrd,Zos,Zot,Zo3,Zo4,Zo7,Zo8,Zo9,Zpb,Zpi,Zpo,Zpr,Zpw,Zpz,Zp1,Zp2,Zp9,Zqd,Zqe,Zqf,Zqg,Zqh,Zqi,Zqj,Zqk,Zql,Zqm,Zqn,List.length_append,eq_self,true_and,and_true,and_false,Nat.zero_add,List.length_append]
      tactic =>
      exact cP_rs _ _ _ _ _ (by rw [cP_snoc])
    · rw [if_neg he] at hp
      sym =>
      simp [Zaa,Zab,Zad,Zae,Zaf,Zag,Zah,Zai,Zak,Zal,Zam,Zan,Zao,Zap,Zaq,Zar,Zav,Zaw,Zax,Zay,Zaz,Za0,Za1,Za2,Za3,Za4,Za5,Za9,Zba,Zbb,Zbf,Zbt,Zb1,Zb7,Zcn,Zcv,Zcz,Zc3,Zc5,Zdc,Zdd,Zde,Zdi,Zev,Zew,Zez,Ze0,Ze1,Ze2,Ze3,Ze4,Ze5,Ze8,Zfb,Zfc,Zfd,Zfe,Zff,Zfg,Zfh,Zfn,Zfz,Zf0,Zf3,Zgr,Zgs,Zgt,Zgu,Zg4,Zg6,Zhb,Zhc,Zhf,Zhg,Zhh,Zho,Zh6,Zh7,Zin,Ziq,Zir,Ziu,Ziv,Ziw,Zix,Ziz,Zi0,Zi2,Zi3,Zi6,Zjh,Zji,Zjj,Zjk,Zjn,Zjo,Zjq,Zj7,Zj8,Zka,Zkx,Zky,Zkz,Zk0,Zk1,Zk2,Zla,Zlb,Zle,Zll,Zlz,Zl2,Zmt,Zmv,Zmw,Zmx,Zmz,Zm3,Zm5,Zm6,Zm7,Zm9,Zna,Znb,Zne,Znf,Zng,Znh,Znl,Znm,Znn,Zno,Znp,Znr,Znx,Zn5,Zof,Zog,Zoh,Zrd,Zos,Zot,Zo3,Zo4,Zo7,Zo8,Zo9,Zpb,Zpi,Zpo,Zpr,Zpw,Zpz,Zp1,Zp2,Zp9,Zqd,Zqe,Zqf,Zqg,Zqh,Zqi,Zqj,Zqk,Zql,Zqm,Zqn,List.length_append,eq_self,true_and,and_true,and_false,Nat.zero_add,hl1,h0,hc0,callable_78]
      tactic =>
      and_intros <;> try (first | omega | rfl | assumption | simp only [IN]; omega)
      refine cl none (hfi) trivial ?_
      sym =>
      simp [Zaa,Zab,Zad,Zae,Zaf,Zag,Zah,Zai,Zak,Zal,Zam,Zan,Zao,Zap,Zaq,Zar,Zav,Zaw,Zax,Zay,Zaz,Za0,Za1,Za2,Za3,Za4,Za5,Za9,Zba,Zbb,Zbf,Zbt,Zb1,Zb7,Zcn,Zcv,Zcz,Zc3,Zc5,Zdc,Zdd,Zde,Zdi,Zev,Zew,Zez,Ze0,Ze1,Ze2,Ze3,Ze4,Ze5,Ze8,Zfb,Zfc,Zfd,Zfe,Zff,Zfg,Zfh,Zfn,Zfz,Zf0,Zf3,Zgr,Zgs,Zgt,Zgu,Zg4,Zg6,Zhb,Zhc,Zhf,Zhg,Zhh,Zho,Zh6,Zh7,Zin,Ziq,Zir,Ziu,Ziv,Ziw,Zix,Ziz,Zi0,Zi2,Zi3,Zi6,Zjh,Zji,Zjj,Zjk,Zjn,Zjo,Zjq,Zj7,Zj8,Zka,Zkx,Zky,Zkz,Zk0,Zk1,Zk2,Zla,Zlb,Zle,Zll,Zlz,Zl2,Zmt,Zmv,Zmw,Zmx,Zmz,Zm3,Zm5,Zm6,Zm7,Zm9,Zna,Znb,Zne,Znf,Zng,Znh,Znl,Znm,Znn,Zno,Znp,Znr,Znx,Zn5,Zof,Zog,Zoh,Zrd,Zos,Zot,Zo3,Zo4,Zo7,Zo8,Zo9,Zpb,Zpi,Zpo,Zpr,Zpw,Zpz,Zp1,Zp2,Zp9,Zqd,Zqe,Zqf,Zqg,Zqh,Zqi,Zqj,Zqk,Zql,Zqm,Zqn,List.length_append,eq_self,true_and,and_true,and_false,Nat.zero_add,he]
      tactic =>
      refine endA ?_
      rw [← hp]
      sym =>
      simp [Zaa,Zab,Zad,Zae,Zaf,Zag,Zah,Zai,Zak,Zal,Zam,Zan,Zao,Zap,Zaq,Zar,Zav,Zaw,Zax,Zay,Zaz,Za0,Za1,Za2,Za3,Za4,Za5,Za9,Zba,Zbb,Zbf,Zbt,Zb1,Zb7,Zcn,Zcv,Zcz,Zc3,Zc5,Zdc,Zdd,Zde,Zdi,Zev,Zew,Zez,Ze0,Ze1,Ze2,Ze3,Ze4,Ze5,Ze8,Zfb,Zfc,Zfd,Zfe,Zff,Zfg,Zfh,Zfn,Zfz,Zf0,Zf3,Zgr,Zgs,Zgt,Zgu,Zg4,Zg6,Zhb,Zhc,Zhf,Zhg,Zhh,Zho,Zh6,Zh7,Zin,Ziq,Zir,Ziu,Ziv,Ziw,Zix,Ziz,Zi0,Zi2,Zi3,Zi6,Zjh,Zji,Zjj,Zjk,Zjn,Zjo,Zjq,Zj7,Zj8,Zka,Zkx,Zky,Zkz,Zk0,Zk1,Zk2,Zla,Zlb,Zle,Zll,Zlz,Zl2,Zmt,Zmv,Zmw,Zmx,Zmz,Zm3,Zm5,Zm6,Zm7,Zm9,Zna,Znb,Zne,Znf,Zng,Znh,Znl,Znm,Znn,Zno,Znp,Znr,Znx,Zn5,Zof,Zog,Zoh,Zrd,Zos,Zot,Zo3,Zo4,Zo7,Zo8,Zo9,Zpb,Zpi,Zpo,Zpr,Zpw,Zpz,Zp1,Zp2,Zp9,Zqd,Zqe,Zqf,Zqg,Zqh,Zqi,Zqj,Zqk,Zql,Zqm,Zqn,List.length_append,eq_self,true_and,and_true,and_false,Nat.zero_add]
      tactic =>
      rfl
  rw [if_neg h67] at hp
  by_cases h79 : c = 79
  · subst h79
    rw [if_pos rfl] at hp
    by_cases he : e = 0
    · rw [if_pos he] at hp
      sym =>
      simp [Zaa,Zab,Zad,Zae,Zaf,Zag,Zah,Zai,Zak,Zal,Zam,Zan,Zao,Zap,Zaq,Zar,Zav,Zaw,Zax,Zay,Zaz,Za0,Za1,Za2,Za3,Za4,Za5,Za9,Zba,Zbb,Zbf,Zbt,Zb1,Zb7,Zcn,Zcv,Zcz,Zc3,Zc5,Zdc,Zdd,Zde,Zdi,Zev,Zew,Zez,Ze0,Ze1,Ze2,Ze3,Ze4,Ze5,Ze8,Zfb,Zfc,Zfd,Zfe,Zff,Zfg,Zfh,Zfn,Zfz,Zf0,Zf3,Zgr,Zgs,Zgt,Zgu,Zg4,Zg6,Zhb,Zhc,Zhf,Zhg,Zhh,Zho,Zh6,Zh7,Zin,Ziq,Zir,Ziu,Ziv,Ziw,Zix,Ziz,Zi0,Zi2,Zi3,Zi6,Zjh,Zji,Zjj,Zjk,Zjn,Zjo,Zjq,Zj7,Zj8,Zka,Zkx,Zky,Zkz,Zk0,Zk1,Zk2,Zla,Zlb,Zle,Zll,Zlz,Zl2,Zmt,Zmv,Zmw,Zmx,Zmz,Zm3,Zm5,Zm6,Zm7,Zm9,Zna,Znb,Zne,Znf,Zng,Znh,Znl,Znm,Znn,Zno,Znp,Znr,Znx,Zn5,Zof,Zog,Zoh,Zrd,Zos,Zot,Zo3,Zo4,Zo7,Zo8,Zo9,Zpb,Zpi,Zpo,Zpr,Zpw,Zpz,Zp1,Zp2,Zp9,Zqd,Zqe,Zqf,Zqg,Zqh,Zqi,Zqj,Zqk,Zql,Zqm,Zqn,List.length_append,eq_self,true_and,and_true,and_false,Nat.zero_add,hl1,h0,hc0,callable_78]
      tactic =>
      and_intros <;> try (first | omega | rfl | assumption | simp only [IN]; omega)
      refine cl none (hfi) trivial ?_
      sym =>
      simp [Zaa,Zab,Zad,Zae,Zaf,Zag,Zah,Zai,Zak,Zal,Zam,Zan,Zao,Zap,Zaq,Zar,Zav,Zaw,Zax,Zay,Zaz,Za0,Za1,Za2,Za3,Za4,Za5,Za9,Zba,Zbb,Zbf,Zbt,Zb1,Zb7,Zcn,Zcv,Zcz,Zc3,Zc5,Zdc,Zdd,Zde,Zdi,Zev,Zew,Zez,Ze0,Ze1,Ze2,Ze3,Ze4,Ze5,Ze8,Zfb,Zfc,Zfd,Zfe,Zff,Zfg,Zfh,Zfn,Zfz,Zf0,Zf3,Zgr,Zgs,Zgt,Zgu,Zg4,Zg6,Zhb,Zhc,Zhf,Zhg,Zhh,Zho,Zh6,Zh7,Zin,Ziq,Zir,Ziu,Ziv,Ziw,Zix,Ziz,Zi0,Zi2,Zi3,Zi6,Zjh,Zji,Zjj,Zjk,Zjn,Zjo,Zjq,Zj7,Zj8,Zka,Zkx,Zky,Zkz,Zk0,Zk1,Zk2,Zla,Zlb,Zle,Zll,Zlz,Zl2,Zmt,Zmv,Zmw,Zmx,Zmz,Zm3,Zm5,Zm6,Zm7,Zm9,Zna,Znb,Zne,Znf,Zng,Znh,Znl,Znm,Znn,Zno,Znp,Znr,Znx,Zn5,Zof,Zog,Zoh,Zrd,Zos,Zot,Zo3,Zo4,Zo7,Zo8,Zo9,Zpb,Zpi,Zpo,Zpr,Zpw,Zpz,Zp1,Zp2,Zp9,Zqd,Zqe,Zqf,Zqg,Zqh,Zqi,Zqj,Zqk,Zql,Zqm,Zqn,List.length_append,eq_self,true_and,and_true,and_false,Nat.zero_add,he]
      tactic =>
      and_intros <;> try (first | omega | rfl | assumption | simp only [IN]; omega)
      unfold NextL; refine ⟨kq, [(0, 28)], _, by omega, ⟨u, l ++ [(pa, pb, pq)], hp, by omega, hfb, by simp; omega, rfl⟩, wkA ?_⟩
      sym =>
      simp [Zaa,Zab,Zad,Zae,Zaf,Zag,Zah,Zai,Zak,Zal,Zam,Zan,Zao,Zap,Zaq,Zar,Zav,Zaw,Zax,Zay,Zaz,Za0,Za1,Za2,Za3,Za4,Za5,Za9,Zba,Zbb,Zbf,Zbt,Zb1,Zb7,Zcn,Zcv,Zcz,Zc3,Zc5,Zdc,Zdd,Zde,Zdi,Zev,Zew,Zez,Ze0,Ze1,Ze2,Ze3,Ze4,Ze5,Ze8,Zfb,Zfc,Zfd,Zfe,Zff,Zfg,Zfh,Zfn,Zfz,Zf0,Zf3,Zgr,Zgs,Zgt,Zgu,Zg4,Zg6,Zhb,Zhc,Zhf,Zhg,Zhh,Zho,Zh6,Zh7,Zin,Ziq,Zir,Ziu,Ziv,Ziw,Zix,Ziz,Zi0,Zi2,Zi3,Zi6,Zjh,Zji,Zjj,Zjk,Zjn,Zjo,Zjq,Zj7,Zj8,Zka,Zkx,Zky,Zkz,Zk0,Zk1,Zk2,Zla,Zlb,Zle,Zll,Zlz,Zl2,Zmt,Zmv,Zmw,Zmx,Zmz,Zm3,Zm5,Zm6,Zm7,Zm9,Zna,Znb,Zne,Znf,Zng,Znh,Znl,Znm,Znn,Zno,Znp,Znr,Znx,Zn5,Zof,Zog,Zoh,Zrd,Zos,Zot,Zo3,Zo4,Zo7,Zo8,Zo9,Zpb,Zpi,Zpo,Zpr,Zpw,Zpz,Zp1,Zp2,Zp9,Zqd,Zqe,Zqf,Zqg,Zqh,Zqi,Zqj,Zqk,Zql,Zqm,Zqn,List.length_append,eq_self,true_and,and_true,and_false,Nat.zero_add,List.length_append]
      tactic =>
      exact cP_rs _ _ _ _ _ (by rw [cP_snoc])
    · rw [if_neg he] at hp
      sym =>
      simp [Zaa,Zab,Zad,Zae,Zaf,Zag,Zah,Zai,Zak,Zal,Zam,Zan,Zao,Zap,Zaq,Zar,Zav,Zaw,Zax,Zay,Zaz,Za0,Za1,Za2,Za3,Za4,Za5,Za9,Zba,Zbb,Zbf,Zbt,Zb1,Zb7,Zcn,Zcv,Zcz,Zc3,Zc5,Zdc,Zdd,Zde,Zdi,Zev,Zew,Zez,Ze0,Ze1,Ze2,Ze3,Ze4,Ze5,Ze8,Zfb,Zfc,Zfd,Zfe,Zff,Zfg,Zfh,Zfn,Zfz,Zf0,Zf3,Zgr,Zgs,Zgt,Zgu,Zg4,Zg6,Zhb,Zhc,Zhf,Zhg,Zhh,Zho,Zh6,Zh7,Zin,Ziq,Zir,Ziu,Ziv,Ziw,Zix,Ziz,Zi0,Zi2,Zi3,Zi6,Zjh,Zji,Zjj,Zjk,Zjn,Zjo,Zjq,Zj7,Zj8,Zka,Zkx,Zky,Zkz,Zk0,Zk1,Zk2,Zla,Zlb,Zle,Zll,Zlz,Zl2,Zmt,Zmv,Zmw,Zmx,Zmz,Zm3,Zm5,Zm6,Zm7,Zm9,Zna,Znb,Zne,Znf,Zng,Znh,Znl,Znm,Znn,Zno,Znp,Znr,Znx,Zn5,Zof,Zog,Zoh,Zrd,Zos,Zot,Zo3,Zo4,Zo7,Zo8,Zo9,Zpb,Zpi,Zpo,Zpr,Zpw,Zpz,Zp1,Zp2,Zp9,Zqd,Zqe,Zqf,Zqg,Zqh,Zqi,Zqj,Zqk,Zql,Zqm,Zqn,List.length_append,eq_self,true_and,and_true,and_false,Nat.zero_add,hl1,h0,hc0,callable_78]
      tactic =>
      and_intros <;> try (first | omega | rfl | assumption | simp only [IN]; omega)
      refine cl none (hfi) trivial ?_
      sym =>
      simp [Zaa,Zab,Zad,Zae,Zaf,Zag,Zah,Zai,Zak,Zal,Zam,Zan,Zao,Zap,Zaq,Zar,Zav,Zaw,Zax,Zay,Zaz,Za0,Za1,Za2,Za3,Za4,Za5,Za9,Zba,Zbb,Zbf,Zbt,Zb1,Zb7,Zcn,Zcv,Zcz,Zc3,Zc5,Zdc,Zdd,Zde,Zdi,Zev,Zew,Zez,Ze0,Ze1,Ze2,Ze3,Ze4,Ze5,Ze8,Zfb,Zfc,Zfd,Zfe,Zff,Zfg,Zfh,Zfn,Zfz,Zf0,Zf3,Zgr,Zgs,Zgt,Zgu,Zg4,Zg6,Zhb,Zhc,Zhf,Zhg,Zhh,Zho,Zh6,Zh7,Zin,Ziq,Zir,Ziu,Ziv,Ziw,Zix,Ziz,Zi0,Zi2,Zi3,Zi6,Zjh,Zji,Zjj,Zjk,Zjn,Zjo,Zjq,Zj7,Zj8,Zka,Zkx,Zky,Zkz,Zk0,Zk1,Zk2,Zla,Zlb,Zle,Zll,Zlz,Zl2,Zmt,Zmv,Zmw,Zmx,Zmz,Zm3,Zm5,Zm6,Zm7,Zm9,Zna,Znb,Zne,Znf,Zng,Znh,Znl,Znm,Znn,Zno,Znp,Znr,Znx,Zn5,Zof,Zog,Zoh,Zrd,Zos,Zot,Zo3,Zo4,Zo7,Zo8,Zo9,Zpb,Zpi,Zpo,Zpr,Zpw,Zpz,Zp1,Zp2,Zp9,Zqd,Zqe,Zqf,Zqg,Zqh,Zqi,Zqj,Zqk,Zql,Zqm,Zqn,List.length_append,eq_self,true_and,and_true,and_false,Nat.zero_add,he]
      tactic =>
      refine endA ?_
      rw [← hp]
      sym =>
      simp [Zaa,Zab,Zad,Zae,Zaf,Zag,Zah,Zai,Zak,Zal,Zam,Zan,Zao,Zap,Zaq,Zar,Zav,Zaw,Zax,Zay,Zaz,Za0,Za1,Za2,Za3,Za4,Za5,Za9,Zba,Zbb,Zbf,Zbt,Zb1,Zb7,Zcn,Zcv,Zcz,Zc3,Zc5,Zdc,Zdd,Zde,Zdi,Zev,Zew,Zez,Ze0,Ze1,Ze2,Ze3,Ze4,Ze5,Ze8,Zfb,Zfc,Zfd,Zfe,Zff,Zfg,Zfh,Zfn,Zfz,Zf0,Zf3,Zgr,Zgs,Zgt,Zgu,Zg4,Zg6,Zhb,Zhc,Zhf,Zhg,Zhh,Zho,Zh6,Zh7,Zin,Ziq,Zir,Ziu,Ziv,Ziw,Zix,Ziz,Zi0,Zi2,Zi3,Zi6,Zjh,Zji,Zjj,Zjk,Zjn,Zjo,Zjq,Zj7,Zj8,Zka,Zkx,Zky,Zkz,Zk0,Zk1,Zk2,Zla,Zlb,Zle,Zll,Zlz,Zl2,Zmt,Zmv,Zmw,Zmx,Zmz,Zm3,Zm5,Zm6,Zm7,Zm9,Zna,Znb,Zne,Znf,Zng,Znh,Znl,Znm,Znn,Zno,Znp,Znr,Znx,Zn5,Zof,Zog,Zoh,Zrd,Zos,Zot,Zo3,Zo4,Zo7,Zo8,Zo9,Zpb,Zpi,Zpo,Zpr,Zpw,Zpz,Zp1,Zp2,Zp9,Zqd,Zqe,Zqf,Zqg,Zqh,Zqi,Zqj,Zqk,Zql,Zqm,Zqn,List.length_append,eq_self,true_and,and_true,and_false,Nat.zero_add]
      tactic =>
      rfl
  rw [if_neg h79] at hp
  sym =>
  simp [Zaa,Zab,Zad,Zae,Zaf,Zag,Zah,Zai,Zak,Zal,Zam,Zan,Zao,Zap,Zaq,Zar,Zav,Zaw,Zax,Zay,Zaz,Za0,Za1,Za2,Za3,Za4,Za5,Za9,Zba,Zbb,Zbf,Zbt,Zb1,Zb7,Zcn,Zcv,Zcz,Zc3,Zc5,Zdc,Zdd,Zde,Zdi,Zev,Zew,Zez,Ze0,Ze1,Ze2,Ze3,Ze4,Ze5,Ze8,Zfb,Zfc,Zfd,Zfe,Zff,Zfg,Zfh,Zfn,Zfz,Zf0,Zf3,Zgr,Zgs,Zgt,Zgu,Zg4,Zg6,Zhb,Zhc,Zhf,Zhg,Zhh,Zho,Zh6,Zh7,Zin,Ziq,Zir,Ziu,Ziv,Ziw,Zix,Ziz,Zi0,Zi2,Zi3,Zi6,Zjh,Zji,Zjj,Zjk,Zjn,Zjo,Zjq,Zj7,Zj8,Zka,Zkx,Zky,Zkz,Zk0,Zk1,Zk2,Zla,Zlb,Zle,Zll,Zlz,Zl2,Zmt,Zmv,Zmw,Zmx,Zmz,Zm3,Zm5,Zm6,Zm7,Zm9,Zna,Znb,Zne,Znf,Zng,Znh,Znl,Znm,Znn,Zno,Znp,Znr,Znx,Zn5,Zof,Zog,Zoh,Zrd,Zos,Zot,Zo3,Zo4,Zo7,Zo8,Zo9,Zpb,Zpi,Zpo,Zpr,Zpw,Zpz,Zp1,Zp2,Zp9,Zqd,Zqe,Zqf,Zqg,Zqh,Zqi,Zqj,Zqk,Zql,Zqm,Zqn,List.length_append,eq_self,true_and,and_true,and_false,Nat.zero_add,hl1,h0,hc0,h69,h67,h79]
  tactic =>
  and_intros <;> try (first | omega | rfl | assumption | simp only [IN]; omega)
  refine endA ?_
  rw [← hp]
  sym =>
  simp [Zaa,Zab,Zad,Zae,Zaf,Zag,Zah,Zai,Zak,Zal,Zam,Zan,Zao,Zap,Zaq,Zar,Zav,Zaw,Zax,Zay,Zaz,Za0,Za1,Za2,Za3,Za4,Za5,Za9,Zba,Zbb,Zbf,Zbt,Zb1,Zb7,Zcn,Zcv,Zcz,Zc3,Zc5,Zdc,Zdd,Zde,Zdi,Zev,Zew,Zez,Ze0,Ze1,Ze2,Ze3,Ze4,Ze5,Ze8,Zfb,Zfc,Zfd,Zfe,Zff,Zfg,Zfh,Zfn,Zfz,Zf0,Zf3,Zgr,Zgs,Zgt,Zgu,Zg4,Zg6,Zhb,Zhc,Zhf,Zhg,Zhh,Zho,Zh6,Zh7,Zin,Ziq,Zir,Ziu,Ziv,Ziw,Zix,Ziz,Zi0,Zi2,Zi3,Zi6,Zjh,Zji,Zjj,Zjk,Zjn,Zjo,Zjq,Zj7,Zj8,Zka,Zkx,Zky,Zkz,Zk0,Zk1,Zk2,Zla,Zlb,Zle,Zll,Zlz,Zl2,Zmt,Zmv,Zmw,Zmx,Zmz,Zm3,Zm5,Zm6,Zm7,Zm9,Zna,Znb,Zne,Znf,Zng,Znh,Znl,Znm,Znn,Zno,Znp,Znr,Znx,Zn5,Zof,Zog,Zoh,Zrd,Zos,Zot,Zo3,Zo4,Zo7,Zo8,Zo9,Zpb,Zpi,Zpo,Zpr,Zpw,Zpz,Zp1,Zp2,Zp9,Zqd,Zqe,Zqf,Zqg,Zqh,Zqi,Zqj,Zqk,Zql,Zqm,Zqn,List.length_append,eq_self,true_and,and_true,and_false,Nat.zero_add]
  tactic =>
  rfl
def paM (old b : List Int) : List Int × Int :=
  if (paF b.length b []).2.2 = 0 then (if (apF old (paF b.length b []).1 []).2 = 0 then (if ((sumN (apF old (paF b.length b []).1 []).1 : Nat) : Int) = (paF b.length b []).2.1 then ((apF old (paF b.length b []).1 []).1, 0) else ([], 9)) else ([], (apF old (paF b.length b []).1 []).2)) else ([], (paF b.length b []).2.2)
theorem patch_con (old b : List Int) (ho : old.length ≤ 1000000) (hob : byt8 old) (hb : byt8 b) (hbl : b.length ≤ 100000000000) (hok : okL (paF b.length b []).1) (hab : byt8 (apF old (paF b.length b []).1 []).1) (hal : (apF old (paF b.length b []).1 []).1.length ≤ 1048576) :
    Con Try.prog 30 [] [fB old, fB b] [] (.tu [fB (paM old b).1, I (paM old b).2]) := by
  refine con_j b30 rfl ?_
  have hp := parse_con b hb hbl
  have ha := apply_con old (paF b.length b []).1 ho hok
  have e : paM old b = if (paF b.length b []).2.2 = 0 then (if (apF old (paF b.length b []).1 []).2 = 0 then (if ((sumN (apF old (paF b.length b []).1 []).1 : Nat) : Int) = (paF b.length b []).2.1 then ((apF old (paF b.length b []).1 []).1, 0) else ([], 9)) else ([], (apF old (paF b.length b []).1 []).2)) else ([], (paF b.length b []).2.2) := rfl
  rw [e]
  clear e
  obtain ⟨r, hr⟩ : ∃ r, r = paF b.length b [] := ⟨_, rfl⟩
  rw [← hr] at hp ha hok hab hal ⊢
  obtain ⟨l, sm, er⟩ := r
  simp only at hp ha hok hab hal ⊢
  obtain ⟨q, hq⟩ : ∃ q, q = apF old l [] := ⟨_, rfl⟩
  rw [← hq] at ha hab hal ⊢
  obtain ⟨out, e2⟩ := q
  simp only at ha hab hal ⊢
  have hs := sum_con out hab (by omega)
  obtain ⟨S, hS⟩ : ∃ S : Int, S = ((sumN out : Nat) : Int) := ⟨_, rfl⟩
  rw [← hS] at hs ⊢
  sym =>
  simp [Zaa,Zab,Zad,Zae,Zaf,Zag,Zak,Zal,Zam,Zao,Zap,Zar,Zay,Zaz,Za0,Za1,Za2,Za3,Za4,Za5,Za9,Zba,Zbb,Zbf,Zb7,Zdc,Zdd,Zde,Zdi,Zev,Zew,Zez,Ze0,Ze2,Zfd,Zfe,Zfh,Zfn,Zf0,Zhb,Zhc,Zjr,Zka,Zky,Zk0,Zk4,Zla,Zlb,Zle,Zll,Zlz,Zl2,Zmt,Zmv,Zmw,Zmx,Zmz,Zm3,Zm9,Zna,Znb,Zne,Znf,Zng,Zof,Zog,Zos,Zot,Zo3,Zo4,Zo7,Zo8,Zo9,Zpb,Zph,Zpw,Zp9,Zqd,Zqe,eq_self,true_and,and_true,callable_60]
  tactic =>
  refine cl none (hp) trivial ?_
  by_cases h1 : er = 0
  · rw [if_pos h1]
    sym =>
    simp [Zaa,Zab,Zad,Zae,Zaf,Zag,Zak,Zal,Zam,Zao,Zap,Zar,Zay,Zaz,Za0,Za1,Za2,Za3,Za4,Za5,Za9,Zba,Zbb,Zbf,Zb7,Zdc,Zdd,Zde,Zdi,Zev,Zew,Zez,Ze0,Ze2,Zfd,Zfe,Zfh,Zfn,Zf0,Zhb,Zhc,Zjr,Zka,Zky,Zk0,Zk4,Zla,Zlb,Zle,Zll,Zlz,Zl2,Zmt,Zmv,Zmw,Zmx,Zmz,Zm3,Zm9,Zna,Znb,Zne,Znf,Zng,Zof,Zog,Zos,Zot,Zo3,Zo4,Zo7,Zo8,Zo9,Zpb,Zph,Zpw,Zp9,Zqd,Zqe,eq_self,true_and,and_true,h1,callable_28]
    tactic =>
    refine cl none (ha) trivial ?_
    by_cases h2 : e2 = 0
    · rw [if_pos h2]
      sym =>
      simp [Zaa,Zab,Zad,Zae,Zaf,Zag,Zak,Zal,Zam,Zao,Zap,Zar,Zay,Zaz,Za0,Za1,Za2,Za3,Za4,Za5,Za9,Zba,Zbb,Zbf,Zb7,Zdc,Zdd,Zde,Zdi,Zev,Zew,Zez,Ze0,Ze2,Zfd,Zfe,Zfh,Zfn,Zf0,Zhb,Zhc,Zjr,Zka,Zky,Zk0,Zk4,Zla,Zlb,Zle,Zll,Zlz,Zl2,Zmt,Zmv,Zmw,Zmx,Zmz,Zm3,Zm9,Zna,Znb,Zne,Znf,Zng,Zof,Zog,Zos,Zot,Zo3,Zo4,Zo7,Zo8,Zo9,Zpb,Zph,Zpw,Zp9,Zqd,Zqe,eq_self,true_and,and_true,h2,callable_59]
      tactic =>
      refine cl none (hs) trivial ?_
      by_cases h3 : S = sm
      · rw [if_pos h3]
        sym =>
        simp [Zaa,Zab,Zad,Zae,Zaf,Zag,Zak,Zal,Zam,Zao,Zap,Zar,Zay,Zaz,Za0,Za1,Za2,Za3,Za4,Za5,Za9,Zba,Zbb,Zbf,Zb7,Zdc,Zdd,Zde,Zdi,Zev,Zew,Zez,Ze0,Ze2,Zfd,Zfe,Zfh,Zfn,Zf0,Zhb,Zhc,Zjr,Zka,Zky,Zk0,Zk4,Zla,Zlb,Zle,Zll,Zlz,Zl2,Zmt,Zmv,Zmw,Zmx,Zmz,Zm3,Zm9,Zna,Znb,Zne,Znf,Zng,Zof,Zog,Zos,Zot,Zo3,Zo4,Zo7,Zo8,Zo9,Zpb,Zph,Zpw,Zp9,Zqd,Zqe,eq_self,true_and,and_true,h3]
        tactic =>
        refine endA ?_
        sym =>
        simp [Zaa,Zab,Zad,Zae,Zaf,Zag,Zak,Zal,Zam,Zao,Zap,Zar,Zay,Zaz,Za0,Za1,Za2,Za3,Za4,Za5,Za9,Zba,Zbb,Zbf,Zb7,Zdc,Zdd,Zde,Zdi,Zev,Zew,Zez,Ze0,Ze2,Zfd,Zfe,Zfh,Zfn,Zf0,Zhb,Zhc,Zjr,Zka,Zky,Zk0,Zk4,Zla,Zlb,Zle,Zll,Zlz,Zl2,Zmt,Zmv,Zmw,Zmx,Zmz,Zm3,Zm9,Zna,Znb,Zne,Znf,Zng,Zof,Zog,Zos,Zot,Zo3,Zo4,Zo7,Zo8,Zo9,Zpb,Zph,Zpw,Zp9,Zqd,Zqe,eq_self,true_and,and_true]
      · rw [if_neg h3]
        sym =>
        simp [Zaa,Zab,Zad,Zae,Zaf,Zag,Zak,Zal,Zam,Zao,Zap,Zar,Zay,Zaz,Za0,Za1,Za2,Za3,Za4,Za5,Za9,Zba,Zbb,Zbf,Zb7,Zdc,Zdd,Zde,Zdi,Zev,Zew,Zez,Ze0,Ze2,Zfd,Zfe,Zfh,Zfn,Zf0,Zhb,Zhc,Zjr,Zka,Zky,Zk0,Zk4,Zla,Zlb,Zle,Zll,Zlz,Zl2,Zmt,Zmv,Zmw,Zmx,Zmz,Zm3,Zm9,Zna,Znb,Zne,Znf,Zng,Zof,Zog,Zos,Zot,Zo3,Zo4,Zo7,Zo8,Zo9,Zpb,Zph,Zpw,Zp9,Zqd,Zqe,eq_self,true_and,and_true,h3]
        tactic =>
        refine endA ?_
        sym =>
        simp [Zaa,Zab,Zad,Zae,Zaf,Zag,Zak,Zal,Zam,Zao,Zap,Zar,Zay,Zaz,Za0,Za1,Za2,Za3,Za4,Za5,Za9,Zba,Zbb,Zbf,Zb7,Zdc,Zdd,Zde,Zdi,Zev,Zew,Zez,Ze0,Ze2,Zfd,Zfe,Zfh,Zfn,Zf0,Zhb,Zhc,Zjr,Zka,Zky,Zk0,Zk4,Zla,Zlb,Zle,Zll,Zlz,Zl2,Zmt,Zmv,Zmw,Zmx,Zmz,Zm3,Zm9,Zna,Znb,Zne,Znf,Zng,Zof,Zog,Zos,Zot,Zo3,Zo4,Zo7,Zo8,Zo9,Zpb,Zph,Zpw,Zp9,Zqd,Zqe,eq_self,true_and,and_true]
        tactic =>
        rfl
    · rw [if_neg h2]
      sym =>
      simp [Zaa,Zab,Zad,Zae,Zaf,Zag,Zak,Zal,Zam,Zao,Zap,Zar,Zay,Zaz,Za0,Za1,Za2,Za3,Za4,Za5,Za9,Zba,Zbb,Zbf,Zb7,Zdc,Zdd,Zde,Zdi,Zev,Zew,Zez,Ze0,Ze2,Zfd,Zfe,Zfh,Zfn,Zf0,Zhb,Zhc,Zjr,Zka,Zky,Zk0,Zk4,Zla,Zlb,Zle,Zll,Zlz,Zl2,Zmt,Zmv,Zmw,Zmx,Zmz,Zm3,Zm9,Zna,Znb,Zne,Znf,Zng,Zof,Zog,Zos,Zot,Zo3,Zo4,Zo7,Zo8,Zo9,Zpb,Zph,Zpw,Zp9,Zqd,Zqe,eq_self,true_and,and_true,h2]
      tactic =>
      refine endA ?_
      sym =>
      simp [Zaa,Zab,Zad,Zae,Zaf,Zag,Zak,Zal,Zam,Zao,Zap,Zar,Zay,Zaz,Za0,Za1,Za2,Za3,Za4,Za5,Za9,Zba,Zbb,Zbf,Zb7,Zdc,Zdd,Zde,Zdi,Zev,Zew,Zez,Ze0,Ze2,Zfd,Zfe,Zfh,Zfn,Zf0,Zhb,Zhc,Zjr,Zka,Zky,Zk0,Zk4,Zla,Zlb,Zle,Zll,Zlz,Zl2,Zmt,Zmv,Zmw,Zmx,Zmz,Zm3,Zm9,Zna,Znb,Zne,Znf,Zng,Zof,Zog,Zos,Zot,Zo3,Zo4,Zo7,Zo8,Zo9,Zpb,Zph,Zpw,Zp9,Zqd,Zqe,eq_self,true_and,and_true]
      tactic =>
      rfl
  · rw [if_neg h1]
    sym =>
    simp [Zaa,Zab,Zad,Zae,Zaf,Zag,Zak,Zal,Zam,Zao,Zap,Zar,Zay,Zaz,Za0,Za1,Za2,Za3,Za4,Za5,Za9,Zba,Zbb,Zbf,Zb7,Zdc,Zdd,Zde,Zdi,Zev,Zew,Zez,Ze0,Ze2,Zfd,Zfe,Zfh,Zfn,Zf0,Zhb,Zhc,Zjr,Zka,Zky,Zk0,Zk4,Zla,Zlb,Zle,Zll,Zlz,Zl2,Zmt,Zmv,Zmw,Zmx,Zmz,Zm3,Zm9,Zna,Znb,Zne,Znf,Zng,Zof,Zog,Zos,Zot,Zo3,Zo4,Zo7,Zo8,Zo9,Zpb,Zph,Zpw,Zp9,Zqd,Zqe,eq_self,true_and,and_true,h1]
    tactic =>
    refine endA ?_
    sym =>
    simp [Zaa,Zab,Zad,Zae,Zaf,Zag,Zak,Zal,Zam,Zao,Zap,Zar,Zay,Zaz,Za0,Za1,Za2,Za3,Za4,Za5,Za9,Zba,Zbb,Zbf,Zb7,Zdc,Zdd,Zde,Zdi,Zev,Zew,Zez,Ze0,Ze2,Zfd,Zfe,Zfh,Zfn,Zf0,Zhb,Zhc,Zjr,Zka,Zky,Zk0,Zk4,Zla,Zlb,Zle,Zll,Zlz,Zl2,Zmt,Zmv,Zmw,Zmx,Zmz,Zm3,Zm9,Zna,Znb,Zne,Znf,Zng,Zof,Zog,Zos,Zot,Zo3,Zo4,Zo7,Zo8,Zo9,Zpb,Zph,Zpw,Zp9,Zqd,Zqe,eq_self,true_and,and_true]
    tactic =>
    rfl
end Go.Proofs.Ytdjjibmjinllnaa.DelH
