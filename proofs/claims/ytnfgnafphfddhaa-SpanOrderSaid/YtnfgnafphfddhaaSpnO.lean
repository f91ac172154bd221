import Derived.Test.YtnfgnafphfddhaaCodC
import Derived.Test.YtnfgnafphfddhaaSpnM
namespace Go.Proofs.Ytnfgnafphfddhaa.SpnO
open Go Go.Sim Go.Sim.E Go.RowKit Go.Proofs Go.Proofs.Ytnfgnafphfddhaa.Cod Go.Proofs.Ytnfgnafphfddhaa.Tab Go.Proofs.Ytnfgnafphfddhaa.SpnP Go.Proofs.Ytnfgnafphfddhaa.SpnA Go.Proofs.Ytnfgnafphfddhaa.SpnB Go.Proofs.Ytnfgnafphfddhaa.SpnC Go.Proofs.Ytnfgnafphfddhaa.SpnD Go.Proofs.Ytnfgnafphfddhaa.SpnE Go.Proofs.Ytnfgnafphfddhaa.SpnQ Go.Proofs.Ytnfgnafphfddhaa.SpnL Go.Proofs.Ytnfgnafphfddhaa.SpnM
set_option linter.unusedVariables false
set_option linter.unusedSimpArgs false
set_option maxRecDepth 100000
set_option maxHeartbeats 4000000
def gA1 (s : List Rg) (x : Rg) : List Rg := if lim x.2 ≤ lim x.1 then s else add (lim x.1, lim x.2) s
def gA (l : List Rg) : List Rg := l.foldl gA1 []
theorem gA1_spec {s : List Rg} (hn : Norm s) (hi : In s) (x : Rg) : Norm (gA1 s x) ∧ In (gA1 s x) ∧ (∀ p, mem (gA1 s x) p ↔ (lim x.1 ≤ p ∧ p < lim x.2) ∨ mem s p) ∧ (gA1 s x).length ≤ s.length + 1 ∧ sz s ≤ sz (gA1 s x) := by
  unfold gA1
  have l1 := lim_bounds x.1
  have l2 := lim_bounds x.2
  by_cases h : lim x.2 ≤ lim x.1
  · rw [if_pos h]
    exact ⟨hn, hi, fun p => ⟨.inr, fun h' => h'.elim (fun h2 => by omega) id⟩, by omega, by omega⟩
  · rw [if_neg h]
    obtain ⟨h1, h2⟩ := add_norm (lim x.1, lim x.2) (by show lim x.1 < lim x.2; omega) s hn
    refine ⟨h1, fun p hp => ?_, h2, add_length _ _, add_sz _ (by show lim x.1 < lim x.2; omega) s hn⟩
    rcases (h2 p).1 hp with hp | hp
    · have hp1 : lim x.1 ≤ p := hp.1
      have hp2 : p < lim x.2 := hp.2
      omega
    · exact hi p hp
theorem gA_spec : ∀ (l s : List Rg), Norm s → In s → Norm (l.foldl gA1 s) ∧ In (l.foldl gA1 s) ∧ (∀ p, mem (l.foldl gA1 s) p ↔ (∃ r ∈ l, lim r.1 ≤ p ∧ p < lim r.2) ∨ mem s p) ∧ (l.foldl gA1 s).length ≤ s.length + l.length
  | [], s, hn, hi => ⟨hn, hi, fun p => ⟨.inr, fun h => h.elim (fun ⟨r, hr, _⟩ => by cases hr) id⟩, by simp⟩
  | x :: l, s, hn, hi => by
    obtain ⟨h1, h2, h3, h4, _⟩ := gA1_spec hn hi x
    obtain ⟨k1, k2, k3, k4⟩ := gA_spec l (gA1 s x) h1 h2
    refine ⟨k1, k2, fun p => ?_, by simp only [List.foldl_cons, List.length_cons]; omega⟩
    rw [List.foldl_cons, k3 p, h3 p]
    constructor
    · rintro (⟨r, hr, h⟩ | h | h)
      · exact .inl ⟨r, List.mem_cons_of_mem _ hr, h⟩
      · exact .inl ⟨x, List.mem_cons_self .., h⟩
      · exact .inr h
    · rintro (⟨r, hr, h⟩ | h)
      · rcases List.mem_cons.1 hr with rfl | hr
        · exact .inr (.inl h)
        · exact .inl ⟨r, hr, h⟩
      · exact .inr (.inr h)
theorem gA_is (l : List Rg) : Norm (gA l) ∧ In (gA l) ∧ (∀ p, mem (gA l) p ↔ ∃ r ∈ l, lim r.1 ≤ p ∧ p < lim r.2) ∧ (gA l).length ≤ l.length := by
  obtain ⟨h1, h2, h3, h4⟩ := gA_spec l [] trivial (fun p hp => absurd hp (mem_nil p))
  refine ⟨h1, h2, fun p => ?_, by simpa [gA] using h4⟩
  rw [show mem (gA l) p ↔ _ from h3 p]
  exact ⟨fun h => h.elim id (fun h => absurd h (mem_nil p)), .inl⟩
theorem gA_rev (l : List Rg) : gA l.reverse = gA l := by
  obtain ⟨h1, _, h3, _⟩ := gA_is l
  obtain ⟨k1, _, k3, _⟩ := gA_is l.reverse
  refine norm_ext _ _ k1 h1 (fun p => ?_)
  rw [h3, k3]
  simp
theorem gA_one (l : List Rg) (i : Nat) (h : i < l.length) : gA (l.take (i + 1)) = gA1 (gA (l.take i)) l[i] := by rw [take_one l i h, gA, List.foldl_append]; rfl
theorem norm_lt : ∀ (s : List Rg), Norm s → ∀ (i j : Nat) (hij : i < j) (hj : j < s.length), (s[i]'(by omega)).2 < s[j].1
  | [], _, i, j, _, hj => by simp at hj
  | r :: s, hn, i, j, hij, hj => by
    cases j with
    | zero => omega
    | succ j =>
      simp only [List.length_cons] at hj
      cases i with
      | zero => exact hn.2.1 s[j] (List.getElem_mem ..)
      | succ i => exact norm_lt s hn.2.2 i j (by omega) (by omega)
theorem has_end {s : List Rg} (hn : Norm s) (i : Nat) (h : i < s.length) : hasF s s[i].2 = false := by
  rw [not_hasF]
  rintro ⟨r, hr, h1, h2⟩
  obtain ⟨j, hj, rfl⟩ := List.mem_iff_getElem.1 hr
  have e := norm_each s hn s[i] (List.getElem_mem ..)
  by_cases c1 : j < i
  · have := norm_lt s hn j i c1 h; omega
  · by_cases c2 : i < j
    · have := norm_lt s hn i j c2 hj; omega
    · have : i = j := by omega
      subst this; omega
def i9 (q : List Rg) (a b : Int) (k : Nat) (t : St) : Prop := ∃ i : Nat, i + k = q.length ∧
  t = ⟨[(0, fR q), (3, .pt 0 0), (5, .pt 1 0), (6, .pt 2 0), (23, I (IN q.length)), (24, I (IN i))],
    [(0, ⟨[I a, I b], 1, 0⟩), (1, ⟨[fR (gA (q.take i))], 1, 0⟩), (2, ⟨[fR (gA (q.reverse.take i))], 1, 0⟩)], 3⟩
def j9 (s : List Rg) (k : Nat) (t : St) : Prop := ∃ i : Nat, i + k = s.length ∧
  t = ⟨[(5, .pt 0 0), (9, fR s), (10, fR s), (13, fR s), (107, I (IN s.length)), (108, I (IN i))], [(0, ⟨[fR s], 1, 0⟩)], 1⟩
theorem order_con (l : List Rg) (a b : Int) : Con Try.prog 9 [] [fR l, .ag [I a, I b]] [] (Bo true) := by
  refine con_j b9 rfl ?_
  have e1 : min (IN l.length) 30 = IN (l.take 30).length := by simp [IN]; omega
  have e2 : (cR l).take ((l.take 30).length * 2) = cR (l.take 30) := by rw [cR_takes]; congr 1; simp [List.take_take]
  have e3 : (l.take 30).length ≤ l.length := by simp; omega
  have hq : (l.take 30).length ≤ 30 := by simp; omega
  sym =>
  simp [Zaa,Zab,Zac,Zad,Zae,Zaf,Zag,Zah,Zai,Zak,Zal,Zam,Zan,Zap,Zaq,Zav,Zaw,Zay,Zaz,Za0,Za1,Za2,Za3,Za4,Za5,Za9,Zba,Zbb,Zbc,Zbe,Zbf,Zbg,Zbi,Zbk,Zbt,Zbu,Zbv,Zbw,Zb2,Zb9,Zch,Zcn,Zco,Zct,Zcv,Zcx,Zc3,Zc4,Zc7,Zc8,Zc9,Zdc,Zdd,Zde,Zdf,Zdg,Zdh,Zdi,Zdj,Zdk,Zdm,Zdo,Zdp,Zdq,Zdr,Zds,Zdt,Zdu,Zdv,Zdw,Zdx,Zdy,Zdz,Zd0,Zd1,Zd2,Zd3,Zd8,Zeb,Zec,Zee,Zek,Zen,Zeq,Zer,Zes,Zet,Zev,Zew,Zex,Zez,Ze0,Ze1,Ze2,Ze3,Ze5,Ze8,Zfc,Zfd,Zfe,Zfh,Zfi,Zfk,Zfl,Zfn,Zfq,Zfr,Zf0,Zf1,Zf3,Zf4,Zga,Zgc,Zgd,Zgg,Zgr,Zgs,Zgt,Zgu,Zgv,Zgw,Zgx,Zgy,Zg4,Zg6,Zhd,Zhe,Zhf,Zhm,Zhn,Zho,Zhs,Zht,Zhu,Zh6,Zh7,Zif,Zig,Zik,Zil,Zim,Zin,Zio,Zip,Ziu,Ziv,Ziw,Zi6,Zjh,Zji,Zjr,Zjw,Zj2,Zj7,Zka,Zkb,Zkv,Zkx,Zla,Zlb,Zlc,Zld,Zle,Zlf,Zlh,Zlj,Zlm,Zlz,Zl2,Zmt,Zmv,Zmw,Zmx,Zmz,Zm2,Zm5,Zm6,Zm7,Zm9,Zna,Znb,Zne,Znf,Zng,Znh,Znn,Zno,Znp,Znr,Zns,Znt,Znu,Znw,Znx,Zn5,Zok,Zol,Zom,Zor,Zos,Zot,Zo3,Zo7,Zo8,Zo9,Zpa,Zpc,Zpg,Zpi,Zpu,Zpv,Zqb,Zqc,Zqf,Zqg,Zqh,Zqi,Zqk,Zql,Zqm,Zqn,eq_self,true_and,and_true,Nat.add_zero,Nat.sub_zero,Int.toNat_zero,e1,e2,e3]
  tactic =>
  generalize l.take 30 = q at *
  refine lpA (i9 q a b) q.length [(0, 0), (1, 10), (2, 11)] _ ⟨0, by omega, rfl⟩ (wkA ?_) ?_
  · sym =>
    simp [Zaa,Zab,Zac,Zad,Zae,Zaf,Zag,Zah,Zai,Zak,Zal,Zam,Zan,Zap,Zaq,Zav,Zaw,Zay,Zaz,Za0,Za1,Za2,Za3,Za4,Za5,Za9,Zba,Zbb,Zbc,Zbe,Zbf,Zbg,Zbi,Zbk,Zbt,Zbu,Zbv,Zbw,Zb2,Zb9,Zch,Zcn,Zco,Zct,Zcv,Zcx,Zc3,Zc4,Zc7,Zc8,Zc9,Zdc,Zdd,Zde,Zdf,Zdg,Zdh,Zdi,Zdj,Zdk,Zdm,Zdo,Zdp,Zdq,Zdr,Zds,Zdt,Zdu,Zdv,Zdw,Zdx,Zdy,Zdz,Zd0,Zd1,Zd2,Zd3,Zd8,Zeb,Zec,Zee,Zek,Zen,Zeq,Zer,Zes,Zet,Zev,Zew,Zex,Zez,Ze0,Ze1,Ze2,Ze3,Ze5,Ze8,Zfc,Zfd,Zfe,Zfh,Zfi,Zfk,Zfl,Zfn,Zfq,Zfr,Zf0,Zf1,Zf3,Zf4,Zga,Zgc,Zgd,Zgg,Zgr,Zgs,Zgt,Zgu,Zgv,Zgw,Zgx,Zgy,Zg4,Zg6,Zhd,Zhe,Zhf,Zhm,Zhn,Zho,Zhs,Zht,Zhu,Zh6,Zh7,Zif,Zig,Zik,Zil,Zim,Zin,Zio,Zip,Ziu,Ziv,Ziw,Zi6,Zjh,Zji,Zjr,Zjw,Zj2,Zj7,Zka,Zkb,Zkv,Zkx,Zla,Zlb,Zlc,Zld,Zle,Zlf,Zlh,Zlj,Zlm,Zlz,Zl2,Zmt,Zmv,Zmw,Zmx,Zmz,Zm2,Zm5,Zm6,Zm7,Zm9,Zna,Znb,Zne,Znf,Zng,Znh,Znn,Zno,Znp,Znr,Zns,Znt,Znu,Znw,Znx,Zn5,Zok,Zol,Zom,Zor,Zos,Zot,Zo3,Zo7,Zo8,Zo9,Zpa,Zpc,Zpg,Zpi,Zpu,Zpv,Zqb,Zqc,Zqf,Zqg,Zqh,Zqi,Zqk,Zql,Zqm,Zqn,eq_self,true_and,and_true,Nat.add_zero,Nat.sub_zero,Int.toNat_zero]
    tactic =>
    exact ⟨⟨rfl, rfl⟩, rfl, rfl⟩
  rintro k t ⟨i, hi, rfl⟩
  by_cases h : i < q.length
  · have hw := w64s i (by omega)
    have h0 := cR_q0 q i h
    have h1 := cR_q1 q i h
    have hr : q.length - 1 - i < q.length := by omega
    have h2 := cR_q0 q (q.length - 1 - i) hr
    have h3 := cR_q1 q (q.length - 1 - i) hr
    have hs1 : IntKind.i64.wrap (IN q.length - 1) = IN (q.length - 1) := by simp only [IN]; rw [w64 _ (by omega)]; omega
    have hs2 : IntKind.i64.wrap (IN (q.length - 1) - IN i) = IN (q.length - 1 - i) := by simp only [IN]; rw [w64 _ (by omega)]; omega
    have s1 := gA_one q i h
    have s2 := gA_one q.reverse i (by simpa using h)
    rw [List.getElem_reverse] at s2
    have g1 := (gA_is (q.take i)).2.2.2
    have g2 := (gA_is (q.reverse.take i)).2.2.2
    simp only [List.length_take, List.length_reverse] at g1 g2
    sym =>
    simp [Zaa,Zab,Zac,Zad,Zae,Zaf,Zag,Zah,Zai,Zak,Zal,Zam,Zan,Zap,Zaq,Zav,Zaw,Zay,Zaz,Za0,Za1,Za2,Za3,Za4,Za5,Za9,Zba,Zbb,Zbc,Zbe,Zbf,Zbg,Zbi,Zbk,Zbt,Zbu,Zbv,Zbw,Zb2,Zb9,Zch,Zcn,Zco,Zct,Zcv,Zcx,Zc3,Zc4,Zc7,Zc8,Zc9,Zdc,Zdd,Zde,Zdf,Zdg,Zdh,Zdi,Zdj,Zdk,Zdm,Zdo,Zdp,Zdq,Zdr,Zds,Zdt,Zdu,Zdv,Zdw,Zdx,Zdy,Zdz,Zd0,Zd1,Zd2,Zd3,Zd8,Zeb,Zec,Zee,Zek,Zen,Zeq,Zer,Zes,Zet,Zev,Zew,Zex,Zez,Ze0,Ze1,Ze2,Ze3,Ze5,Ze8,Zfc,Zfd,Zfe,Zfh,Zfi,Zfk,Zfl,Zfn,Zfq,Zfr,Zf0,Zf1,Zf3,Zf4,Zga,Zgc,Zgd,Zgg,Zgr,Zgs,Zgt,Zgu,Zgv,Zgw,Zgx,Zgy,Zg4,Zg6,Zhd,Zhe,Zhf,Zhm,Zhn,Zho,Zhs,Zht,Zhu,Zh6,Zh7,Zif,Zig,Zik,Zil,Zim,Zin,Zio,Zip,Ziu,Ziv,Ziw,Zi6,Zjh,Zji,Zjr,Zjw,Zj2,Zj7,Zka,Zkb,Zkv,Zkx,Zla,Zlb,Zlc,Zld,Zle,Zlf,Zlh,Zlj,Zlm,Zlz,Zl2,Zmt,Zmv,Zmw,Zmx,Zmz,Zm2,Zm5,Zm6,Zm7,Zm9,Zna,Znb,Zne,Znf,Zng,Znh,Znn,Zno,Znp,Znr,Zns,Znt,Znu,Znw,Znx,Zn5,Zok,Zol,Zom,Zor,Zos,Zot,Zo3,Zo7,Zo8,Zo9,Zpa,Zpc,Zpg,Zpi,Zpu,Zpv,Zqb,Zqc,Zqf,Zqg,Zqh,Zqi,Zqk,Zql,Zqm,Zqn,eq_self,true_and,and_true,Nat.add_zero,Nat.sub_zero,Int.toNat_zero,h,h0,h1,hw,cR_length,callable_43]
    tactic =>
    and_intros <;> try (first | omega | rfl | assumption | exact cR_okF _ | exact cR_okI _ | exact rs_self (cR_okI _) | (symm; refine List.take_of_length_le ?_; simp <;> omega))
    refine cl none (add_con _ (by omega) _ _) trivial ?_
    sym =>
    simp [Zaa,Zab,Zac,Zad,Zae,Zaf,Zag,Zah,Zai,Zak,Zal,Zam,Zan,Zap,Zaq,Zav,Zaw,Zay,Zaz,Za0,Za1,Za2,Za3,Za4,Za5,Za9,Zba,Zbb,Zbc,Zbe,Zbf,Zbg,Zbi,Zbk,Zbt,Zbu,Zbv,Zbw,Zb2,Zb9,Zch,Zcn,Zco,Zct,Zcv,Zcx,Zc3,Zc4,Zc7,Zc8,Zc9,Zdc,Zdd,Zde,Zdf,Zdg,Zdh,Zdi,Zdj,Zdk,Zdm,Zdo,Zdp,Zdq,Zdr,Zds,Zdt,Zdu,Zdv,Zdw,Zdx,Zdy,Zdz,Zd0,Zd1,Zd2,Zd3,Zd8,Zeb,Zec,Zee,Zek,Zen,Zeq,Zer,Zes,Zet,Zev,Zew,Zex,Zez,Ze0,Ze1,Ze2,Ze3,Ze5,Ze8,Zfc,Zfd,Zfe,Zfh,Zfi,Zfk,Zfl,Zfn,Zfq,Zfr,Zf0,Zf1,Zf3,Zf4,Zga,Zgc,Zgd,Zgg,Zgr,Zgs,Zgt,Zgu,Zgv,Zgw,Zgx,Zgy,Zg4,Zg6,Zhd,Zhe,Zhf,Zhm,Zhn,Zho,Zhs,Zht,Zhu,Zh6,Zh7,Zif,Zig,Zik,Zil,Zim,Zin,Zio,Zip,Ziu,Ziv,Ziw,Zi6,Zjh,Zji,Zjr,Zjw,Zj2,Zj7,Zka,Zkb,Zkv,Zkx,Zla,Zlb,Zlc,Zld,Zle,Zlf,Zlh,Zlj,Zlm,Zlz,Zl2,Zmt,Zmv,Zmw,Zmx,Zmz,Zm2,Zm5,Zm6,Zm7,Zm9,Zna,Znb,Zne,Znf,Zng,Znh,Znn,Zno,Znp,Znr,Zns,Znt,Znu,Znw,Znx,Zn5,Zok,Zol,Zom,Zor,Zos,Zot,Zo3,Zo7,Zo8,Zo9,Zpa,Zpc,Zpg,Zpi,Zpu,Zpv,Zqb,Zqc,Zqf,Zqg,Zqh,Zqi,Zqk,Zql,Zqm,Zqn,eq_self,true_and,and_true,Nat.add_zero,Nat.sub_zero,Int.toNat_zero,h2,h3,hs1,hs2,hr,cR_length,callable_43]
    tactic =>
    and_intros <;> try (first | omega | rfl | assumption | exact cR_okF _ | exact cR_okI _ | exact rs_self (cR_okI _) | (symm; refine List.take_of_length_le ?_; simp <;> omega))
    refine cl none (add_con _ (by omega) _ _) trivial ?_
    sym =>
    simp [Zaa,Zab,Zac,Zad,Zae,Zaf,Zag,Zah,Zai,Zak,Zal,Zam,Zan,Zap,Zaq,Zav,Zaw,Zay,Zaz,Za0,Za1,Za2,Za3,Za4,Za5,Za9,Zba,Zbb,Zbc,Zbe,Zbf,Zbg,Zbi,Zbk,Zbt,Zbu,Zbv,Zbw,Zb2,Zb9,Zch,Zcn,Zco,Zct,Zcv,Zcx,Zc3,Zc4,Zc7,Zc8,Zc9,Zdc,Zdd,Zde,Zdf,Zdg,Zdh,Zdi,Zdj,Zdk,Zdm,Zdo,Zdp,Zdq,Zdr,Zds,Zdt,Zdu,Zdv,Zdw,Zdx,Zdy,Zdz,Zd0,Zd1,Zd2,Zd3,Zd8,Zeb,Zec,Zee,Zek,Zen,Zeq,Zer,Zes,Zet,Zev,Zew,Zex,Zez,Ze0,Ze1,Ze2,Ze3,Ze5,Ze8,Zfc,Zfd,Zfe,Zfh,Zfi,Zfk,Zfl,Zfn,Zfq,Zfr,Zf0,Zf1,Zf3,Zf4,Zga,Zgc,Zgd,Zgg,Zgr,Zgs,Zgt,Zgu,Zgv,Zgw,Zgx,Zgy,Zg4,Zg6,Zhd,Zhe,Zhf,Zhm,Zhn,Zho,Zhs,Zht,Zhu,Zh6,Zh7,Zif,Zig,Zik,Zil,Zim,Zin,Zio,Zip,Ziu,Ziv,Ziw,Zi6,Zjh,Zji,Zjr,Zjw,Zj2,Zj7,Zka,Zkb,Zkv,Zkx,Zla,Zlb,Zlc,Zld,Zle,Zlf,Zlh,Zlj,Zlm,Zlz,Zl2,Zmt,Zmv,Zmw,Zmx,Zmz,Zm2,Zm5,Zm6,Zm7,Zm9,Zna,Znb,Zne,Znf,Zng,Znh,Znn,Zno,Znp,Znr,Zns,Znt,Znu,Znw,Znx,Zn5,Zok,Zol,Zom,Zor,Zos,Zot,Zo3,Zo7,Zo8,Zo9,Zpa,Zpc,Zpg,Zpi,Zpu,Zpv,Zqb,Zqc,Zqf,Zqg,Zqh,Zqi,Zqk,Zql,Zqm,Zqn,eq_self,true_and,and_true,Nat.add_zero,Nat.sub_zero,Int.toNat_zero,hw]
    tactic =>
    unfold NextL; refine ⟨(k - 1), [(0, 0), (1, 1), (2, 2)], _, by omega, ⟨i + 1, by omega, rfl⟩, wkA ?_⟩
    rw [s1, s2]
    sym =>
    simp [Zaa,Zab,Zac,Zad,Zae,Zaf,Zag,Zah,Zai,Zak,Zal,Zam,Zan,Zap,Zaq,Zav,Zaw,Zay,Zaz,Za0,Za1,Za2,Za3,Za4,Za5,Za9,Zba,Zbb,Zbc,Zbe,Zbf,Zbg,Zbi,Zbk,Zbt,Zbu,Zbv,Zbw,Zb2,Zb9,Zch,Zcn,Zco,Zct,Zcv,Zcx,Zc3,Zc4,Zc7,Zc8,Zc9,Zdc,Zdd,Zde,Zdf,Zdg,Zdh,Zdi,Zdj,Zdk,Zdm,Zdo,Zdp,Zdq,Zdr,Zds,Zdt,Zdu,Zdv,Zdw,Zdx,Zdy,Zdz,Zd0,Zd1,Zd2,Zd3,Zd8,Zeb,Zec,Zee,Zek,Zen,Zeq,Zer,Zes,Zet,Zev,Zew,Zex,Zez,Ze0,Ze1,Ze2,Ze3,Ze5,Ze8,Zfc,Zfd,Zfe,Zfh,Zfi,Zfk,Zfl,Zfn,Zfq,Zfr,Zf0,Zf1,Zf3,Zf4,Zga,Zgc,Zgd,Zgg,Zgr,Zgs,Zgt,Zgu,Zgv,Zgw,Zgx,Zgy,Zg4,Zg6,Zhd,Zhe,Zhf,Zhm,Zhn,Zho,Zhs,Zht,Zhu,Zh6,Zh7,Zif,Zig,Zik,Zil,Zim,Zin,Zio,Zip,Ziu,Ziv,Ziw,Zi6,Zjh,Zji,Zjr,Zjw,Zj2,Zj7,Zka,Zkb,Zkv,Zkx,Zla,Zlb,Zlc,Zld,Zle,Zlf,Zlh,Zlj,Zlm,Zlz,Zl2,Zmt,Zmv,Zmw,Zmx,Zmz,Zm2,Zm5,Zm6,Zm7,Zm9,Zna,Znb,Zne,Znf,Zng,Znh,Znn,Zno,Znp,Znr,Zns,Znt,Znu,Znw,Znx,Zn5,Zok,Zol,Zom,Zor,Zos,Zot,Zo3,Zo7,Zo8,Zo9,Zpa,Zpc,Zpg,Zpi,Zpu,Zpv,Zqb,Zqc,Zqf,Zqg,Zqh,Zqi,Zqk,Zql,Zqm,Zqn,eq_self,true_and,and_true,Nat.add_zero,Nat.sub_zero,Int.toNat_zero]
    tactic =>
    exact ⟨⟨rfl, rfl⟩, rfl, rfl⟩
  · have et : q.take i = q := List.take_of_length_le (by omega)
    have er : q.reverse.take i = q.reverse := List.take_of_length_le (by simp; omega)
    rw [et, er, gA_rev]
    obtain ⟨hn, hin, hm, hl⟩ := gA_is q
    obtain ⟨u1, u2, u3, u4, u5⟩ := gA1_spec hn hin (a, b)
    have ca := add_con (gA q) (by omega) a b
    have cc := cut_con (gA q) (by omega) a
    obtain ⟨c1, c2⟩ := cut_in hn hin (lim a)
    have c3 := cut_sz (lim a) (gA q) hn
    have c4 := cut_length (lim a) (gA q)
    have z1 := sumR_eq hn hin
    have z2 := sumR_eq u1 u2
    have z3 := sumR_eq c1 c2
    have ku : Con Try.prog 43 [] [.ag [fR (gA q)], I a, I b] [] (.ag [fR (gA1 (gA q) (a, b))]) := ca
    have kc := covers_con (gA1 (gA q) (a, b)) (by omega) a b
    rw [show decide (lim b ≤ lim a ∨ lim b ≤ endF (lim a) (gA1 (gA q) (a, b))) = true from decide_eq_true ((covers_iff _ u1 (lim a) (lim b)).2 (fun p hp hq => (u3 p).2 (.inl ⟨hp, hq⟩)))] at kc
    generalize hu : gA1 (gA q) (a, b) = u at *
    generalize hs : gA q = s at *
    have f1 : ¬ sumR u < sumR s := by omega
    have f2 : ¬ sumR s < sumR (cut (lim a) s) := by omega
    have hb := in_bounds hn hin
    sym =>
    simp [Zaa,Zab,Zac,Zad,Zae,Zaf,Zag,Zah,Zai,Zak,Zal,Zam,Zan,Zap,Zaq,Zav,Zaw,Zay,Zaz,Za0,Za1,Za2,Za3,Za4,Za5,Za9,Zba,Zbb,Zbc,Zbe,Zbf,Zbg,Zbi,Zbk,Zbt,Zbu,Zbv,Zbw,Zb2,Zb9,Zch,Zcn,Zco,Zct,Zcv,Zcx,Zc3,Zc4,Zc7,Zc8,Zc9,Zdc,Zdd,Zde,Zdf,Zdg,Zdh,Zdi,Zdj,Zdk,Zdm,Zdo,Zdp,Zdq,Zdr,Zds,Zdt,Zdu,Zdv,Zdw,Zdx,Zdy,Zdz,Zd0,Zd1,Zd2,Zd3,Zd8,Zeb,Zec,Zee,Zek,Zen,Zeq,Zer,Zes,Zet,Zev,Zew,Zex,Zez,Ze0,Ze1,Ze2,Ze3,Ze5,Ze8,Zfc,Zfd,Zfe,Zfh,Zfi,Zfk,Zfl,Zfn,Zfq,Zfr,Zf0,Zf1,Zf3,Zf4,Zga,Zgc,Zgd,Zgg,Zgr,Zgs,Zgt,Zgu,Zgv,Zgw,Zgx,Zgy,Zg4,Zg6,Zhd,Zhe,Zhf,Zhm,Zhn,Zho,Zhs,Zht,Zhu,Zh6,Zh7,Zif,Zig,Zik,Zil,Zim,Zin,Zio,Zip,Ziu,Ziv,Ziw,Zi6,Zjh,Zji,Zjr,Zjw,Zj2,Zj7,Zka,Zkb,Zkv,Zkx,Zla,Zlb,Zlc,Zld,Zle,Zlf,Zlh,Zlj,Zlm,Zlz,Zl2,Zmt,Zmv,Zmw,Zmx,Zmz,Zm2,Zm5,Zm6,Zm7,Zm9,Zna,Znb,Zne,Znf,Zng,Znh,Znn,Zno,Znp,Znr,Zns,Znt,Znu,Znw,Znx,Zn5,Zok,Zol,Zom,Zor,Zos,Zot,Zo3,Zo7,Zo8,Zo9,Zpa,Zpc,Zpg,Zpi,Zpu,Zpv,Zqb,Zqc,Zqf,Zqg,Zqh,Zqi,Zqk,Zql,Zqm,Zqn,eq_self,true_and,and_true,Nat.add_zero,Nat.sub_zero,Int.toNat_zero,h,callable_34]
    tactic =>
    refine cl none (ranges_con s (by omega)) trivial ?_
    sym =>
    simp [Zaa,Zab,Zac,Zad,Zae,Zaf,Zag,Zah,Zai,Zak,Zal,Zam,Zan,Zap,Zaq,Zav,Zaw,Zay,Zaz,Za0,Za1,Za2,Za3,Za4,Za5,Za9,Zba,Zbb,Zbc,Zbe,Zbf,Zbg,Zbi,Zbk,Zbt,Zbu,Zbv,Zbw,Zb2,Zb9,Zch,Zcn,Zco,Zct,Zcv,Zcx,Zc3,Zc4,Zc7,Zc8,Zc9,Zdc,Zdd,Zde,Zdf,Zdg,Zdh,Zdi,Zdj,Zdk,Zdm,Zdo,Zdp,Zdq,Zdr,Zds,Zdt,Zdu,Zdv,Zdw,Zdx,Zdy,Zdz,Zd0,Zd1,Zd2,Zd3,Zd8,Zeb,Zec,Zee,Zek,Zen,Zeq,Zer,Zes,Zet,Zev,Zew,Zex,Zez,Ze0,Ze1,Ze2,Ze3,Ze5,Ze8,Zfc,Zfd,Zfe,Zfh,Zfi,Zfk,Zfl,Zfn,Zfq,Zfr,Zf0,Zf1,Zf3,Zf4,Zga,Zgc,Zgd,Zgg,Zgr,Zgs,Zgt,Zgu,Zgv,Zgw,Zgx,Zgy,Zg4,Zg6,Zhd,Zhe,Zhf,Zhm,Zhn,Zho,Zhs,Zht,Zhu,Zh6,Zh7,Zif,Zig,Zik,Zil,Zim,Zin,Zio,Zip,Ziu,Ziv,Ziw,Zi6,Zjh,Zji,Zjr,Zjw,Zj2,Zj7,Zka,Zkb,Zkv,Zkx,Zla,Zlb,Zlc,Zld,Zle,Zlf,Zlh,Zlj,Zlm,Zlz,Zl2,Zmt,Zmv,Zmw,Zmx,Zmz,Zm2,Zm5,Zm6,Zm7,Zm9,Zna,Znb,Zne,Znf,Zng,Znh,Znn,Zno,Znp,Znr,Zns,Znt,Znu,Znw,Znx,Zn5,Zok,Zol,Zom,Zor,Zos,Zot,Zo3,Zo7,Zo8,Zo9,Zpa,Zpc,Zpg,Zpi,Zpu,Zpv,Zqb,Zqc,Zqf,Zqg,Zqh,Zqi,Zqk,Zql,Zqm,Zqn,eq_self,true_and,and_true,Nat.add_zero,Nat.sub_zero,Int.toNat_zero,callable_34]
    tactic =>
    refine cl none (ranges_con s (by omega)) trivial ?_
    sym =>
    simp [Zaa,Zab,Zac,Zad,Zae,Zaf,Zag,Zah,Zai,Zak,Zal,Zam,Zan,Zap,Zaq,Zav,Zaw,Zay,Zaz,Za0,Za1,Za2,Za3,Za4,Za5,Za9,Zba,Zbb,Zbc,Zbe,Zbf,Zbg,Zbi,Zbk,Zbt,Zbu,Zbv,Zbw,Zb2,Zb9,Zch,Zcn,Zco,Zct,Zcv,Zcx,Zc3,Zc4,Zc7,Zc8,Zc9,Zdc,Zdd,Zde,Zdf,Zdg,Zdh,Zdi,Zdj,Zdk,Zdm,Zdo,Zdp,Zdq,Zdr,Zds,Zdt,Zdu,Zdv,Zdw,Zdx,Zdy,Zdz,Zd0,Zd1,Zd2,Zd3,Zd8,Zeb,Zec,Zee,Zek,Zen,Zeq,Zer,Zes,Zet,Zev,Zew,Zex,Zez,Ze0,Ze1,Ze2,Ze3,Ze5,Ze8,Zfc,Zfd,Zfe,Zfh,Zfi,Zfk,Zfl,Zfn,Zfq,Zfr,Zf0,Zf1,Zf3,Zf4,Zga,Zgc,Zgd,Zgg,Zgr,Zgs,Zgt,Zgu,Zgv,Zgw,Zgx,Zgy,Zg4,Zg6,Zhd,Zhe,Zhf,Zhm,Zhn,Zho,Zhs,Zht,Zhu,Zh6,Zh7,Zif,Zig,Zik,Zil,Zim,Zin,Zio,Zip,Ziu,Ziv,Ziw,Zi6,Zjh,Zji,Zjr,Zjw,Zj2,Zj7,Zka,Zkb,Zkv,Zkx,Zla,Zlb,Zlc,Zld,Zle,Zlf,Zlh,Zlj,Zlm,Zlz,Zl2,Zmt,Zmv,Zmw,Zmx,Zmz,Zm2,Zm5,Zm6,Zm7,Zm9,Zna,Znb,Zne,Znf,Zng,Znh,Znn,Zno,Znp,Znr,Zns,Znt,Znu,Znw,Znx,Zn5,Zok,Zol,Zom,Zor,Zos,Zot,Zo3,Zo7,Zo8,Zo9,Zpa,Zpc,Zpg,Zpi,Zpu,Zpv,Zqb,Zqc,Zqf,Zqg,Zqh,Zqi,Zqk,Zql,Zqm,Zqn,eq_self,true_and,and_true,Nat.add_zero,Nat.sub_zero,Int.toNat_zero,callable_43]
    tactic =>
    refine cl none (ku) trivial ?_
    sym =>
    simp [Zaa,Zab,Zac,Zad,Zae,Zaf,Zag,Zah,Zai,Zak,Zal,Zam,Zan,Zap,Zaq,Zav,Zaw,Zay,Zaz,Za0,Za1,Za2,Za3,Za4,Za5,Za9,Zba,Zbb,Zbc,Zbe,Zbf,Zbg,Zbi,Zbk,Zbt,Zbu,Zbv,Zbw,Zb2,Zb9,Zch,Zcn,Zco,Zct,Zcv,Zcx,Zc3,Zc4,Zc7,Zc8,Zc9,Zdc,Zdd,Zde,Zdf,Zdg,Zdh,Zdi,Zdj,Zdk,Zdm,Zdo,Zdp,Zdq,Zdr,Zds,Zdt,Zdu,Zdv,Zdw,Zdx,Zdy,Zdz,Zd0,Zd1,Zd2,Zd3,Zd8,Zeb,Zec,Zee,Zek,Zen,Zeq,Zer,Zes,Zet,Zev,Zew,Zex,Zez,Ze0,Ze1,Ze2,Ze3,Ze5,Ze8,Zfc,Zfd,Zfe,Zfh,Zfi,Zfk,Zfl,Zfn,Zfq,Zfr,Zf0,Zf1,Zf3,Zf4,Zga,Zgc,Zgd,Zgg,Zgr,Zgs,Zgt,Zgu,Zgv,Zgw,Zgx,Zgy,Zg4,Zg6,Zhd,Zhe,Zhf,Zhm,Zhn,Zho,Zhs,Zht,Zhu,Zh6,Zh7,Zif,Zig,Zik,Zil,Zim,Zin,Zio,Zip,Ziu,Ziv,Ziw,Zi6,Zjh,Zji,Zjr,Zjw,Zj2,Zj7,Zka,Zkb,Zkv,Zkx,Zla,Zlb,Zlc,Zld,Zle,Zlf,Zlh,Zlj,Zlm,Zlz,Zl2,Zmt,Zmv,Zmw,Zmx,Zmz,Zm2,Zm5,Zm6,Zm7,Zm9,Zna,Znb,Zne,Znf,Zng,Znh,Znn,Zno,Znp,Znr,Zns,Znt,Znu,Znw,Znx,Zn5,Zok,Zol,Zom,Zor,Zos,Zot,Zo3,Zo7,Zo8,Zo9,Zpa,Zpc,Zpg,Zpi,Zpu,Zpv,Zqb,Zqc,Zqf,Zqg,Zqh,Zqi,Zqk,Zql,Zqm,Zqn,eq_self,true_and,and_true,Nat.add_zero,Nat.sub_zero,Int.toNat_zero,callable_44]
    tactic =>
    refine cl none (cc) trivial ?_
    sym =>
    simp [Zaa,Zab,Zac,Zad,Zae,Zaf,Zag,Zah,Zai,Zak,Zal,Zam,Zan,Zap,Zaq,Zav,Zaw,Zay,Zaz,Za0,Za1,Za2,Za3,Za4,Za5,Za9,Zba,Zbb,Zbc,Zbe,Zbf,Zbg,Zbi,Zbk,Zbt,Zbu,Zbv,Zbw,Zb2,Zb9,Zch,Zcn,Zco,Zct,Zcv,Zcx,Zc3,Zc4,Zc7,Zc8,Zc9,Zdc,Zdd,Zde,Zdf,Zdg,Zdh,Zdi,Zdj,Zdk,Zdm,Zdo,Zdp,Zdq,Zdr,Zds,Zdt,Zdu,Zdv,Zdw,Zdx,Zdy,Zdz,Zd0,Zd1,Zd2,Zd3,Zd8,Zeb,Zec,Zee,Zek,Zen,Zeq,Zer,Zes,Zet,Zev,Zew,Zex,Zez,Ze0,Ze1,Ze2,Ze3,Ze5,Ze8,Zfc,Zfd,Zfe,Zfh,Zfi,Zfk,Zfl,Zfn,Zfq,Zfr,Zf0,Zf1,Zf3,Zf4,Zga,Zgc,Zgd,Zgg,Zgr,Zgs,Zgt,Zgu,Zgv,Zgw,Zgx,Zgy,Zg4,Zg6,Zhd,Zhe,Zhf,Zhm,Zhn,Zho,Zhs,Zht,Zhu,Zh6,Zh7,Zif,Zig,Zik,Zil,Zim,Zin,Zio,Zip,Ziu,Ziv,Ziw,Zi6,Zjh,Zji,Zjr,Zjw,Zj2,Zj7,Zka,Zkb,Zkv,Zkx,Zla,Zlb,Zlc,Zld,Zle,Zlf,Zlh,Zlj,Zlm,Zlz,Zl2,Zmt,Zmv,Zmw,Zmx,Zmz,Zm2,Zm5,Zm6,Zm7,Zm9,Zna,Znb,Zne,Znf,Zng,Znh,Znn,Zno,Znp,Znr,Zns,Znt,Znu,Znw,Znx,Zn5,Zok,Zol,Zom,Zor,Zos,Zot,Zo3,Zo7,Zo8,Zo9,Zpa,Zpc,Zpg,Zpi,Zpu,Zpv,Zqb,Zqc,Zqf,Zqg,Zqh,Zqi,Zqk,Zql,Zqm,Zqn,eq_self,true_and,and_true,Nat.add_zero,Nat.sub_zero,Int.toNat_zero,callable_34]
    tactic =>
    refine cl none (ranges_con s (by omega)) trivial ?_
    sym =>
    simp [Zaa,Zab,Zac,Zad,Zae,Zaf,Zag,Zah,Zai,Zak,Zal,Zam,Zan,Zap,Zaq,Zav,Zaw,Zay,Zaz,Za0,Za1,Za2,Za3,Za4,Za5,Za9,Zba,Zbb,Zbc,Zbe,Zbf,Zbg,Zbi,Zbk,Zbt,Zbu,Zbv,Zbw,Zb2,Zb9,Zch,Zcn,Zco,Zct,Zcv,Zcx,Zc3,Zc4,Zc7,Zc8,Zc9,Zdc,Zdd,Zde,Zdf,Zdg,Zdh,Zdi,Zdj,Zdk,Zdm,Zdo,Zdp,Zdq,Zdr,Zds,Zdt,Zdu,Zdv,Zdw,Zdx,Zdy,Zdz,Zd0,Zd1,Zd2,Zd3,Zd8,Zeb,Zec,Zee,Zek,Zen,Zeq,Zer,Zes,Zet,Zev,Zew,Zex,Zez,Ze0,Ze1,Ze2,Ze3,Ze5,Ze8,Zfc,Zfd,Zfe,Zfh,Zfi,Zfk,Zfl,Zfn,Zfq,Zfr,Zf0,Zf1,Zf3,Zf4,Zga,Zgc,Zgd,Zgg,Zgr,Zgs,Zgt,Zgu,Zgv,Zgw,Zgx,Zgy,Zg4,Zg6,Zhd,Zhe,Zhf,Zhm,Zhn,Zho,Zhs,Zht,Zhu,Zh6,Zh7,Zif,Zig,Zik,Zil,Zim,Zin,Zio,Zip,Ziu,Ziv,Ziw,Zi6,Zjh,Zji,Zjr,Zjw,Zj2,Zj7,Zka,Zkb,Zkv,Zkx,Zla,Zlb,Zlc,Zld,Zle,Zlf,Zlh,Zlj,Zlm,Zlz,Zl2,Zmt,Zmv,Zmw,Zmx,Zmz,Zm2,Zm5,Zm6,Zm7,Zm9,Zna,Znb,Zne,Znf,Zng,Znh,Znn,Zno,Znp,Znr,Zns,Znt,Znu,Znw,Znx,Zn5,Zok,Zol,Zom,Zor,Zos,Zot,Zo3,Zo7,Zo8,Zo9,Zpa,Zpc,Zpg,Zpi,Zpu,Zpv,Zqb,Zqc,Zqf,Zqg,Zqh,Zqi,Zqk,Zql,Zqm,Zqn,eq_self,true_and,and_true,Nat.add_zero,Nat.sub_zero,Int.toNat_zero,callable_36]
    tactic =>
    refine cl none (size_con u (by omega)) trivial ?_
    sym =>
    simp [Zaa,Zab,Zac,Zad,Zae,Zaf,Zag,Zah,Zai,Zak,Zal,Zam,Zan,Zap,Zaq,Zav,Zaw,Zay,Zaz,Za0,Za1,Za2,Za3,Za4,Za5,Za9,Zba,Zbb,Zbc,Zbe,Zbf,Zbg,Zbi,Zbk,Zbt,Zbu,Zbv,Zbw,Zb2,Zb9,Zch,Zcn,Zco,Zct,Zcv,Zcx,Zc3,Zc4,Zc7,Zc8,Zc9,Zdc,Zdd,Zde,Zdf,Zdg,Zdh,Zdi,Zdj,Zdk,Zdm,Zdo,Zdp,Zdq,Zdr,Zds,Zdt,Zdu,Zdv,Zdw,Zdx,Zdy,Zdz,Zd0,Zd1,Zd2,Zd3,Zd8,Zeb,Zec,Zee,Zek,Zen,Zeq,Zer,Zes,Zet,Zev,Zew,Zex,Zez,Ze0,Ze1,Ze2,Ze3,Ze5,Ze8,Zfc,Zfd,Zfe,Zfh,Zfi,Zfk,Zfl,Zfn,Zfq,Zfr,Zf0,Zf1,Zf3,Zf4,Zga,Zgc,Zgd,Zgg,Zgr,Zgs,Zgt,Zgu,Zgv,Zgw,Zgx,Zgy,Zg4,Zg6,Zhd,Zhe,Zhf,Zhm,Zhn,Zho,Zhs,Zht,Zhu,Zh6,Zh7,Zif,Zig,Zik,Zil,Zim,Zin,Zio,Zip,Ziu,Ziv,Ziw,Zi6,Zjh,Zji,Zjr,Zjw,Zj2,Zj7,Zka,Zkb,Zkv,Zkx,Zla,Zlb,Zlc,Zld,Zle,Zlf,Zlh,Zlj,Zlm,Zlz,Zl2,Zmt,Zmv,Zmw,Zmx,Zmz,Zm2,Zm5,Zm6,Zm7,Zm9,Zna,Znb,Zne,Znf,Zng,Znh,Znn,Zno,Znp,Znr,Zns,Znt,Znu,Znw,Znx,Zn5,Zok,Zol,Zom,Zor,Zos,Zot,Zo3,Zo7,Zo8,Zo9,Zpa,Zpc,Zpg,Zpi,Zpu,Zpv,Zqb,Zqc,Zqf,Zqg,Zqh,Zqi,Zqk,Zql,Zqm,Zqn,eq_self,true_and,and_true,Nat.add_zero,Nat.sub_zero,Int.toNat_zero,callable_36]
    tactic =>
    refine cl none (size_con s (by omega)) trivial ?_
    sym =>
    simp [Zaa,Zab,Zac,Zad,Zae,Zaf,Zag,Zah,Zai,Zak,Zal,Zam,Zan,Zap,Zaq,Zav,Zaw,Zay,Zaz,Za0,Za1,Za2,Za3,Za4,Za5,Za9,Zba,Zbb,Zbc,Zbe,Zbf,Zbg,Zbi,Zbk,Zbt,Zbu,Zbv,Zbw,Zb2,Zb9,Zch,Zcn,Zco,Zct,Zcv,Zcx,Zc3,Zc4,Zc7,Zc8,Zc9,Zdc,Zdd,Zde,Zdf,Zdg,Zdh,Zdi,Zdj,Zdk,Zdm,Zdo,Zdp,Zdq,Zdr,Zds,Zdt,Zdu,Zdv,Zdw,Zdx,Zdy,Zdz,Zd0,Zd1,Zd2,Zd3,Zd8,Zeb,Zec,Zee,Zek,Zen,Zeq,Zer,Zes,Zet,Zev,Zew,Zex,Zez,Ze0,Ze1,Ze2,Ze3,Ze5,Ze8,Zfc,Zfd,Zfe,Zfh,Zfi,Zfk,Zfl,Zfn,Zfq,Zfr,Zf0,Zf1,Zf3,Zf4,Zga,Zgc,Zgd,Zgg,Zgr,Zgs,Zgt,Zgu,Zgv,Zgw,Zgx,Zgy,Zg4,Zg6,Zhd,Zhe,Zhf,Zhm,Zhn,Zho,Zhs,Zht,Zhu,Zh6,Zh7,Zif,Zig,Zik,Zil,Zim,Zin,Zio,Zip,Ziu,Ziv,Ziw,Zi6,Zjh,Zji,Zjr,Zjw,Zj2,Zj7,Zka,Zkb,Zkv,Zkx,Zla,Zlb,Zlc,Zld,Zle,Zlf,Zlh,Zlj,Zlm,Zlz,Zl2,Zmt,Zmv,Zmw,Zmx,Zmz,Zm2,Zm5,Zm6,Zm7,Zm9,Zna,Znb,Zne,Znf,Zng,Znh,Znn,Zno,Znp,Znr,Zns,Znt,Znu,Znw,Znx,Zn5,Zok,Zol,Zom,Zor,Zos,Zot,Zo3,Zo7,Zo8,Zo9,Zpa,Zpc,Zpg,Zpi,Zpu,Zpv,Zqb,Zqc,Zqf,Zqg,Zqh,Zqi,Zqk,Zql,Zqm,Zqn,eq_self,true_and,and_true,Nat.add_zero,Nat.sub_zero,Int.toNat_zero,callable_36,f1]
    tactic =>
    refine cl none (size_con (cut (lim a) s) (by omega)) trivial ?_
    sym =>
    simp [Zaa,Zab,Zac,Zad,Zae,Zaf,Zag,Zah,Zai,Zak,Zal,Zam,Zan,Zap,Zaq,Zav,Zaw,Zay,Zaz,Za0,Za1,Za2,Za3,Za4,Za5,Za9,Zba,Zbb,Zbc,Zbe,Zbf,Zbg,Zbi,Zbk,Zbt,Zbu,Zbv,Zbw,Zb2,Zb9,Zch,Zcn,Zco,Zct,Zcv,Zcx,Zc3,Zc4,Zc7,Zc8,Zc9,Zdc,Zdd,Zde,Zdf,Zdg,Zdh,Zdi,Zdj,Zdk,Zdm,Zdo,Zdp,Zdq,Zdr,Zds,Zdt,Zdu,Zdv,Zdw,Zdx,Zdy,Zdz,Zd0,Zd1,Zd2,Zd3,Zd8,Zeb,Zec,Zee,Zek,Zen,Zeq,Zer,Zes,Zet,Zev,Zew,Zex,Zez,Ze0,Ze1,Ze2,Ze3,Ze5,Ze8,Zfc,Zfd,Zfe,Zfh,Zfi,Zfk,Zfl,Zfn,Zfq,Zfr,Zf0,Zf1,Zf3,Zf4,Zga,Zgc,Zgd,Zgg,Zgr,Zgs,Zgt,Zgu,Zgv,Zgw,Zgx,Zgy,Zg4,Zg6,Zhd,Zhe,Zhf,Zhm,Zhn,Zho,Zhs,Zht,Zhu,Zh6,Zh7,Zif,Zig,Zik,Zil,Zim,Zin,Zio,Zip,Ziu,Ziv,Ziw,Zi6,Zjh,Zji,Zjr,Zjw,Zj2,Zj7,Zka,Zkb,Zkv,Zkx,Zla,Zlb,Zlc,Zld,Zle,Zlf,Zlh,Zlj,Zlm,Zlz,Zl2,Zmt,Zmv,Zmw,Zmx,Zmz,Zm2,Zm5,Zm6,Zm7,Zm9,Zna,Znb,Zne,Znf,Zng,Znh,Znn,Zno,Znp,Znr,Zns,Znt,Znu,Znw,Znx,Zn5,Zok,Zol,Zom,Zor,Zos,Zot,Zo3,Zo7,Zo8,Zo9,Zpa,Zpc,Zpg,Zpi,Zpu,Zpv,Zqb,Zqc,Zqf,Zqg,Zqh,Zqi,Zqk,Zql,Zqm,Zqn,eq_self,true_and,and_true,Nat.add_zero,Nat.sub_zero,Int.toNat_zero,callable_36]
    tactic =>
    refine cl none (size_con s (by omega)) trivial ?_
    sym =>
    simp [Zaa,Zab,Zac,Zad,Zae,Zaf,Zag,Zah,Zai,Zak,Zal,Zam,Zan,Zap,Zaq,Zav,Zaw,Zay,Zaz,Za0,Za1,Za2,Za3,Za4,Za5,Za9,Zba,Zbb,Zbc,Zbe,Zbf,Zbg,Zbi,Zbk,Zbt,Zbu,Zbv,Zbw,Zb2,Zb9,Zch,Zcn,Zco,Zct,Zcv,Zcx,Zc3,Zc4,Zc7,Zc8,Zc9,Zdc,Zdd,Zde,Zdf,Zdg,Zdh,Zdi,Zdj,Zdk,Zdm,Zdo,Zdp,Zdq,Zdr,Zds,Zdt,Zdu,Zdv,Zdw,Zdx,Zdy,Zdz,Zd0,Zd1,Zd2,Zd3,Zd8,Zeb,Zec,Zee,Zek,Zen,Zeq,Zer,Zes,Zet,Zev,Zew,Zex,Zez,Ze0,Ze1,Ze2,Ze3,Ze5,Ze8,Zfc,Zfd,Zfe,Zfh,Zfi,Zfk,Zfl,Zfn,Zfq,Zfr,Zf0,Zf1,Zf3,Zf4,Zga,Zgc,Zgd,Zgg,Zgr,Zgs,Zgt,Zgu,Zgv,Zgw,Zgx,Zgy,Zg4,Zg6,Zhd,Zhe,Zhf,Zhm,Zhn,Zho,Zhs,Zht,Zhu,Zh6,Zh7,Zif,Zig,Zik,Zil,Zim,Zin,Zio,Zip,Ziu,Ziv,Ziw,Zi6,Zjh,Zji,Zjr,Zjw,Zj2,Zj7,Zka,Zkb,Zkv,Zkx,Zla,Zlb,Zlc,Zld,Zle,Zlf,Zlh,Zlj,Zlm,Zlz,Zl2,Zmt,Zmv,Zmw,Zmx,Zmz,Zm2,Zm5,Zm6,Zm7,Zm9,Zna,Znb,Zne,Znf,Zng,Znh,Znn,Zno,Znp,Znr,Zns,Znt,Znu,Znw,Znx,Zn5,Zok,Zol,Zom,Zor,Zos,Zot,Zo3,Zo7,Zo8,Zo9,Zpa,Zpc,Zpg,Zpi,Zpu,Zpv,Zqb,Zqc,Zqf,Zqg,Zqh,Zqi,Zqk,Zql,Zqm,Zqn,eq_self,true_and,and_true,Nat.add_zero,Nat.sub_zero,Int.toNat_zero,callable_45,f2]
    tactic =>
    refine cl none (kc) trivial ?_
    sym =>
    simp [Zaa,Zab,Zac,Zad,Zae,Zaf,Zag,Zah,Zai,Zak,Zal,Zam,Zan,Zap,Zaq,Zav,Zaw,Zay,Zaz,Za0,Za1,Za2,Za3,Za4,Za5,Za9,Zba,Zbb,Zbc,Zbe,Zbf,Zbg,Zbi,Zbk,Zbt,Zbu,Zbv,Zbw,Zb2,Zb9,Zch,Zcn,Zco,Zct,Zcv,Zcx,Zc3,Zc4,Zc7,Zc8,Zc9,Zdc,Zdd,Zde,Zdf,Zdg,Zdh,Zdi,Zdj,Zdk,Zdm,Zdo,Zdp,Zdq,Zdr,Zds,Zdt,Zdu,Zdv,Zdw,Zdx,Zdy,Zdz,Zd0,Zd1,Zd2,Zd3,Zd8,Zeb,Zec,Zee,Zek,Zen,Zeq,Zer,Zes,Zet,Zev,Zew,Zex,Zez,Ze0,Ze1,Ze2,Ze3,Ze5,Ze8,Zfc,Zfd,Zfe,Zfh,Zfi,Zfk,Zfl,Zfn,Zfq,Zfr,Zf0,Zf1,Zf3,Zf4,Zga,Zgc,Zgd,Zgg,Zgr,Zgs,Zgt,Zgu,Zgv,Zgw,Zgx,Zgy,Zg4,Zg6,Zhd,Zhe,Zhf,Zhm,Zhn,Zho,Zhs,Zht,Zhu,Zh6,Zh7,Zif,Zig,Zik,Zil,Zim,Zin,Zio,Zip,Ziu,Ziv,Ziw,Zi6,Zjh,Zji,Zjr,Zjw,Zj2,Zj7,Zka,Zkb,Zkv,Zkx,Zla,Zlb,Zlc,Zld,Zle,Zlf,Zlh,Zlj,Zlm,Zlz,Zl2,Zmt,Zmv,Zmw,Zmx,Zmz,Zm2,Zm5,Zm6,Zm7,Zm9,Zna,Znb,Zne,Znf,Zng,Znh,Znn,Zno,Znp,Znr,Zns,Znt,Znu,Znw,Znx,Zn5,Zok,Zol,Zom,Zor,Zos,Zot,Zo3,Zo7,Zo8,Zo9,Zpa,Zpc,Zpg,Zpi,Zpu,Zpv,Zqb,Zqc,Zqf,Zqg,Zqh,Zqi,Zqk,Zql,Zqm,Zqn,eq_self,true_and,and_true,Nat.add_zero,Nat.sub_zero,Int.toNat_zero]
    tactic =>
    refine lpA (j9 s) s.length [(0, 1)] _ ⟨0, by omega, rfl⟩ (wkA ?_) ?_
    · sym =>
      simp [Zaa,Zab,Zac,Zad,Zae,Zaf,Zag,Zah,Zai,Zak,Zal,Zam,Zan,Zap,Zaq,Zav,Zaw,Zay,Zaz,Za0,Za1,Za2,Za3,Za4,Za5,Za9,Zba,Zbb,Zbc,Zbe,Zbf,Zbg,Zbi,Zbk,Zbt,Zbu,Zbv,Zbw,Zb2,Zb9,Zch,Zcn,Zco,Zct,Zcv,Zcx,Zc3,Zc4,Zc7,Zc8,Zc9,Zdc,Zdd,Zde,Zdf,Zdg,Zdh,Zdi,Zdj,Zdk,Zdm,Zdo,Zdp,Zdq,Zdr,Zds,Zdt,Zdu,Zdv,Zdw,Zdx,Zdy,Zdz,Zd0,Zd1,Zd2,Zd3,Zd8,Zeb,Zec,Zee,Zek,Zen,Zeq,Zer,Zes,Zet,Zev,Zew,Zex,Zez,Ze0,Ze1,Ze2,Ze3,Ze5,Ze8,Zfc,Zfd,Zfe,Zfh,Zfi,Zfk,Zfl,Zfn,Zfq,Zfr,Zf0,Zf1,Zf3,Zf4,Zga,Zgc,Zgd,Zgg,Zgr,Zgs,Zgt,Zgu,Zgv,Zgw,Zgx,Zgy,Zg4,Zg6,Zhd,Zhe,Zhf,Zhm,Zhn,Zho,Zhs,Zht,Zhu,Zh6,Zh7,Zif,Zig,Zik,Zil,Zim,Zin,Zio,Zip,Ziu,Ziv,Ziw,Zi6,Zjh,Zji,Zjr,Zjw,Zj2,Zj7,Zka,Zkb,Zkv,Zkx,Zla,Zlb,Zlc,Zld,Zle,Zlf,Zlh,Zlj,Zlm,Zlz,Zl2,Zmt,Zmv,Zmw,Zmx,Zmz,Zm2,Zm5,Zm6,Zm7,Zm9,Zna,Znb,Zne,Znf,Zng,Znh,Znn,Zno,Znp,Znr,Zns,Znt,Znu,Znw,Znx,Zn5,Zok,Zol,Zom,Zor,Zos,Zot,Zo3,Zo7,Zo8,Zo9,Zpa,Zpc,Zpg,Zpi,Zpu,Zpv,Zqb,Zqc,Zqf,Zqg,Zqh,Zqi,Zqk,Zql,Zqm,Zqn,eq_self,true_and,and_true,Nat.add_zero,Nat.sub_zero,Int.toNat_zero]
    rintro k t ⟨i, hi, rfl⟩
    by_cases h : i < s.length
    · have hw := w64s i (by omega)
      have h0 := cR_q0 s i h
      have h1 := cR_q1 s i h
      obtain ⟨b1, b2, b3⟩ := hb s[i] (List.getElem_mem ..)
      have b4 : ¬ s[i].2 ≤ s[i].1 := by omega
      have k1 := covers_con s (by omega) s[i].1 s[i].2
      rw [cov_true hn b1 (by omega) (by omega) b3 (fun p hp hq => ⟨s[i], List.getElem_mem .., hp, hq⟩)] at k1
      have k2 := has_con s (by omega) s[i].2
      rw [has_end hn i h] at k2
      by_cases hz : 0 < i
      · have h2 := cR_q1 s (i - 1) (by omega)
        have hs1 : IntKind.i64.wrap (IN i - 1) = IN (i - 1) := by simp only [IN]; rw [w64 _ (by omega)]; omega
        have hlt := norm_lt s hn (i - 1) i (by omega) h
        have hi1 : i - 1 < s.length := by omega
        have b5 : ¬ s[i].1 ≤ (s[i - 1]'hi1).2 := by omega
        sym =>
        simp [Zaa,Zab,Zac,Zad,Zae,Zaf,Zag,Zah,Zai,Zak,Zal,Zam,Zan,Zap,Zaq,Zav,Zaw,Zay,Zaz,Za0,Za1,Za2,Za3,Za4,Za5,Za9,Zba,Zbb,Zbc,Zbe,Zbf,Zbg,Zbi,Zbk,Zbt,Zbu,Zbv,Zbw,Zb2,Zb9,Zch,Zcn,Zco,Zct,Zcv,Zcx,Zc3,Zc4,Zc7,Zc8,Zc9,Zdc,Zdd,Zde,Zdf,Zdg,Zdh,Zdi,Zdj,Zdk,Zdm,Zdo,Zdp,Zdq,Zdr,Zds,Zdt,Zdu,Zdv,Zdw,Zdx,Zdy,Zdz,Zd0,Zd1,Zd2,Zd3,Zd8,Zeb,Zec,Zee,Zek,Zen,Zeq,Zer,Zes,Zet,Zev,Zew,Zex,Zez,Ze0,Ze1,Ze2,Ze3,Ze5,Ze8,Zfc,Zfd,Zfe,Zfh,Zfi,Zfk,Zfl,Zfn,Zfq,Zfr,Zf0,Zf1,Zf3,Zf4,Zga,Zgc,Zgd,Zgg,Zgr,Zgs,Zgt,Zgu,Zgv,Zgw,Zgx,Zgy,Zg4,Zg6,Zhd,Zhe,Zhf,Zhm,Zhn,Zho,Zhs,Zht,Zhu,Zh6,Zh7,Zif,Zig,Zik,Zil,Zim,Zin,Zio,Zip,Ziu,Ziv,Ziw,Zi6,Zjh,Zji,Zjr,Zjw,Zj2,Zj7,Zka,Zkb,Zkv,Zkx,Zla,Zlb,Zlc,Zld,Zle,Zlf,Zlh,Zlj,Zlm,Zlz,Zl2,Zmt,Zmv,Zmw,Zmx,Zmz,Zm2,Zm5,Zm6,Zm7,Zm9,Zna,Znb,Zne,Znf,Zng,Znh,Znn,Zno,Znp,Znr,Zns,Znt,Znu,Znw,Znx,Zn5,Zok,Zol,Zom,Zor,Zos,Zot,Zo3,Zo7,Zo8,Zo9,Zpa,Zpc,Zpg,Zpi,Zpu,Zpv,Zqb,Zqc,Zqf,Zqg,Zqh,Zqi,Zqk,Zql,Zqm,Zqn,eq_self,true_and,and_true,Nat.add_zero,Nat.sub_zero,Int.toNat_zero,h,hz,h0,h1,h2,hs1,hi1,b4,b5,cR_length,callable_45]
        tactic =>
        and_intros <;> try (first | omega | rfl | assumption | exact cR_okF _ | exact cR_okI _ | exact rs_self (cR_okI _) | (symm; refine List.take_of_length_le ?_; simp <;> omega))
        refine cl none (k1) trivial ?_
        sym =>
        simp [Zaa,Zab,Zac,Zad,Zae,Zaf,Zag,Zah,Zai,Zak,Zal,Zam,Zan,Zap,Zaq,Zav,Zaw,Zay,Zaz,Za0,Za1,Za2,Za3,Za4,Za5,Za9,Zba,Zbb,Zbc,Zbe,Zbf,Zbg,Zbi,Zbk,Zbt,Zbu,Zbv,Zbw,Zb2,Zb9,Zch,Zcn,Zco,Zct,Zcv,Zcx,Zc3,Zc4,Zc7,Zc8,Zc9,Zdc,Zdd,Zde,Zdf,Zdg,Zdh,Zdi,Zdj,Zdk,Zdm,Zdo,Zdp,Zdq,Zdr,Zds,Zdt,Zdu,Zdv,Zdw,Zdx,Zdy,Zdz,Zd0,Zd1,Zd2,Zd3,Zd8,Zeb,Zec,Zee,Zek,Zen,Zeq,Zer,Zes,Zet,Zev,Zew,Zex,Zez,Ze0,Ze1,Ze2,Ze3,Ze5,Ze8,Zfc,Zfd,Zfe,Zfh,Zfi,Zfk,Zfl,Zfn,Zfq,Zfr,Zf0,Zf1,Zf3,Zf4,Zga,Zgc,Zgd,Zgg,Zgr,Zgs,Zgt,Zgu,Zgv,Zgw,Zgx,Zgy,Zg4,Zg6,Zhd,Zhe,Zhf,Zhm,Zhn,Zho,Zhs,Zht,Zhu,Zh6,Zh7,Zif,Zig,Zik,Zil,Zim,Zin,Zio,Zip,Ziu,Ziv,Ziw,Zi6,Zjh,Zji,Zjr,Zjw,Zj2,Zj7,Zka,Zkb,Zkv,Zkx,Zla,Zlb,Zlc,Zld,Zle,Zlf,Zlh,Zlj,Zlm,Zlz,Zl2,Zmt,Zmv,Zmw,Zmx,Zmz,Zm2,Zm5,Zm6,Zm7,Zm9,Zna,Znb,Zne,Znf,Zng,Znh,Znn,Zno,Znp,Znr,Zns,Znt,Znu,Znw,Znx,Zn5,Zok,Zol,Zom,Zor,Zos,Zot,Zo3,Zo7,Zo8,Zo9,Zpa,Zpc,Zpg,Zpi,Zpu,Zpv,Zqb,Zqc,Zqf,Zqg,Zqh,Zqi,Zqk,Zql,Zqm,Zqn,eq_self,true_and,and_true,Nat.add_zero,Nat.sub_zero,Int.toNat_zero,h,h0,h1,cR_length,callable_38]
        tactic =>
        and_intros <;> try (first | omega | rfl | assumption | exact cR_okF _ | exact cR_okI _ | exact rs_self (cR_okI _) | (symm; refine List.take_of_length_le ?_; simp <;> omega))
        refine cl none (k2) trivial ?_
        sym =>
        simp [Zaa,Zab,Zac,Zad,Zae,Zaf,Zag,Zah,Zai,Zak,Zal,Zam,Zan,Zap,Zaq,Zav,Zaw,Zay,Zaz,Za0,Za1,Za2,Za3,Za4,Za5,Za9,Zba,Zbb,Zbc,Zbe,Zbf,Zbg,Zbi,Zbk,Zbt,Zbu,Zbv,Zbw,Zb2,Zb9,Zch,Zcn,Zco,Zct,Zcv,Zcx,Zc3,Zc4,Zc7,Zc8,Zc9,Zdc,Zdd,Zde,Zdf,Zdg,Zdh,Zdi,Zdj,Zdk,Zdm,Zdo,Zdp,Zdq,Zdr,Zds,Zdt,Zdu,Zdv,Zdw,Zdx,Zdy,Zdz,Zd0,Zd1,Zd2,Zd3,Zd8,Zeb,Zec,Zee,Zek,Zen,Zeq,Zer,Zes,Zet,Zev,Zew,Zex,Zez,Ze0,Ze1,Ze2,Ze3,Ze5,Ze8,Zfc,Zfd,Zfe,Zfh,Zfi,Zfk,Zfl,Zfn,Zfq,Zfr,Zf0,Zf1,Zf3,Zf4,Zga,Zgc,Zgd,Zgg,Zgr,Zgs,Zgt,Zgu,Zgv,Zgw,Zgx,Zgy,Zg4,Zg6,Zhd,Zhe,Zhf,Zhm,Zhn,Zho,Zhs,Zht,Zhu,Zh6,Zh7,Zif,Zig,Zik,Zil,Zim,Zin,Zio,Zip,Ziu,Ziv,Ziw,Zi6,Zjh,Zji,Zjr,Zjw,Zj2,Zj7,Zka,Zkb,Zkv,Zkx,Zla,Zlb,Zlc,Zld,Zle,Zlf,Zlh,Zlj,Zlm,Zlz,Zl2,Zmt,Zmv,Zmw,Zmx,Zmz,Zm2,Zm5,Zm6,Zm7,Zm9,Zna,Znb,Zne,Znf,Zng,Znh,Znn,Zno,Znp,Znr,Zns,Znt,Znu,Znw,Znx,Zn5,Zok,Zol,Zom,Zor,Zos,Zot,Zo3,Zo7,Zo8,Zo9,Zpa,Zpc,Zpg,Zpi,Zpu,Zpv,Zqb,Zqc,Zqf,Zqg,Zqh,Zqi,Zqk,Zql,Zqm,Zqn,eq_self,true_and,and_true,Nat.add_zero,Nat.sub_zero,Int.toNat_zero,hw]
        tactic =>
        unfold NextL; refine ⟨(k - 1), [(0, 0)], _, by omega, ⟨i + 1, by omega, rfl⟩, wkA ?_⟩
        sym =>
        simp [Zaa,Zab,Zac,Zad,Zae,Zaf,Zag,Zah,Zai,Zak,Zal,Zam,Zan,Zap,Zaq,Zav,Zaw,Zay,Zaz,Za0,Za1,Za2,Za3,Za4,Za5,Za9,Zba,Zbb,Zbc,Zbe,Zbf,Zbg,Zbi,Zbk,Zbt,Zbu,Zbv,Zbw,Zb2,Zb9,Zch,Zcn,Zco,Zct,Zcv,Zcx,Zc3,Zc4,Zc7,Zc8,Zc9,Zdc,Zdd,Zde,Zdf,Zdg,Zdh,Zdi,Zdj,Zdk,Zdm,Zdo,Zdp,Zdq,Zdr,Zds,Zdt,Zdu,Zdv,Zdw,Zdx,Zdy,Zdz,Zd0,Zd1,Zd2,Zd3,Zd8,Zeb,Zec,Zee,Zek,Zen,Zeq,Zer,Zes,Zet,Zev,Zew,Zex,Zez,Ze0,Ze1,Ze2,Ze3,Ze5,Ze8,Zfc,Zfd,Zfe,Zfh,Zfi,Zfk,Zfl,Zfn,Zfq,Zfr,Zf0,Zf1,Zf3,Zf4,Zga,Zgc,Zgd,Zgg,Zgr,Zgs,Zgt,Zgu,Zgv,Zgw,Zgx,Zgy,Zg4,Zg6,Zhd,Zhe,Zhf,Zhm,Zhn,Zho,Zhs,Zht,Zhu,Zh6,Zh7,Zif,Zig,Zik,Zil,Zim,Zin,Zio,Zip,Ziu,Ziv,Ziw,Zi6,Zjh,Zji,Zjr,Zjw,Zj2,Zj7,Zka,Zkb,Zkv,Zkx,Zla,Zlb,Zlc,Zld,Zle,Zlf,Zlh,Zlj,Zlm,Zlz,Zl2,Zmt,Zmv,Zmw,Zmx,Zmz,Zm2,Zm5,Zm6,Zm7,Zm9,Zna,Znb,Zne,Znf,Zng,Znh,Znn,Zno,Znp,Znr,Zns,Znt,Znu,Znw,Znx,Zn5,Zok,Zol,Zom,Zor,Zos,Zot,Zo3,Zo7,Zo8,Zo9,Zpa,Zpc,Zpg,Zpi,Zpu,Zpv,Zqb,Zqc,Zqf,Zqg,Zqh,Zqi,Zqk,Zql,Zqm,Zqn,eq_self,true_and,and_true,Nat.add_zero,Nat.sub_zero,Int.toNat_zero]
      · sym =>
        simp [Zaa,Zab,Zac,Zad,Zae,Zaf,Zag,Zah,Zai,Zak,Zal,Zam,Zan,Zap,Zaq,Zav,Zaw,Zay,Zaz,Za0,Za1,Za2,Za3,Za4,Za5,Za9,Zba,Zbb,Zbc,Zbe,Zbf,Zbg,Zbi,Zbk,Zbt,Zbu,Zbv,Zbw,Zb2,Zb9,Zch,Zcn,Zco,Zct,Zcv,Zcx,Zc3,Zc4,Zc7,Zc8,Zc9,Zdc,Zdd,Zde,Zdf,Zdg,Zdh,Zdi,Zdj,Zdk,Zdm,Zdo,Zdp,Zdq,Zdr,Zds,Zdt,Zdu,Zdv,Zdw,Zdx,Zdy,Zdz,Zd0,Zd1,Zd2,Zd3,Zd8,Zeb,Zec,Zee,Zek,Zen,Zeq,Zer,Zes,Zet,Zev,Zew,Zex,Zez,Ze0,Ze1,Ze2,Ze3,Ze5,Ze8,Zfc,Zfd,Zfe,Zfh,Zfi,Zfk,Zfl,Zfn,Zfq,Zfr,Zf0,Zf1,Zf3,Zf4,Zga,Zgc,Zgd,Zgg,Zgr,Zgs,Zgt,Zgu,Zgv,Zgw,Zgx,Zgy,Zg4,Zg6,Zhd,Zhe,Zhf,Zhm,Zhn,Zho,Zhs,Zht,Zhu,Zh6,Zh7,Zif,Zig,Zik,Zil,Zim,Zin,Zio,Zip,Ziu,Ziv,Ziw,Zi6,Zjh,Zji,Zjr,Zjw,Zj2,Zj7,Zka,Zkb,Zkv,Zkx,Zla,Zlb,Zlc,Zld,Zle,Zlf,Zlh,Zlj,Zlm,Zlz,Zl2,Zmt,Zmv,Zmw,Zmx,Zmz,Zm2,Zm5,Zm6,Zm7,Zm9,Zna,Znb,Zne,Znf,Zng,Znh,Znn,Zno,Znp,Znr,Zns,Znt,Znu,Znw,Znx,Zn5,Zok,Zol,Zom,Zor,Zos,Zot,Zo3,Zo7,Zo8,Zo9,Zpa,Zpc,Zpg,Zpi,Zpu,Zpv,Zqb,Zqc,Zqf,Zqg,Zqh,Zqi,Zqk,Zql,Zqm,Zqn,eq_self,true_and,and_true,Nat.add_zero,Nat.sub_zero,Int.toNat_zero,h,hz,h0,h1,b4,cR_length,callable_45]
        tactic =>
        and_intros <;> try (first | omega | rfl | assumption | exact cR_okF _ | exact cR_okI _ | exact rs_self (cR_okI _) | (symm; refine List.take_of_length_le ?_; simp <;> omega))
        refine cl none (k1) trivial ?_
        sym =>
        simp [Zaa,Zab,Zac,Zad,Zae,Zaf,Zag,Zah,Zai,Zak,Zal,Zam,Zan,Zap,Zaq,Zav,Zaw,Zay,Zaz,Za0,Za1,Za2,Za3,Za4,Za5,Za9,Zba,Zbb,Zbc,Zbe,Zbf,Zbg,Zbi,Zbk,Zbt,Zbu,Zbv,Zbw,Zb2,Zb9,Zch,Zcn,Zco,Zct,Zcv,Zcx,Zc3,Zc4,Zc7,Zc8,Zc9,Zdc,Zdd,Zde,Zdf,Zdg,Zdh,Zdi,Zdj,Zdk,Zdm,Zdo,Zdp,Zdq,Zdr,Zds,Zdt,Zdu,Zdv,Zdw,Zdx,Zdy,Zdz,Zd0,Zd1,Zd2,Zd3,Zd8,Zeb,Zec,Zee,Zek,Zen,Zeq,Zer,Zes,Zet,Zev,Zew,Zex,Zez,Ze0,Ze1,Ze2,Ze3,Ze5,Ze8,Zfc,Zfd,Zfe,Zfh,Zfi,Zfk,Zfl,Zfn,Zfq,Zfr,Zf0,Zf1,Zf3,Zf4,Zga,Zgc,Zgd,Zgg,Zgr,Zgs,Zgt,Zgu,Zgv,Zgw,Zgx,Zgy,Zg4,Zg6,Zhd,Zhe,Zhf,Zhm,Zhn,Zho,Zhs,Zht,Zhu,Zh6,Zh7,Zif,Zig,Zik,Zil,Zim,Zin,Zio,Zip,Ziu,Ziv,Ziw,Zi6,Zjh,Zji,Zjr,Zjw,Zj2,Zj7,Zka,Zkb,Zkv,Zkx,Zla,Zlb,Zlc,Zld,Zle,Zlf,Zlh,Zlj,Zlm,Zlz,Zl2,Zmt,Zmv,Zmw,Zmx,Zmz,Zm2,Zm5,Zm6,Zm7,Zm9,Zna,Znb,Zne,Znf,Zng,Znh,Znn,Zno,Znp,Znr,Zns,Znt,Znu,Znw,Znx,Zn5,Zok,Zol,Zom,Zor,Zos,Zot,Zo3,Zo7,Zo8,Zo9,Zpa,Zpc,Zpg,Zpi,Zpu,Zpv,Zqb,Zqc,Zqf,Zqg,Zqh,Zqi,Zqk,Zql,Zqm,Zqn,eq_self,true_and,and_true,Nat.add_zero,Nat.sub_zero,Int.toNat_zero,h,h0,h1,cR_length,callable_38]
        tactic =>
        and_intros <;> try (first | omega | rfl | assumption | exact cR_okF _ | exact cR_okI _ | exact rs_self (cR_okI _) | (symm; refine List.take_of_length_le ?_; simp <;> omega))
        refine cl none (k2) trivial ?_
        sym =>
        simp [Zaa,Zab,Zac,Zad,Zae,Zaf,Zag,Zah,Zai,Zak,Zal,Zam,Zan,Zap,Zaq,Zav,Zaw,Zay,Zaz,Za0,Za1,Za2,Za3,Za4,Za5,Za9,Zba,Zbb,Zbc,Zbe,Zbf,Zbg,Zbi,Zbk,Zbt,Zbu,Zbv,Zbw,Zb2,Zb9,Zch,Zcn,Zco,Zct,Zcv,Zcx,Zc3,Zc4,Zc7,Zc8,Zc9,Zdc,Zdd,Zde,Zdf,Zdg,Zdh,Zdi,Zdj,Zdk,Zdm,Zdo,Zdp,Zdq,Zdr,Zds,Zdt,Zdu,Zdv,Zdw,Zdx,Zdy,Zdz,Zd0,Zd1,Zd2,Zd3,Zd8,Zeb,Zec,Zee,Zek,Zen,Zeq,Zer,Zes,Zet,Zev,Zew,Zex,Zez,Ze0,Ze1,Ze2,Ze3,Ze5,Ze8,Zfc,Zfd,Zfe,Zfh,Zfi,Zfk,Zfl,Zfn,Zfq,Zfr,Zf0,Zf1,Zf3,Zf4,Zga,Zgc,Zgd,Zgg,Zgr,Zgs,Zgt,Zgu,Zgv,Zgw,Zgx,Zgy,Zg4,Zg6,Zhd,Zhe,Zhf,Zhm,Zhn,Zho,Zhs,Zht,Zhu,Zh6,Zh7,Zif,Zig,Zik,Zil,Zim,Zin,Zio,Zip,Ziu,Ziv,Ziw,Zi6,Zjh,Zji,Zjr,Zjw,Zj2,Zj7,Zka,Zkb,Zkv,Zkx,Zla,Zlb,Zlc,Zld,Zle,Zlf,Zlh,Zlj,Zlm,Zlz,Zl2,Zmt,Zmv,Zmw,Zmx,Zmz,Zm2,Zm5,Zm6,Zm7,Zm9,Zna,Znb,Zne,Znf,Zng,Znh,Znn,Zno,Znp,Znr,Zns,Znt,Znu,Znw,Znx,Zn5,Zok,Zol,Zom,Zor,Zos,Zot,Zo3,Zo7,Zo8,Zo9,Zpa,Zpc,Zpg,Zpi,Zpu,Zpv,Zqb,Zqc,Zqf,Zqg,Zqh,Zqi,Zqk,Zql,Zqm,Zqn,eq_self,true_and,and_true,Nat.add_zero,Nat.sub_zero,Int.toNat_zero,hw]
        tactic =>
        unfold NextL; refine ⟨(k - 1), [(0, 0)], _, by omega, ⟨i + 1, by omega, rfl⟩, wkA ?_⟩
        sym =>
        simp [Zaa,Zab,Zac,Zad,Zae,Zaf,Zag,Zah,Zai,Zak,Zal,Zam,Zan,Zap,Zaq,Zav,Zaw,Zay,Zaz,Za0,Za1,Za2,Za3,Za4,Za5,Za9,Zba,Zbb,Zbc,Zbe,Zbf,Zbg,Zbi,Zbk,Zbt,Zbu,Zbv,Zbw,Zb2,Zb9,Zch,Zcn,Zco,Zct,Zcv,Zcx,Zc3,Zc4,Zc7,Zc8,Zc9,Zdc,Zdd,Zde,Zdf,Zdg,Zdh,Zdi,Zdj,Zdk,Zdm,Zdo,Zdp,Zdq,Zdr,Zds,Zdt,Zdu,Zdv,Zdw,Zdx,Zdy,Zdz,Zd0,Zd1,Zd2,Zd3,Zd8,Zeb,Zec,Zee,Zek,Zen,Zeq,Zer,Zes,Zet,Zev,Zew,Zex,Zez,Ze0,Ze1,Ze2,Ze3,Ze5,Ze8,Zfc,Zfd,Zfe,Zfh,Zfi,Zfk,Zfl,Zfn,Zfq,Zfr,Zf0,Zf1,Zf3,Zf4,Zga,Zgc,Zgd,Zgg,Zgr,Zgs,Zgt,Zgu,Zgv,Zgw,Zgx,Zgy,Zg4,Zg6,Zhd,Zhe,Zhf,Zhm,Zhn,Zho,Zhs,Zht,Zhu,Zh6,Zh7,Zif,Zig,Zik,Zil,Zim,Zin,Zio,Zip,Ziu,Ziv,Ziw,Zi6,Zjh,Zji,Zjr,Zjw,Zj2,Zj7,Zka,Zkb,Zkv,Zkx,Zla,Zlb,Zlc,Zld,Zle,Zlf,Zlh,Zlj,Zlm,Zlz,Zl2,Zmt,Zmv,Zmw,Zmx,Zmz,Zm2,Zm5,Zm6,Zm7,Zm9,Zna,Znb,Zne,Znf,Zng,Znh,Znn,Zno,Znp,Znr,Zns,Znt,Znu,Znw,Znx,Zn5,Zok,Zol,Zom,Zor,Zos,Zot,Zo3,Zo7,Zo8,Zo9,Zpa,Zpc,Zpg,Zpi,Zpu,Zpv,Zqb,Zqc,Zqf,Zqg,Zqh,Zqi,Zqk,Zql,Zqm,Zqn,eq_self,true_and,and_true,Nat.add_zero,Nat.sub_zero,Int.toNat_zero]
    · sym =>
      simp [Zaa,Zab,Zac,Zad,Zae,Zaf,Zag,Zah,Zai,Zak,Zal,Zam,Zan,Zap,Zaq,Zav,Zaw,Zay,Zaz,Za0,Za1,Za2,Za3,Za4,Za5,Za9,Zba,Zbb,Zbc,Zbe,Zbf,Zbg,Zbi,Zbk,Zbt,Zbu,Zbv,Zbw,Zb2,Zb9,Zch,Zcn,Zco,Zct,Zcv,Zcx,Zc3,Zc4,Zc7,Zc8,Zc9,Zdc,Zdd,Zde,Zdf,Zdg,Zdh,Zdi,Zdj,Zdk,Zdm,Zdo,Zdp,Zdq,Zdr,Zds,Zdt,Zdu,Zdv,Zdw,Zdx,Zdy,Zdz,Zd0,Zd1,Zd2,Zd3,Zd8,Zeb,Zec,Zee,Zek,Zen,Zeq,Zer,Zes,Zet,Zev,Zew,Zex,Zez,Ze0,Ze1,Ze2,Ze3,Ze5,Ze8,Zfc,Zfd,Zfe,Zfh,Zfi,Zfk,Zfl,Zfn,Zfq,Zfr,Zf0,Zf1,Zf3,Zf4,Zga,Zgc,Zgd,Zgg,Zgr,Zgs,Zgt,Zgu,Zgv,Zgw,Zgx,Zgy,Zg4,Zg6,Zhd,Zhe,Zhf,Zhm,Zhn,Zho,Zhs,Zht,Zhu,Zh6,Zh7,Zif,Zig,Zik,Zil,Zim,Zin,Zio,Zip,Ziu,Ziv,Ziw,Zi6,Zjh,Zji,Zjr,Zjw,Zj2,Zj7,Zka,Zkb,Zkv,Zkx,Zla,Zlb,Zlc,Zld,Zle,Zlf,Zlh,Zlj,Zlm,Zlz,Zl2,Zmt,Zmv,Zmw,Zmx,Zmz,Zm2,Zm5,Zm6,Zm7,Zm9,Zna,Znb,Zne,Znf,Zng,Znh,Znn,Zno,Znp,Znr,Zns,Znt,Znu,Znw,Znx,Zn5,Zok,Zol,Zom,Zor,Zos,Zot,Zo3,Zo7,Zo8,Zo9,Zpa,Zpc,Zpg,Zpi,Zpu,Zpv,Zqb,Zqc,Zqf,Zqg,Zqh,Zqi,Zqk,Zql,Zqm,Zqn,eq_self,true_and,and_true,Nat.add_zero,Nat.sub_zero,Int.toNat_zero,h,callable_42]
      tactic =>
      refine cl none (alive_con) trivial ?_
      sym =>
      simp [Zaa,Zab,Zac,Zad,Zae,Zaf,Zag,Zah,Zai,Zak,Zal,Zam,Zan,Zap,Zaq,Zav,Zaw,Zay,Zaz,Za0,Za1,Za2,Za3,Za4,Za5,Za9,Zba,Zbb,Zbc,Zbe,Zbf,Zbg,Zbi,Zbk,Zbt,Zbu,Zbv,Zbw,Zb2,Zb9,Zch,Zcn,Zco,Zct,Zcv,Zcx,Zc3,Zc4,Zc7,Zc8,Zc9,Zdc,Zdd,Zde,Zdf,Zdg,Zdh,Zdi,Zdj,Zdk,Zdm,Zdo,Zdp,Zdq,Zdr,Zds,Zdt,Zdu,Zdv,Zdw,Zdx,Zdy,Zdz,Zd0,Zd1,Zd2,Zd3,Zd8,Zeb,Zec,Zee,Zek,Zen,Zeq,Zer,Zes,Zet,Zev,Zew,Zex,Zez,Ze0,Ze1,Ze2,Ze3,Ze5,Ze8,Zfc,Zfd,Zfe,Zfh,Zfi,Zfk,Zfl,Zfn,Zfq,Zfr,Zf0,Zf1,Zf3,Zf4,Zga,Zgc,Zgd,Zgg,Zgr,Zgs,Zgt,Zgu,Zgv,Zgw,Zgx,Zgy,Zg4,Zg6,Zhd,Zhe,Zhf,Zhm,Zhn,Zho,Zhs,Zht,Zhu,Zh6,Zh7,Zif,Zig,Zik,Zil,Zim,Zin,Zio,Zip,Ziu,Ziv,Ziw,Zi6,Zjh,Zji,Zjr,Zjw,Zj2,Zj7,Zka,Zkb,Zkv,Zkx,Zla,Zlb,Zlc,Zld,Zle,Zlf,Zlh,Zlj,Zlm,Zlz,Zl2,Zmt,Zmv,Zmw,Zmx,Zmz,Zm2,Zm5,Zm6,Zm7,Zm9,Zna,Znb,Zne,Znf,Zng,Znh,Znn,Zno,Znp,Znr,Zns,Znt,Znu,Znw,Znx,Zn5,Zok,Zol,Zom,Zor,Zos,Zot,Zo3,Zo7,Zo8,Zo9,Zpa,Zpc,Zpg,Zpi,Zpu,Zpv,Zqb,Zqc,Zqf,Zqg,Zqh,Zqi,Zqk,Zql,Zqm,Zqn,eq_self,true_and,and_true,Nat.add_zero,Nat.sub_zero,Int.toNat_zero]
      tactic =>
      refine endA ?_
      sym =>
      simp [Zaa,Zab,Zac,Zad,Zae,Zaf,Zag,Zah,Zai,Zak,Zal,Zam,Zan,Zap,Zaq,Zav,Zaw,Zay,Zaz,Za0,Za1,Za2,Za3,Za4,Za5,Za9,Zba,Zbb,Zbc,Zbe,Zbf,Zbg,Zbi,Zbk,Zbt,Zbu,Zbv,Zbw,Zb2,Zb9,Zch,Zcn,Zco,Zct,Zcv,Zcx,Zc3,Zc4,Zc7,Zc8,Zc9,Zdc,Zdd,Zde,Zdf,Zdg,Zdh,Zdi,Zdj,Zdk,Zdm,Zdo,Zdp,Zdq,Zdr,Zds,Zdt,Zdu,Zdv,Zdw,Zdx,Zdy,Zdz,Zd0,Zd1,Zd2,Zd3,Zd8,Zeb,Zec,Zee,Zek,Zen,Zeq,Zer,Zes,Zet,Zev,Zew,Zex,Zez,Ze0,Ze1,Ze2,Ze3,Ze5,Ze8,Zfc,Zfd,Zfe,Zfh,Zfi,Zfk,Zfl,Zfn,Zfq,Zfr,Zf0,Zf1,Zf3,Zf4,Zga,Zgc,Zgd,Zgg,Zgr,Zgs,Zgt,Zgu,Zgv,Zgw,Zgx,Zgy,Zg4,Zg6,Zhd,Zhe,Zhf,Zhm,Zhn,Zho,Zhs,Zht,Zhu,Zh6,Zh7,Zif,Zig,Zik,Zil,Zim,Zin,Zio,Zip,Ziu,Ziv,Ziw,Zi6,Zjh,Zji,Zjr,Zjw,Zj2,Zj7,Zka,Zkb,Zkv,Zkx,Zla,Zlb,Zlc,Zld,Zle,Zlf,Zlh,Zlj,Zlm,Zlz,Zl2,Zmt,Zmv,Zmw,Zmx,Zmz,Zm2,Zm5,Zm6,Zm7,Zm9,Zna,Znb,Zne,Znf,Zng,Znh,Znn,Zno,Znp,Znr,Zns,Znt,Znu,Znw,Znx,Zn5,Zok,Zol,Zom,Zor,Zos,Zot,Zo3,Zo7,Zo8,Zo9,Zpa,Zpc,Zpg,Zpi,Zpu,Zpv,Zqb,Zqc,Zqf,Zqg,Zqh,Zqi,Zqk,Zql,Zqm,Zqn,eq_self,true_and,and_true,Nat.add_zero,Nat.sub_zero,Int.toNat_zero]
end Go.Proofs.Ytnfgnafphfddhaa.SpnO
