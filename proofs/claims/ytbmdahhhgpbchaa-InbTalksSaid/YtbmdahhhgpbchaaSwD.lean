import Derived.Test.YtbmdahhhgpbchaaSwS
namespace Go.Proofs.Ytbmdahhhgpbchaa.SwD
open Go Go.Sim Go.Sim.E Go.RowKit Go.Proofs Go.Proofs.Ytbmdahhhgpbchaa.Cod Go.Proofs.Ytbmdahhhgpbchaa.Tab Go.Proofs.Ytbmdahhhgpbchaa.Bse Go.Proofs.Ytbmdahhhgpbchaa.SpnP Go.Proofs.Ytbmdahhhgpbchaa.SwA Go.Proofs.Ytbmdahhhgpbchaa.SwB Go.Proofs.Ytbmdahhhgpbchaa.SwC Go.Proofs.Ytbmdahhhgpbchaa.SwS
set_option linter.unusedVariables false
set_option linter.unusedSimpArgs false
set_option maxRecDepth 100000
set_option maxHeartbeats 4000000
theorem rgS {t : Int} {s o : List Rg} (hs : s.length < 1000000) (ht : 0 ≤ t ∧ t ≤ 1099511627776) {b : Int} (hb : endF (lim 0) s = b) (hb0 : 0 ≤ b ∧ b ≤ 4611686018427387904)
    {m p : Nat} {A B : St → (Exit → St → Prop) → Prop} {sl : List (Nat × AV)} {hp : List (Nat × Ob)} {nx : Nat} {Q : Exit → St → Prop}
    (Iv : List Rg → List (Nat × Ob) → Nat → Prop) (Ix : Exit → List Rg → List (Nat × Ob) → Nat → Prop) (ρ : List (Nat × Nat)) (hp' : List (Nat × Ob)) (nx' : Nat)
    (h0 : Iv [] hp' nx') (hwk : Wk m ρ ⟨sl, hp, nx⟩ ⟨sl, hp', nx'⟩)
    (hr : ∀ pre x hp nx, Iv pre hp nx → pre.length < 9 → hw0 hp ∧ A (St.put ⟨sl, hp, nx⟩ (some p) (.ag [I x.1, I x.2])) (KRg m B sl Iv Ix (pre ++ [x])))
    (hd : ∀ hp nx, Iv (segs t b) hp nx → Q .normal ⟨sl, hp, nx⟩)
    (hx : ∀ e pre hp nx, pre <+: segs t b → Ix e pre hp nx → Q e ⟨sl, hp, nx⟩) : RgA Try.prog m A B (.fn 133 [.fp (wC t s o) 0]) p ⟨sl, hp, nx⟩ Q := by
  refine ⟨133, [.fp (wC t s o) 0], Rg, vR, fun r => .ag [I r.1, I r.2], _, _, 9, Iv, Ix, rfl, callable_133, ?_, ?_, segs_seq t s o hs ht b hb hb0, ⟨ρ, hp', nx', h0, hwk⟩, hr, ?_, hx⟩
  · intro x hx
    simp only [List.mem_singleton] at hx
    subst hx; rfl
  · intro x w S L
    refine .ag _ _ _ (fun j => #[Value.int .i64 x.1, .int .i64 x.2].getD j undef) rfl (fun j hj => ?_) (fun j q hq => ?_)
    · match j, hj with
      | 0, _ => rfl
      | 1, _ => rfl
    · match j, hq with
      | 0, hq => injection hq with hq; subst hq; exact .sc _ _
      | 1, hq => injection hq with hq; subst hq; exact .sc _ _
  · rintro xs hp nx rfl h
    exact hd hp nx h
def cntF (o xs : List Rg) : Nat := xs.countP fun r => hasF o r.1
theorem merge_length : ∀ (l : List Rg) (x : Rg), (merge x l).length ≤ l.length + 1
  | [], x => by simp [merge]
  | r :: l, x => by
    unfold merge
    split
    · have := merge_length l (min x.1 r.1, max x.2 r.2); simp; omega
    · simp
theorem add_length (x : Rg) : ∀ l : List Rg, (add x l).length ≤ l.length + 1
  | [] => by simp [add]
  | r :: l => by
    unfold add
    split
    · have := add_length x l; simp; omega
    · exact merge_length _ _
def addS (l : List Rg) (a b : Int) : List Rg := if lim b ≤ lim a then l else add (lim a, lim b) l
theorem adds_con (l : List Rg) (hl : l.length < 1000000) (a b : Int) : Con Try.prog 104 [] [.ag [fR l], I a, I b] [] (.ag [fR (addS l a b)]) := add_con l hl a b
theorem addS_length (l : List Rg) (a b : Int) : (addS l a b).length ≤ l.length + 1 := by
  unfold addS
  split
  · omega
  · exact add_length _ l
def stF1 (s o acc : List Rg) (r : Rg) : List Rg := if hasF o r.1 && !hasF s r.1 then addS acc r.1 r.2 else acc
def stF (s o xs : List Rg) : List Rg := xs.foldl (stF1 s o) []
theorem stF_length (s o : List Rg) : ∀ xs acc : List Rg, (xs.foldl (stF1 s o) acc).length ≤ acc.length + xs.length := by
  intro xs
  induction xs with
  | nil => intro acc; simp
  | cons x xs ih =>
    intro acc
    have h1 := ih (stF1 s o acc x)
    have h2 : (stF1 s o acc x).length ≤ acc.length + 1 := by
      unfold stF1
      split
      · exact addS_length _ _ _
      · omega
    simp only [List.foldl_cons, List.length_cons]
    omega
theorem still_con (t : Int) (s o : List Rg) (hs : s.length < 1000000) (ho : o.length < 1000000) (ht : 0 ≤ t ∧ t ≤ 1099511627776) (b : Int) (hb : endF (lim 0) s = b) (hb0 : 0 ≤ b ∧ b ≤ 4611686018427387904) :
    Con Try.prog 111 [] [wV t s o] [] (.ag [fR (stF s o (segs t b))]) := by
  refine con_j b111 rfl ?_
  sym =>
  simp [Zab,Zad,Zam,Zaz,Za0,Za1,Za2,Za3,Za4,Za5,Za9,Zba,Zbt,Zb9,Zcv,Zcx,Zc3,Zdc,Zdd,Zde,Zev,Zew,Zez,Ze0,Ze1,Ze2,Ze3,Ze5,Ze8,Zfc,Zfd,Zfe,Zgr,Zgs,Zgt,Zhd,Zhe,Zhf,Zin,Zio,Zip,Ziu,Ziv,Ziw,Zi6,Zjh,Zji,Zj2,Zla,Zlb,Zlc,Zld,Zle,Zlf,Zlh,Zlk,Zlm,Zm5,Zm7,Zm9,Zna,Znb,Zne,Znf,Zng,Znn,Zno,Znp,Zos,Zot,Zo7,eq_self,true_and,and_true,callable_108]
  tactic =>
  refine cl none (segs_con t s o) trivial ?_
  sym =>
  simp [Zag,Zam,Zaz,Za0,Za1,Za2,Za3,Za4,Za9,Zdi,Zev,Zez,Ze0,Zfd,Zfe,Zk9,Zlz,Zl2,Zo7,Zvb,eq_self,Nat.zero_add]
  tactic =>
  refine rgS hs ht hb hb0 (fun pre hp nx => nx = 4 ∧ hp = [(0, ⟨wC t s o, 1, 0⟩), (1, ⟨[.nl], 1, 0⟩), (3, ⟨[fR (stF s o pre)], 1, 0⟩)]) (fun _ _ _ _ => False) [(0, 0), (1, 1), (3, 3)] _ _ ⟨rfl, rfl⟩ (wkA ?_) ?_ ?_ ?_
  · sym =>
    simp [Za2,Za3,Zez,Zfc,Znr,Zpa,Zpd,Zpg,Zpj,Zpu,Zpv,Zqa,Zqb,Zqc,Zqf,Zqg,Zqh,Zqi,Zqk,Zql,Zqm,Zqn,eq_self,true_and,and_true]
    tactic =>
    exact ⟨rfl, rfl⟩
  · rintro pre x hp nx ⟨rfl, rfl⟩ hl
    refine ⟨by intro p hp; simp at hp; rcases hp with rfl | rfl | rfl <;> rfl, ?_⟩
    have hc : (stF s o pre).length ≤ pre.length := by have := stF_length s o pre []; simpa [stF] using this
    have e0 : stF s o (pre ++ [x]) = stF1 s o (stF s o pre) x := by simp [stF]
    sym =>
    simp [Zab,Zad,Zag,Zaz,Za0,Za1,Za2,Za3,Za4,Za5,Za9,Zba,Zbt,Zbv,Zcv,Zc3,Zdc,Zdd,Zde,Zev,Zew,Zez,Ze0,Ze1,Ze2,Ze3,Ze5,Ze8,Zfc,Zfd,Zfe,Zgr,Zgs,Zgt,Zgv,Zgw,Zgx,Zin,Ziu,Ziv,Ziw,Zi6,Zjh,Zji,Zjn,Zla,Zlb,Zlc,Zld,Zle,Zlf,Zlh,Zlj,Zlm,Zm5,Zm6,Zm7,Zm9,Zna,Znb,Zne,Znf,Zng,Znn,Zno,Znp,Zo7,Zvc,Zvg,Zvh,eq_self,true_and,and_true,callable_109]
    tactic =>
    refine cl none (has_con o ho x.1) trivial ?_
    by_cases h1 : hasF o x.1 = true
    · sym =>
      simp [Za5,Za6,Za7,Za9,Zba,Zbb,Zbt,Zbv,Zdc,Zdd,Zde,Zdi,Zev,Zew,Zex,Zez,Ze0,Ze2,Ze5,Ze8,Zfc,Zfd,Zfe,Zfh,Zgr,Zgs,Zgt,Zgv,Zgw,Zgx,Zjw,Zla,Zlb,Zlc,Zld,Zle,Zlf,Zlh,Zlj,Zlm,Zlz,Zm5,Zm6,Zm7,Zm9,Zna,Znb,Zne,Znf,Zng,eq_self,true_and,and_true,h1,callable_109]
      tactic =>
      refine cl none (has_con s hs x.1) trivial ?_
      by_cases h2 : hasF s x.1 = true
      · sym =>
        simp [Zaa,Zae,Zaf,Zal,Zam,Zap,Zaz,Za0,Za1,Za2,Za3,Za4,Za5,Za6,Za7,Za9,Zba,Zbd,Zbj,Zdi,Zev,Zew,Zex,Zez,Ze0,Ze2,Zfd,Zfe,Zfi,Zfl,Zgd,Zgg,Zjw,Zlz,Zo3,Zo7,Zvd,eq_self,true_and,Bool.and_false,h2]
        tactic =>
        refine ⟨[(0, 0), (1, 1), (3, 3)], _, _, ⟨rfl, rfl⟩, wkA ?_⟩
        have e1 : stF1 s o (stF s o pre) x = stF s o pre := by simp [stF1, h1, h2]
        rw [e0, e1]
        sym =>
        simp [Za2,Za3,Zez,Ze5,Zfc,Znr,Zpa,Zpd,Zpg,Zpj,Zpu,Zqa,Zqb,Zqc,Zqf,Zqg,Zqh,Zqi,Zqk,Zql,Zqm,Zqn,eq_self,and_true]
      · simp only [Bool.not_eq_true] at h2
        sym =>
        simp [Zab,Zae,Zaf,Zal,Zam,Zaz,Za0,Za1,Za2,Za3,Za4,Za5,Za6,Za7,Za9,Zba,Zbd,Zbj,Zbt,Zbv,Zdc,Zdd,Zde,Zdi,Zev,Zew,Zex,Zez,Ze0,Ze2,Ze5,Ze8,Zfc,Zfd,Zfe,Zfi,Zfl,Zgd,Zgg,Zgr,Zgs,Zgt,Zgv,Zgw,Zgx,Zjw,Zla,Zlb,Zlc,Zld,Zle,Zlf,Zlh,Zlj,Zlm,Zlz,Zm5,Zm6,Zm7,Zm9,Zna,Znb,Zne,Znf,Zng,Zo4,Zo7,eq_self,true_and,and_true,h2,callable_104]
        tactic =>
        refine cl none (adds_con (stF s o pre) (by omega) x.1 x.2) trivial ?_
        sym =>
        simp [Zap,Zaz,Za0,Za1,Za2,Za4,Za5,Za9,Zba,Zc3,Zdi,Zev,Zez,Ze0,Ze1,Ze2,Ze3,Ze5,Zfc,Zfd,Zfe,Ziu,Ziv,Ziw,Zi6,Zjh,Zji,Zj7,Zka,Zkv,Zkx,Zlz,Zl2,Zna,Znb,Znn,Zno,Znp,Zo7,Zvd,eq_self,true_and,and_true]
        tactic =>
        refine ⟨[(0, 0), (1, 1), (3, 3)], _, _, ⟨rfl, rfl⟩, wkA ?_⟩
        have e1 : stF1 s o (stF s o pre) x = addS (stF s o pre) x.1 x.2 := by simp [stF1, h1, h2]
        rw [e0, e1]
        sym =>
        simp [Za2,Za3,Zez,Ze5,Zfc,Znr,Zpa,Zpd,Zpg,Zpj,Zpu,Zqa,Zqb,Zqc,Zqf,Zqg,Zqh,Zqi,Zqk,Zql,Zqm,Zqn,eq_self,and_true]
    · simp only [Bool.not_eq_true] at h1
      sym =>
      simp [Zaa,Zae,Zaf,Zal,Zam,Zap,Zaz,Za0,Za1,Za2,Za3,Za4,Za5,Za6,Za7,Za8,Za9,Zba,Zbb,Zbd,Zdi,Zev,Zew,Zex,Zez,Ze0,Ze2,Zfd,Zfe,Zfh,Zfi,Zfk,Zjw,Zlz,Zo7,Zvd,eq_self,true_and,Bool.false_and,h1]
      tactic =>
      refine ⟨[(0, 0), (1, 1), (3, 3)], _, _, ⟨rfl, rfl⟩, wkA ?_⟩
      have e1 : stF1 s o (stF s o pre) x = stF s o pre := by simp [stF1, h1]
      rw [e0, e1]
      sym =>
      simp [Za2,Za3,Zez,Ze5,Zfc,Znr,Zpa,Zpd,Zpg,Zpj,Zpu,Zqa,Zqb,Zqc,Zqf,Zqg,Zqh,Zqi,Zqk,Zql,Zqm,Zqn,eq_self,and_true]
  · rintro hp nx ⟨rfl, rfl⟩
    sym =>
    simp [Zab,Zad,Zak,Zam,Zap,Zaz,Za0,Za1,Za2,Za3,Za4,Za5,Za9,Zba,Zbt,Zc3,Zev,Zez,Ze0,Ze1,Ze2,Ze3,Ze5,Ze8,Zfc,Zfd,Zfe,Zgr,Zgs,Zgt,Ziu,Ziv,Ziw,Zi6,Zjh,Zji,Zj7,Zmt,Zmv,Zmw,Zmy,Zm0,Zm1,Zm2,Zm5,Zm7,Zm9,Zna,Znb,Znn,Zno,Znp,Zo7,eq_self,true_and,and_true]
    tactic =>
    refine endA ?_
    sym =>
    simp [Zpg,Zp8,Zqb,Zqc,eq_self,and_true]
  · intro _ _ _ _ _ h
    exact h.elim
def nxP (s o : List Rg) (r : Rg) : Bool := !hasF s r.1 && !hasF o r.1
def nxF (s o xs : List Rg) : Option Rg := xs.find? (nxP s o)
def nxR (t : Int) (s o : List Rg) : Option Rg → AV
  | some r => .tu [wV t s (addS o r.1 r.2), .ag [I r.1, I r.2], Bo true]
  | none => .tu [wV t s o, .ag [I 0, I 0], Bo false]
theorem next_con (t : Int) (s o : List Rg) (hs : s.length < 1000000) (ho : o.length < 1000000) (ht : 0 ≤ t ∧ t ≤ 1099511627776) (b : Int) (hb : endF (lim 0) s = b) (hb0 : 0 ≤ b ∧ b ≤ 4611686018427387904) (q : Option Rg) (hq : nxF s o (segs t b) = q) :
    Con Try.prog 70 [] [wV t s o] [] (nxR t s o q) := by
  refine con_j b70 rfl ?_
  sym =>
  simp [Zab,Zad,Zam,Zaz,Za0,Za1,Za2,Za3,Za4,Za5,Za9,Zba,Zbt,Zcv,Zcx,Zdc,Zdd,Zde,Zev,Zew,Zez,Ze0,Ze2,Ze3,Ze5,Ze8,Zfc,Zfd,Zfe,Zgr,Zgs,Zgt,Zin,Zio,Zip,Zi6,Zla,Zlb,Zlc,Zld,Zle,Zlf,Zlh,Zlk,Zlm,Zm5,Zm7,Zm9,Zna,Znb,Zne,Znf,Zng,Zos,Zot,Zo7,eq_self,true_and,and_true,callable_108]
  tactic =>
  refine cl none (segs_con t s o) trivial ?_
  sym =>
  simp [Zag,Zam,Zaz,Za0,Za1,Za2,Za3,Za4,Za9,Zdi,Zev,Zez,Ze0,Zfd,Zfe,Zk9,Zlz,Zl2,Zo7,Zvb,eq_self,not_false_eq_true]
  tactic =>
  refine rgS hs ht hb hb0 (fun pre hp nx => nx = 4 ∧ nxF s o pre = none ∧ hp = [(0, ⟨wC t s o, 1, 0⟩), (1, ⟨[I 0, .nl, .nl], 1, 0⟩), (2, ⟨[I 0, I 0], 1, 0⟩), (3, ⟨[Bo false], 1, 0⟩)])
    (fun e pre hp nx => e = .ret ∧ ∃ r, nxF s o pre = some r ∧ hp = [(0, ⟨wC t s (addS o r.1 r.2), 1, 0⟩), (1, ⟨wC t s (addS o r.1 r.2), 1, 0⟩), (2, ⟨[I r.1, I r.2], 1, 0⟩), (3, ⟨[Bo true], 1, 0⟩), (4, ⟨[I r.1, I r.2], 1, 0⟩)]) [(0, 0), (1, 1), (2, 2), (3, 3)] _ _ ⟨rfl, rfl, rfl⟩ (wkA ?_) ?_ ?_ ?_
  · sym =>
    simp [Za2,Za3,Zez,Zfc,Znr,Zpa,Zpd,Zpg,Zpj,Zpu,Zqa,Zqb,Zqc,Zqf,Zqg,Zqh,Zqi,Zqk,Zql,Zqm,Zqn,eq_self,and_true]
  · rintro pre x hp nx ⟨rfl, hn, rfl⟩ hl
    refine ⟨by intro p hp; simp at hp; rcases hp with rfl | rfl | rfl | rfl <;> rfl, ?_⟩
    have e0 : nxF s o (pre ++ [x]) = if nxP s o x then some x else none := by
      unfold nxF at hn ⊢
      rw [List.find?_append, hn]
      cases h : nxP s o x <;> simp [h]
    sym =>
    simp [Zab,Zad,Zag,Zaz,Za0,Za1,Za2,Za3,Za4,Za5,Za9,Zba,Zbt,Zbv,Zcv,Zc3,Zdc,Zdd,Zde,Zev,Zew,Zez,Ze0,Ze1,Ze2,Ze3,Ze5,Ze8,Zfc,Zfd,Zfe,Zgr,Zgs,Zgt,Zgv,Zgw,Zgx,Zin,Ziu,Ziv,Ziw,Zi6,Zjh,Zji,Zjn,Zla,Zlb,Zlc,Zld,Zle,Zlf,Zlh,Zlj,Zlm,Zm5,Zm6,Zm7,Zm9,Zna,Znb,Zne,Znf,Zng,Znn,Zno,Znp,Zo7,Zvc,Zvg,Zvh,eq_self,true_and,and_true,callable_109]
    tactic =>
    refine cl none (has_con s hs x.1) trivial ?_
    by_cases h1 : hasF s x.1 = true
    · sym =>
      simp [Zaa,Zae,Zaf,Zal,Zam,Zap,Zaz,Za0,Za1,Za2,Za3,Za4,Za5,Za6,Za7,Za8,Za9,Zba,Zbb,Zbd,Zbj,Zdi,Zev,Zew,Zex,Zez,Ze0,Ze2,Zfd,Zfe,Zfh,Zfi,Zfk,Zgd,Zgg,Zjw,Zlz,Zo3,Zo7,Zvd,eq_self,true_and,Bool.false_and,h1]
      tactic =>
      refine ⟨[(0, 0), (1, 1), (2, 2), (3, 3)], _, _, ⟨rfl, by rw [e0]; simp [nxP, h1], rfl⟩, wkA ?_⟩
      sym =>
      simp [Za2,Za3,Zez,Ze5,Zfc,Znr,Zpa,Zpd,Zpg,Zpj,Zpu,Zqa,Zqb,Zqc,Zqf,Zqg,Zqh,Zqi,Zqk,Zql,Zqm,Zqn,eq_self,and_true]
    · simp only [Bool.not_eq_true] at h1
      sym =>
      simp [Za5,Za6,Za7,Za9,Zba,Zbb,Zbj,Zbt,Zbv,Zdc,Zdd,Zde,Zdi,Zev,Zew,Zex,Zez,Ze0,Ze2,Ze5,Ze8,Zfc,Zfd,Zfe,Zfh,Zgd,Zgg,Zgr,Zgs,Zgt,Zgv,Zgw,Zgx,Zjw,Zla,Zlb,Zlc,Zld,Zle,Zlf,Zlh,Zlj,Zlm,Zlz,Zm5,Zm6,Zm7,Zm9,Zna,Znb,Zne,Znf,Zng,Zo4,eq_self,true_and,and_true,h1,callable_109]
      tactic =>
      refine cl none (has_con o ho x.1) trivial ?_
      by_cases h2 : hasF o x.1 = true
      · sym =>
        simp [Zaa,Zae,Zaf,Zal,Zam,Zap,Zaz,Za0,Za1,Za2,Za3,Za4,Za5,Za6,Za7,Za9,Zba,Zbd,Zbj,Zdi,Zev,Zew,Zex,Zez,Ze0,Ze2,Zfd,Zfe,Zfi,Zfl,Zgd,Zgg,Zjw,Zlz,Zo3,Zo7,Zvd,eq_self,true_and,Bool.and_false,h2]
        tactic =>
        refine ⟨[(0, 0), (1, 1), (2, 2), (3, 3)], _, _, ⟨rfl, by rw [e0]; simp [nxP, h2], rfl⟩, wkA ?_⟩
        sym =>
        simp [Za2,Za3,Zez,Ze5,Zfc,Znr,Zpa,Zpd,Zpg,Zpj,Zpu,Zqa,Zqb,Zqc,Zqf,Zqg,Zqh,Zqi,Zqk,Zql,Zqm,Zqn,eq_self,and_true]
      · simp only [Bool.not_eq_true] at h2
        sym =>
        simp [Zab,Zad,Zae,Zaf,Zal,Zam,Zaz,Za0,Za1,Za2,Za3,Za4,Za5,Za6,Za7,Za9,Zba,Zbd,Zbj,Zbt,Zbv,Zdc,Zdd,Zde,Zdi,Zev,Zew,Zex,Zez,Ze0,Ze2,Ze5,Ze8,Zfc,Zfd,Zfe,Zfi,Zfl,Zgd,Zgg,Zgr,Zgs,Zgt,Zgv,Zgw,Zgx,Zjw,Zla,Zlb,Zlc,Zld,Zle,Zlf,Zlh,Zlj,Zlm,Zlz,Zm5,Zm6,Zm7,Zm9,Zna,Znb,Zne,Znf,Zng,Zo4,Zo7,eq_self,true_and,and_true,h2,callable_104]
        tactic =>
        refine cl none (adds_con o ho x.1 x.2) trivial ?_
        sym =>
        simp [Zac,Zad,Zak,Zam,Zar,Zaz,Za0,Za1,Za2,Za3,Za4,Za5,Za9,Zba,Zbu,Zbv,Zc3,Zc4,Zc7,Zc8,Zc9,Zdi,Zdo,Zdp,Zdt,Zdu,Zdv,Zdw,Zdx,Zdy,Zdz,Zd0,Zd1,Zd2,Zd3,Zec,Zek,Zen,Zer,Zes,Zev,Zew,Zez,Ze0,Ze1,Ze2,Ze3,Ze5,Ze8,Zfc,Zfd,Zfe,Zgr,Zgs,Zgt,Zgv,Zgw,Zgx,Ziu,Ziv,Ziw,Zi6,Zi8,Zjh,Zji,Zjn,Zjs,Zj7,Zka,Zkv,Zkx,Zlz,Zl2,Zm5,Zm7,Zm9,Zna,Znb,Zne,Znn,Zno,Znp,Zo7,Zve,eq_self,true_and,and_true]
        tactic =>
        exact ⟨x, by rw [e0]; simp [nxP, h1, h2], rfl⟩
  · rintro hp nx ⟨rfl, hn, rfl⟩
    rw [hq] at hn
    subst hn
    sym =>
    simp [Zab,Zad,Zak,Zam,Zap,Zaz,Za0,Za1,Za2,Za3,Za4,Za5,Za9,Zba,Zbt,Zb9,Zc3,Zev,Zew,Zez,Ze0,Ze1,Ze2,Ze3,Ze5,Ze8,Zfc,Zfd,Zfe,Zgr,Zgs,Zgt,Zhd,Zhe,Zhf,Ziu,Ziv,Ziw,Zi6,Zi8,Zjh,Zji,Zjn,Zjs,Zj7,Zmt,Zmv,Zmw,Zmy,Zm0,Zm1,Zm3,Zm5,Zm6,Zm7,Zm9,Zna,Znb,Znn,Zno,Znp,Zo7,eq_self,true_and,and_true]
    tactic =>
    refine endA ?_
    unfold nxR
    sym =>
    simp [Zpa,Zpb,Zpg,Zp7,Zp9,Zqb,Zqc,Zqd,Zqe,eq_self,and_true]
  · rintro e pre hp nx ⟨suf, hsuf⟩ ⟨rfl, r, hr, rfl⟩
    have : q = some r := by
      rw [← hq, ← hsuf]
      unfold nxF at hr ⊢
      rw [List.find?_append, hr]; rfl
    subst this
    sym =>
    simp [Zao,Zar,Zez,Zfc,Zmt,Zmv,Zmw,Zmy,Zm0,Zm1,Zm3,Zm5,Zm6,Zm7,Zm9,Zna,Znb,eq_self,true_and,and_true]
    tactic =>
    refine endA ?_
    unfold nxR
    sym =>
    simp [Zpa,Zpb,Zpg,Zp7,Zp9,Zqb,Zqc,Zqd,Zqe,eq_self,and_true]
end Go.Proofs.Ytbmdahhhgpbchaa.SwD
