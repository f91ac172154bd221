import Derived.Test.YtbmdahhhgpbchaaInB
import Derived.Test.YtbmdahhhgpbchaaRbP
import Derived.Test.YtbmdahhhgpbchaaLyD
import Derived.Test.YtbmdahhhgpbchaaObC
namespace Go.Proofs.Ytbmdahhhgpbchaa.InC
open Go Go.Sim Go.Sim.E Go.RowKit Go.Proofs Go.Proofs.Ytbmdahhhgpbchaa.Cod Go.Proofs.Ytbmdahhhgpbchaa.Tab Go.Proofs.Ytbmdahhhgpbchaa.Bse Go.Proofs.Ytbmdahhhgpbchaa.SpnP Go.Proofs.Ytbmdahhhgpbchaa.SwA Go.Proofs.Ytbmdahhhgpbchaa.SwB Go.Proofs.Ytbmdahhhgpbchaa.SwC Go.Proofs.Ytbmdahhhgpbchaa.SwS Go.Proofs.Ytbmdahhhgpbchaa.SwD Go.Proofs.Ytbmdahhhgpbchaa.SwF Go.Proofs.Ytbmdahhhgpbchaa.SwG Go.Proofs.Ytbmdahhhgpbchaa.SwL Go.Proofs.Ytbmdahhhgpbchaa.ObA Go.Proofs.Ytbmdahhhgpbchaa.ObB Go.Proofs.Ytbmdahhhgpbchaa.ObC Go.Proofs.Ytbmdahhhgpbchaa.SnA Go.Proofs.Ytbmdahhhgpbchaa.SnB Go.Proofs.Ytbmdahhhgpbchaa.RbA Go.Proofs.Ytbmdahhhgpbchaa.MpB Go.Proofs.Ytbmdahhhgpbchaa.RbB Go.Proofs.Ytbmdahhhgpbchaa.InA Go.Proofs.Ytbmdahhhgpbchaa.SnC Go.Proofs.Ytbmdahhhgpbchaa.InB Go.Proofs.Ytbmdahhhgpbchaa.RbP Go.Proofs.Ytbmdahhhgpbchaa.LyA Go.Proofs.Ytbmdahhhgpbchaa.LyB Go.Proofs.Ytbmdahhhgpbchaa.LyC Go.Proofs.Ytbmdahhhgpbchaa.LyD
set_option linter.unusedVariables false
set_option linter.unusedSimpArgs false
set_option maxRecDepth 100000
set_option maxHeartbeats 4000000
/-! ### a stream out, a stream in -/
/-- The places that are held lie above the base, in order. -/
theorem stR_spec {tot b : Int} {H : Sgs} (h : RW tot b H) (hn : hget H b = none) (ht : tot ≤ 1099511627776) : ∀ n : Nat, n ≤ 8 → Norm (stR b H n) ∧ In (stR b H n) ∧ ∀ p, mem (stR b H n) p → b < p ∧ b + 256 ≤ p ∧ p < b + 2048 ∧ p < tot
  | 0, _ => ⟨trivial, fun p hp => absurd hp (mem_nil p), fun p hp => absurd hp (mem_nil p)⟩
  | n + 1, hn8 => by
    obtain ⟨h1, h2, h3⟩ := stR_spec h hn ht n (by omega)
    obtain ⟨a1, a2, a3, _⟩ := addS_spec h1 h2 (b + 256 * (n : Int)) (b + 256 * (n : Int) + hlen H (b + 256 * (n : Int)))
    refine ⟨a1, a2, fun p hp => ?_⟩
    rcases (a3 p).1 hp with hp | hp
    · have hb := h.b0
      cases hg : hget H (b + 256 * (n : Int)) with
      | none =>
        have : hlen H (b + 256 * (n : Int)) = 0 := by unfold hlen; rw [hg]
        rw [this] at hp
        unfold lim at hp
        omega
      | some x =>
        have e : hlen H (b + 256 * (n : Int)) = (x.length : Int) := by unfold hlen; rw [hg]; rfl
        obtain ⟨g1, g2, g3, g4, g5⟩ := h.ge _ (hget_mem hg)
        simp only at g1 g2 g3 g4 g5
        have hn0 : n ≠ 0 := by
          rintro rfl
          rw [show b + 256 * ((0 : Nat) : Int) = b from by omega, hn] at hg
          cases hg
        rw [e] at hp
        unfold lim at hp
        omega
    · exact h3 p hp
theorem norm_each {l : List Rg} : ∀ (h : Norm l) (r : Rg), r ∈ l → r.1 < r.2 ∧ mem l r.1 ∧ mem l (r.2 - 1) := by
  induction l with
  | nil => intro _ r hr; cases hr
  | cons q l ih =>
    intro h r hr
    rcases List.mem_cons.1 hr with rfl | hr
    · have := h.1
      exact ⟨this, (mem_cons _ _ _).2 (.inl ⟨Int.le_refl _, this⟩), (mem_cons _ _ _).2 (.inl ⟨by omega, by omega⟩)⟩
    · obtain ⟨h1, h2, h3⟩ := ih h.2.2 r hr
      exact ⟨h1, (mem_cons _ _ _).2 (.inr h2), (mem_cons _ _ _).2 (.inr h3)⟩
theorem above_take (m : Nat) : ∀ (l c : List Rg), (∀ r ∈ l, 0 ≤ r.1) → aboveF (-1) (m : Int) l c = c ++ l.take (m - c.length)
  | [], c, _ => by simp [aboveF]
  | r :: l, c, h => by
    have h0 := h r (List.mem_cons_self ..)
    have hl : ∀ q ∈ l, 0 ≤ q.1 := fun q hq => h q (List.mem_cons_of_mem _ hq)
    unfold aboveF
    by_cases hc : (c.length : Int) < m
    · rw [if_pos ⟨by omega, hc⟩, above_take m l _ hl, List.length_append, List.append_assoc]
      have : m - c.length = (m - (c.length + 1)) + 1 := by omega
      rw [this, List.take_succ_cons]
      rfl
    · rw [if_neg (fun x => hc x.2), above_take m l c hl, show m - c.length = 0 from by omega]
      simp
theorem rgF_id {l : List Rg} (h : ∀ r ∈ l, 0 ≤ r.1 ∧ 0 ≤ r.2 ∧ r.1 ≤ 1099511627776 ∧ r.2 ≤ 1099511627776) : rgF l = l := by
  unfold rgF
  have e1 : l.filter (fun r => decide (0 ≤ min r.1 r.2)) = l := by
    rw [List.filter_eq_self]
    intro r hr
    have := h r hr
    simp only [decide_eq_true_eq]
    omega
  rw [e1]
  conv => rhs; rw [← List.map_id l]
  refine List.map_congr_left fun r hr => ?_
  have := h r hr
  show (IntKind.u64.wrap r.1, IntKind.u64.wrap r.2) = r
  rw [wu64, wu64, Int.emod_eq_of_lt (by omega) (by omega), Int.emod_eq_of_lt (by omega) (by omega)]
theorem ri_norm : ∀ (l : List Rg) (o : Int), Norm l → (∀ r ∈ l, o < r.1) → riF o l = true
  | [], o, _, _ => rfl
  | r :: l, o, hn, h => by
    have h1 := h r (List.mem_cons_self ..)
    have h2 := hn.1
    unfold riF
    rw [if_neg (by omega), if_neg (by omega)]
    exact ri_norm l r.2 hn.2.2 (fun s hs => hn.2.1 s hs)
theorem norm_take : ∀ (n : Nat) (l : List Rg), Norm l → Norm (l.take n)
  | 0, _, _ => trivial
  | n + 1, [], _ => trivial
  | n + 1, r :: l, h => ⟨h.1, fun s hs => h.2.1 s (List.mem_of_mem_take hs), norm_take n l h.2.2⟩
/-- What is told back, of a buffer. -/
theorem tell_rgs {tot b : Int} {H : Sgs} (h : RW tot b H) (hn : hget H b = none) (ht : tot ≤ 1099511627776) : (aboveF (-1) 4 (stR b H 8) []).length ≤ 4 ∧ mayF (tlF b H f0) = 0 ∧ (tlF b H f0).o = b ∧ (tlF b H f0).r.length ≤ 4 := by
  obtain ⟨h1, h2, h3⟩ := stR_spec h hn ht 8 (Nat.le_refl _)
  have hb := h.b0
  have he : ∀ r ∈ stR b H 8, b < r.1 ∧ 0 ≤ r.1 ∧ 0 ≤ r.2 ∧ r.1 ≤ 1099511627776 ∧ r.2 ≤ 1099511627776 := fun r hr => by
    obtain ⟨e1, e2, e3⟩ := norm_each h1 r hr
    have := h3 _ e2
    have := h3 _ e3
    omega
  have ea : aboveF (-1) 4 (stR b H 8) [] = (stR b H 8).take 4 := by
    have := above_take 4 (stR b H 8) [] (fun r hr => (he r hr).2.1)
    simpa using this
  have er : rgF ((stR b H 8).take 4) = (stR b H 8).take 4 := rgF_id fun r hr => by
    have := he r (List.mem_of_mem_take hr)
    omega
  have eb : IntKind.u64.wrap b = b := by rw [wu64, Int.emod_eq_of_lt (by omega) (by omega)]
  have el : ((stR b H 8).take 4).length ≤ 4 := by rw [List.length_take]; omega
  refine ⟨by rw [ea]; exact el, ?_, eb, ?_⟩
  · unfold mayF tlF
    simp only
    rw [if_neg (by omega), if_neg (by omega), if_pos trivial, ea, er, eb, if_neg (by omega), ri_norm _ _ (norm_take 4 _ h1) (fun r hr => (he r (List.mem_of_mem_take hr)).1)]
    rfl
  · show (rgF (aboveF (-1) 4 (stR b H 8) [])).length ≤ 4
    rw [ea, er]
    exact el
/-- What holds of a stream in. -/
structure IInv (src : List Int) (t : Int) (b : Int) (H : Sgs) (fr0 ot : Int) (m : Nat) : Prop where
  rw : RW t b H
  no : hget H b = none
  os : OfS src t H
  len : H.length ≤ m
  f : 0 ≤ fr0 ∧ fr0 ≤ m
  o : 0 ≤ ot ∧ ot ≤ m
theorem IInv.mono {src : List Int} {t b : Int} {H : Sgs} {fr0 ot : Int} {m m' : Nat} (h : IInv src t b H fr0 ot m) (hm : m ≤ m') : IInv src t b H fr0 ot m' :=
  ⟨h.rw, h.no, h.os, Nat.le_trans h.len hm, ⟨h.f.1, by have := h.f.2; omega⟩, ⟨h.o.1, by have := h.o.2; omega⟩⟩
theorem IInv.ok {src : List Int} {t b : Int} {H : Sgs} {fr0 ot : Int} {m : Nat} (h : IInv src t b H fr0 ot m) (ht : t ≤ 1099511627776) : ∀ p ∈ H, p.1 ≤ 4611686018427387000 ∧ 0 < p.2.length ∧ p.2.length ≤ 256 := fun p hp => by
  have := h.rw.ge p hp
  omega
theorem it_inv {src : List Int} {t b : Int} {H : Sgs} {fr0 ot : Int} {m : Nat} (h : IInv src t b H fr0 ot m) (ht : (src.length : Int) = t) (y : Rg) (f : Fm) (hk : f.k = 3) (hy : 0 ≤ y.1 ∧ y.1 < y.2 ∧ y.2 ≤ t) (ht2 : t ≤ 1099511627776) (hfo : f.o = y.1) (hfd : f.d = pc src y) :
    IInv src t (itF t b H fr0 ot f).1.1 (itF t b H fr0 ot f).1.2.1 (itF t b H fr0 ot f).1.2.2.1 (itF t b H fr0 ot f).1.2.2.2 (m + 1) ∧ b ≤ (itF t b H fr0 ot f).1.1 ∧ (itF t b H fr0 ot f).2 = cutS src b (itF t b H fr0 ot f).1.1 := by
  have hw : IntKind.i64.wrap f.o = y.1 := by rw [hfo, w64 _ (by omega)]
  obtain ⟨p1, p2, p3, p4, _, p6⟩ := put_spec h.rw h.no y.1 f.d
  have hl : ((pc src y).length : Int) = y.2 - y.1 := by
    simp only [pc, List.length_take, List.length_drop]
    omega
  obtain ⟨p7, p8⟩ := p6 src h.os ht (fun c1 c2 => by
    obtain ⟨_, _, _, _, l5⟩ := lgF_pos h.rw.b0.1 c1
    rw [hfd, hl, l5] at c2
    rw [hfd]
    unfold pc cutS
    congr 1
    omega)
  have hf := h.f
  have ho := h.o
  have hlen := h.len
  unfold itF
  rw [if_neg (by rintro (c | c); exact c hk; omega), hw]
  split
  · exact ⟨⟨p1, p2, p7, by simp only; omega, by simp only; omega, by simp only; omega⟩, p3, p8⟩
  · exact ⟨⟨p1, p2, p7, by simp only; omega, by simp only; omega, by simp only; omega⟩, p3, p8⟩
/-- What is acknowledged is not sent again. -/
theorem ack_base {t b : Int} {s : List Rg} (ht : 0 ≤ t ∧ t ≤ 1099511627776) (hs : Ok t s) (hb : 0 ≤ b ∧ b ≤ t) (ha : b % 256 = 0 ∨ b = t) (l : List Rg) : b ≤ endF (lim 0) (acS t s b l) := by
  have bs := hs.base ht.1
  unfold acS
  split
  · obtain ⟨h1, h2, _⟩ := ak_ok (off := b) ht hs hb.2 l
    have B := h1.base ht.1
    apply Decidable.byContradiction
    intro hc
    refine B.2.2.2 ?_
    have : ∀ p, 0 ≤ p → p < b → mem (akF t b s l) p := by
      intro p hp1 hp2
      unfold akF
      have mono : ∀ (l acc : List Rg), Norm acc → In acc → mem acc p → mem (l.foldl (ak1 t b) acc) p := by
        intro l
        induction l with
        | nil => intro acc _ _ h; exact h
        | cons x xs ih =>
          intro acc hn hi h
          rw [List.foldl_cons]
          unfold ak1
          split
          · obtain ⟨q1, q2, q3, _⟩ := addS_spec hn hi x.1 x.2
            exact ih _ q1 q2 ((q3 p).2 (.inr h))
          · exact ih _ hn hi h
      obtain ⟨q1, q2, q3, _⟩ := addS_spec hs.1 (hs.inn (by omega)) 0 b
      exact mono l _ q1 q2 ((q3 p).2 (.inl ⟨by unfold lim; omega, by unfold lim; omega⟩))
    exact this _ B.1 (by omega)
  · rename_i hc
    have hp : plF t b = true := (plF_iff t b).2 ⟨hb.1, hb.2, by rcases ha with ha | ha; exact .inl (by rw [Int.tmod_eq_emod_of_nonneg hb.1]; exact ha); exact .inr ha⟩
    have : ¬ (¬ b < endF (lim 0) s) := fun h => hc (by unfold acB; simp [hp, h])
    omega
def cU (l : List Int) : List AV := l.map fun n => .sc (.int .u16 n)
abbrev fU (l : List Int) : AV := .fz l.length (cU l)
@[simp] theorem cU_length (l : List Int) : (cU l).length = l.length := by simp [cU]
theorem cU_at (l : List Int) (i : Nat) (h : i < l.length) : (cU l).getD i .un = .sc (.int .u16 l[i]) := by
  rw [List.getD_eq_getElem?_getD]; simp [cU, h]
theorem cU_take (l : List Int) (k : Nat) : (cU l).take k = cU (l.take k) := by simp [cU, List.map_take]
def oC (src : List Int) (t : Int) (s o : List Rg) (T : Tm) : List AV := [fB src, I t, fR s, fR o, Bo T.1, I T.2.1, I T.2.2]
def got (src : List Int) (b : Int) : List Int := cutS src 0 b
def i9 (src : List Int) (t : Int) (q : List Int) (k : Nat) (st : St) : Prop := ∃ (i : Nat) (s o : List Rg) (T : Tm) (b : Int) (H : Sgs) (fr0 ot : Int), i + k = q.length ∧ Ok t s ∧ Ok t o ∧ TOk T ∧ IInv src t b H fr0 ot (8 * i) ∧
  st = ⟨[(0, fB src), (5, .pt 0 0), (7, .pt 1 0), (9, .lv 2 0 (got src b).length), (47, fU q), (48, I (IN q.length)), (49, I (IN i))], [(0, ⟨oC src t s o T, 1, 0⟩), (1, ⟨nC t b H fr0 ot, 1, 0⟩), (2, ⟨cB (got src b), 1, 0⟩)], 3⟩
def i9b (src : List Int) (t : Int) (q : List Int) (i : Nat) (x : Int) (s o o2 : List Rg) (T : Tm) (rs : List Rg) (k : Nat) (st : St) : Prop := ∃ (j : Nat) (b : Int) (H : Sgs) (fr0 ot : Int), j + k = rs.length ∧ IInv src t b H fr0 ot (8 * i + j) ∧
  st = ⟨[(0, fB src), (5, .pt 0 0), (7, .pt 1 0), (9, .lv 2 0 (got src b).length), (11, .sc (.int .u16 x)), (12, .pt 3 0), (47, fU q), (48, I (IN q.length)), (49, I (IN i)), (58, fP src rs), (59, I (IN rs.length)), (60, I (IN j))],
    [(0, ⟨oC src t s o T, 1, 0⟩), (1, ⟨nC t b H fr0 ot, 1, 0⟩), (2, ⟨cB (got src b), 1, 0⟩), (3, ⟨oC src t s o2 T, 1, 0⟩)], 4⟩
theorem z16_byt : byt8 z16.1 := by
  intro x hx
  have := List.eq_of_mem_replicate (show x ∈ List.replicate 16 (0 : Int) from hx)
  omega
theorem cBnil : cB [] = [] := rfl
theorem got_len {src : List Int} {t b : Int} (et : t = IN src.length) (hb : 0 ≤ b ∧ b ≤ t) : IN (got src b).length = b := by
  have := cutS_len src 0 b ⟨Int.le_refl _, hb.1, by rw [et] at hb; exact hb.2⟩
  unfold got IN
  omega
theorem talks_con (src : List Int) (l : List Int) : Con Try.prog 9 [] [fB src, fU l] [] (Bo true) := by
  refine con_j b9 rfl ?_
  by_cases h1 : (3000 : Int) < IN src.length
  · sym =>
    simp [Zab,Zad,Zae,Zaf,Zal,Zam,Zaz,Za0,Za1,Za2,Za3,Za4,Za5,Za9,Zba,Zbb,Zbf,Zcn,Zdc,Zdd,Zde,Zev,Zew,Zez,Ze0,Ze2,Ze5,Zfd,Zfe,Zfh,Zfn,Zf3,Zh6,Zh7,Zla,Zna,Znb,Zne,Znf,Zos,Zot,Zo7,Zo8,eq_self,true_and,h1,callable_11]
    tactic =>
    refine cl none (ialive_con) trivial ?_
    sym =>
    simp [Zak,Zam,Zao,Zaz,Za0,Za1,Za2,Za3,Za4,Za5,Za9,Zba,Zbb,Zdi,Zev,Zez,Ze0,Ze2,Zfd,Zfe,Zfh,Zjw,Zlz,Zmt,Zmv,Zmw,Zmx,Zmz,Zm2,Zo7,eq_self,true_and]
    tactic =>
    refine endA ?_
    sym =>
    simp [Zpc,eq_self]
  have h3 : src.length ≤ 3000 := by simp only [IN] at h1; omega
  have hp : plF (IN src.length) 0 = true := by rw [plF_iff]; exact ⟨Int.le_refl _, by simp only [IN]; omega, .inl rfl⟩
  have hnew := bnew_con src 0 (by omega) hp
  obtain ⟨t, et⟩ : ∃ t, t = IN src.length := ⟨_, rfl⟩
  have ht3 : 0 ≤ t ∧ t ≤ 3000 := by rw [et]; simp only [IN]; omega
  have ht2 : 0 ≤ t ∧ t ≤ 20000 := by omega
  have ht : 0 ≤ t ∧ t ≤ 1099511627776 := by omega
  have hsl : (src.length : Int) = t := by rw [et]; rfl
  rw [← et, show addS [] 0 0 = [] from by decide] at hnew
  have hin := inew_con t 0 (by omega) (by omega)
  have hN : nwF t 0 = true := (nwF_iff t 0).2 ⟨ht.1, ht.2, Int.le_refl _, ht.1, .inl rfl⟩
  rw [if_pos hN, if_pos hN] at hin
  have wt : IntKind.u64.wrap (IN src.length) = t := by rw [et, wu64]; simp only [IN]; omega
  sym =>
  simp [Zaa,Zab,Zad,Zae,Zaf,Zal,Zam,Zaz,Za0,Za1,Za2,Za3,Za4,Za5,Za9,Zba,Zbb,Zbf,Zcn,Zdc,Zdd,Zde,Zev,Zew,Zez,Ze0,Ze2,Ze5,Zfd,Zfe,Zfh,Zfn,Zf3,Zh6,Zh7,Zla,Zlb,Zle,Zlj,Zll,Zna,Znb,Zne,Znf,Zng,Zos,Zot,Zo7,Zo9,eq_self,true_and,and_true,h1,callable_31]
  tactic =>
  refine cl none (hnew) trivial ?_
  sym =>
  simp [Zab,Zad,Zam,Zaz,Za0,Za1,Za2,Za3,Za4,Za5,Za9,Zba,Zbb,Zbl,Zb7,Zcn,Zcv,Zc3,Zdc,Zdd,Zde,Zdi,Zev,Zew,Zez,Ze0,Ze1,Ze2,Ze3,Ze5,Zfc,Zfd,Zfe,Zfh,Zgh,Zgi,Zhb,Zhc,Zh6,Zh7,Zin,Ziu,Ziv,Ziw,Zi6,Zjh,Zji,Zjn,Zjs,Zj7,Zka,Zkx,Zky,Zk0,Zk1,Zla,Zlb,Zle,Zlj,Zlz,Zl2,Zm9,Zna,Znb,Zne,Znf,Zng,Znn,Zno,Znp,Zo7,eq_self,true_and,and_true,wt,callable_16]
  tactic =>
  refine cl none (hin) trivial ?_
  have e1 : min (IN l.length) 60 = IN (l.take 60).length := by simp [IN]; omega
  have e2 : (cU l).take (l.take 60).length = cU (l.take 60) := by rw [cU_take]; congr 1; simp [List.take_take]
  have e3 : (l.take 60).length ≤ l.length := by simp; omega
  sym =>
  simp [Zaa,Zab,Zad,Zae,Zaf,Zag,Zah,Zal,Zam,Zaz,Za0,Za1,Za2,Za3,Za4,Za5,Za6,Za7,Za9,Zba,Zbb,Zbd,Zbf,Zb7,Zch,Zcn,Zct,Zcv,Zc3,Zdi,Zev,Zew,Zex,Zez,Ze0,Ze1,Ze2,Ze3,Ze5,Zfc,Zfd,Zfe,Zfh,Zfi,Zfl,Zfn,Zf0,Zhb,Zhc,Zhm,Zhn,Zho,Zhs,Zht,Zhu,Zh6,Zh7,Zif,Zig,Zik,Zil,Zim,Zin,Ziu,Ziv,Ziw,Zi6,Zjh,Zji,Zjn,Zjq,Zur,Zuu,Zkx,Zky,Zk0,Zk1,Zlz,Zl2,Zm9,Zna,Znb,Znf,Zng,Znh,Znn,Zno,Znp,Zns,Znu,Znw,Zn5,Zrd,Zo3,Zo7,Zo8,eq_self,true_and,and_true,Nat.mul_one,Nat.sub_zero,e1,e2,e3]
  tactic =>
  have hq60 : (l.take 60).length ≤ 60 := by simp; omega
  generalize l.take 60 = q at *
  have hT0 : TOk (tmF t [] oneT) := TOk.timed TOk.one
  generalize tmF t [] oneT = T0 at *
  refine lpA (i9 src t q) q.length [(0, 9), (1, 19)] _ ⟨0, [], [], T0, 0, [], 0, 0, by omega, Ok.nil _, Ok.nil _, hT0, ⟨RW.nil ⟨Int.le_refl _, ht.1⟩ (.inl rfl), rfl, (fun p hp => by cases hp), by simp, by omega, by omega⟩, rfl⟩ (wkA ?_) ?_
  · unfold oC
    rw [show got src 0 = [] from cutS_nil src 0]
    sym =>
    simp [Za2,Za3,Zez,Zfb,Zfc,Zna,Znf,Znr,Zn5,Zpa,Zpc,Zpg,Zpi,Zu7,Zpr,Zpu,Zqb,Zqc,Zqf,Zqg,Zqh,Zqi,Zqj,Zqk,Zql,Zqm,Zqn,eq_self,and_true,cBnil]
  clear hnew hin hN hT0
  rintro k st ⟨i, s, o, T, b, H, fr0, ot, hi, hs, ho, hT, hI, rfl⟩
  have bs := hs.base ht.1
  have ls := hs.len ht2
  have lo := ho.len ht2
  have hb := hI.rw.b0
  have hgl := got_len et hb
  unfold oC
  by_cases h : i < q.length
  · have hw := w64s i (by omega)
    have h0 := cU_at q i h
    generalize q[i] = x at *
    have cpo := poll_con src s o T t et (by omega) hs ho _ rfl
    have pok := poll_ok (s := s) (b := endF (lim 0) s) ht 9 o ho
    have pln := poll_len (s := s) ht bs.1 ho 9
    generalize pollF t s (endF (lim 0) s) 9 o = R at *
    obtain ⟨rs, o2⟩ := R
    simp only at cpo pok pln
    sym =>
    simp [Zaa,Zab,Zad,Zae,Zaf,Zag,Zal,Zam,Zay,Zaz,Za0,Za1,Za2,Za3,Za4,Za5,Za9,Zba,Zbb,Zbf,Zbt,Zb1,Zdc,Zdd,Zde,Zev,Zew,Zez,Ze0,Ze2,Ze5,Ze8,Zfc,Zfd,Zfe,Zfh,Zfn,Zf1,Zgr,Zgs,Zgt,Zgu,Zg4,Zg6,Zho,Zla,Zlb,Zlc,Zld,Zle,Zlf,Zlh,Zlk,Zlm,Zm5,Zm6,Zm7,Zm9,Zna,Znb,Zne,Znf,Zng,Zns,Znt,Znw,Zo7,Zo8,eq_self,true_and,and_true,Nat.mul_one,h,h0,cU_length,callable_32]
    tactic =>
    and_intros <;> try (first | omega | rfl | assumption | simp only [IN]; omega)
    refine cl none (cpo) trivial ?_
    sym =>
    simp [Zab,Zad,Zag,Zah,Zam,Zaz,Za0,Za1,Za2,Za3,Za4,Za5,Za9,Zba,Zbb,Zb7,Zcn,Zcv,Zc3,Zdi,Zev,Zew,Zez,Ze0,Ze1,Ze2,Ze3,Ze5,Zfc,Zfd,Zfe,Zfh,Zhb,Zhc,Zh6,Zh7,Zin,Ziu,Ziv,Ziw,Zi6,Zjh,Zji,Zjn,Zjs,Zj7,Zka,Zkx,Zky,Zk0,Zk1,Zlz,Zl2,Zm9,Zna,Znb,Znn,Zno,Znp,Zo7,List.length_map,eq_self,true_and,and_true]
    tactic =>
    refine lpA (i9b src t q i x s o o2 T rs) rs.length [(0, 0), (1, 1), (2, 2), (3, 12)] _ ⟨0, b, H, fr0, ot, by omega, hI, rfl⟩ (wkA ?_) ?_
    · unfold oC
      sym =>
      simp [Za2,Za3,Zez,Zfc,Znr,Zn5,Zpa,Zpc,Zpg,Zpi,Zu7,Zpo,Zpu,Zqb,Zqc,Zqf,Zqg,Zqh,Zqi,Zqk,Zql,Zqm,Zqn,eq_self,true_and,and_true]
      tactic =>
      exact rs_self (cB_okI _)
    clear hI hgl hb
    rintro k2 st ⟨j, b, H, fr0, ot, hj, hI, rfl⟩
    have hb := hI.rw.b0
    have hgl := got_len et hb
    unfold oC
    by_cases g : j < rs.length
    · have hwj := w64s j (by omega)
      have p0 := cP_q0 src rs j g
      have p1 := cP_q1 src rs j g
      obtain ⟨v1, v2, v3, v4⟩ := pok.2 rs[j] (List.getElem_mem g)
      have htm : 0 ≤ (IN j).tmod (8 : Int) := Int.tmod_nonneg _ (by simp only [IN]; omega)
      sym =>
      simp [Zaa,Zab,Zad,Zae,Zaf,Zag,Zal,Zam,Zay,Zaz,Za0,Za1,Za2,Za3,Za4,Za5,Za9,Zba,Zbb,Zbf,Zbt,Zb1,Zcv,Zc3,Zev,Zew,Zez,Ze0,Ze1,Ze2,Ze3,Ze5,Zfc,Zfd,Zfe,Zfh,Zfn,Zfp,Zfu,Zfv,Zfz,Zf1,Zgr,Zgu,Zg4,Zg6,Zho,Zin,Ziu,Ziv,Ziw,Zi6,Zjh,Zji,Zjn,Zj7,Zm5,Zm7,Zna,Znb,Znn,Zno,Znp,Zns,Znt,Znw,Zou,Zo7,Zo8,List.length_append,eq_self,true_and,and_true,g,p0,p1,cP_length]
      tactic =>
      and_intros <;> try (first | omega | rfl | assumption | simp only [IN]; omega)
      split
      · sym =>
        simp [Zab,Zai,Zam,Zan,Zaq,Zav,Zaz,Za0,Za1,Za2,Za3,Za4,Za5,Za9,Zba,Zbb,Zbf,Zev,Zew,Zez,Ze0,Ze2,Zfd,Zfe,Zfh,Zfn,Zfq,Zna,Znb,Zo7,eq_self,true_and,hwj]
        tactic =>
        unfold NextL; refine ⟨(k2 - 1), [(0, 0), (1, 1), (2, 2), (3, 3)], _, by omega, ⟨j + 1, b, H, fr0, ot, by omega, hI.mono (by omega), rfl⟩, wkA ?_⟩
        unfold oC
        sym =>
        simp [Za2,Za3,Zez,Zfc,Znr,Zpa,Zpc,Zpg,Zpi,Zu7,Zpo,Zpu,Zqb,Zqc,Zqf,Zqg,Zqh,Zqi,Zqk,Zql,Zqm,Zqn,eq_self,true_and,and_true]
        tactic =>
        exact rs_self (cB_okI _)
      · generalize rs[j] = y at *
        have wy : IntKind.u64.wrap y.1 = y.1 := by rw [wu64]; omega
        have hy1 : 0 ≤ y.1 ∧ y.1 < y.2 ∧ y.2 ≤ t := by have := bs.1; omega
        have hfr := hI.f
        have hot := hI.o
        have hlen := hI.len
        have ctk := itake_con t b H fr0 ot ⟨3, z16, 0, 0, y.1, 0, SnA.z32, pc src y, [], 0⟩ (by omega) (by omega) (by omega) (by simp only; omega) hI.rw.nd (hI.ok ht.2) (by omega)
        obtain ⟨J1, J2, J3⟩ := it_inv hI (show (src.length : Int) = t from by rw [et]; rfl) y ⟨3, z16, 0, 0, y.1, 0, SnA.z32, pc src y, [], 0⟩ rfl hy1 ht.2 rfl rfl
        generalize itF t b H fr0 ot ⟨3, z16, 0, 0, y.1, 0, SnA.z32, pc src y, [], 0⟩ = RR at *
        obtain ⟨⟨b', H', fr', ot'⟩, out⟩ := RR
        simp only at J1 J2 J3 ctk
        have hb' := J1.rw.b0
        have hgl' := got_len et hb'
        have hga : got src b ++ out = got src b' := by rw [J3]; exact cutS_app src 0 b b' ⟨Int.le_refl _, hb.1, J2⟩
        have hgl2 : (got src b).length + out.length = (got src b').length := by rw [← hga, List.length_append]
        have hgb : cB (got src b) ++ cB out = cB (got src b') := by rw [← hga, cB_append]
        have hgm : (got src b').length ≤ 3000 := by simp only [IN] at hgl'; omega
        simp only [fr] at ctk
        sym =>
        simp [Zaa,Zab,Zad,Zal,Zam,Za0,Za1,Za2,Za3,Za5,Za9,Zba,Zbl,Zbt,Zbv,Zb9,Zdc,Zdd,Zde,Zev,Zew,Zez,Ze0,Ze2,Ze5,Ze8,Zfc,Zfd,Zfe,Zgh,Zgi,Zgr,Zgs,Zgt,Zgv,Zgw,Zgx,Zhd,Zhe,Zhf,Zhg,Zhh,Zi7,Zjb,Zla,Zlb,Zlc,Zld,Zle,Zlf,Zlh,Zlk,Zlm,Zu3,Zls,Zm5,Zm6,Zm7,Zm9,Zna,Znb,Zne,Znf,Zng,Znn,Zno,Zo7,eq_self,true_and,and_true,zI_fc,fs_0,fs_19,fs_53,fc_len,fz_fc,fcF1,wy,callable_18]
        tactic =>
        refine cl none (ctk) trivial ?_
        sym =>
        simp [Zab,Zad,Zam,Zap,Zav,Zaz,Za0,Za1,Za2,Za3,Za4,Za5,Za9,Zba,Zbb,Zbf,Zbt,Zb7,Zcv,Zc3,Zc5,Zdi,Zev,Zew,Zez,Ze0,Ze1,Ze2,Ze3,Ze4,Ze5,Ze8,Zfc,Zfd,Zfe,Zff,Zfg,Zfh,Zfn,Zfq,Zgr,Zgs,Zgt,Zhb,Zhc,Zin,Ziu,Ziv,Ziw,Zix,Ziz,Zi0,Zi1,Zi6,Zjh,Zji,Zjn,Zjq,Zur,Zuu,Zkx,Zky,Zk0,Zk1,Zlz,Zl2,Zm5,Zm7,Zm9,Zna,Znb,Znn,Zno,Znp,Zo7,eq_self,true_and,and_true,Nat.mul_one,hgb,hgl2,cB_length,hwj]
        tactic =>
        refine ⟨⟨cB_okF _, by omega, by omega, by omega⟩, ?_⟩
        unfold NextL; refine ⟨(k2 - 1), [(0, 0), (1, 1), (2, 35), (3, 3)], _, by omega, ⟨j + 1, b', H', fr', ot', by omega, J1, rfl⟩, wkA ?_⟩
        unfold oC
        sym =>
        simp [Za2,Za3,Zez,Zfc,Znr,Zpa,Zpc,Zpg,Zpi,Zu7,Zpo,Zpu,Zqb,Zqc,Zqf,Zqg,Zqh,Zqi,Zqk,Zql,Zqm,Zqn,eq_self,true_and,and_true]
        tactic =>
        exact rs_self (cB_okI _)
    · have hI8 : IInv src t b H fr0 ot (8 * (i + 1)) := hI.mono (by omega)
      obtain ⟨T1, T2, T3, T4⟩ := tell_rgs hI.rw hI.no ht.2
      have ctl := tell_con t b H fr0 ot f0 (by omega) (fun p hp => (hI.ok ht.2 p hp).2.2) (by omega)
      have hlay := flay_con (tlF b H f0) (by simp [tlF]) (by omega) z16_byt z32_byt (by intro y hy; cases hy) (by simp only [tlF, f0]; omega) (by simp only [tlF, f0]; omega)
      rw [show (layF (tlF b H f0)).2 = 0 from by unfold layF; rw [if_pos T2]] at hlay
      generalize (layF (tlF b H f0)).1 = lb at *
      obtain ⟨r, hr⟩ : ∃ r, r = (tlF b H f0).r := ⟨_, rfl⟩
      rw [← hr] at T4
      have hF : fr (tlF b H f0) = fc 4 z16 0 0 b 0 SnA.z32 (.fz 0 []) (fQ r) 0 := by
        rw [hr]
        show fc 4 z16 0 0 (tlF b H f0).o 0 SnA.z32 (fB []) (fQ (tlF b H f0).r) 0 = _
        rw [T3]
        rfl
      rw [hF] at ctl hlay
      simp only [fr, f0] at ctl
      have csp := spans_con r (by omega)
      have lsp : (spF r).length ≤ 4 := by
        unfold spF
        rw [List.length_map]
        exact Nat.le_trans (List.length_filter_le _ _) T4
      have wb : IntKind.i64.wrap b = b := w64 _ (by omega)
      have cbk := back_con src t s o2 T b (spF r) ht2 hs pok.1 (by omega)
      have hab := ack_base ht hs hb hI.rw.ba (spF r)
      obtain ⟨k1, k3, _⟩ := ac_ok b (spF r) ht hs pok.1
      have hT2 : TOk (acT t s b (spF r) T) := TOk.timed (by split; exact hT.again; exact hT)
      generalize acS t s b (spF r) = S at *
      generalize acO t s o2 b (spF r) = O at *
      generalize acT t s b (spF r) T = T' at *
      generalize spF r = sr at *
      clear hF
      sym =>
      simp [Zab,Zad,Zae,Zaf,Zai,Zam,Zan,Zaq,Zaw,Zay,Za4,Za5,Za9,Zba,Zbf,Zbt,Zb9,Zdc,Zdd,Zde,Zev,Zew,Zez,Ze0,Ze2,Ze5,Ze8,Zfc,Zfd,Zfe,Zfn,Zf1,Zgr,Zgs,Zgt,Zhd,Zhe,Zhf,Zla,Zlb,Zlc,Zld,Zle,Zlf,Zlh,Zlk,Zu3,Zls,Zm5,Zm7,Zm9,Zna,Znb,Zne,Znf,Zng,Znt,Zo7,Zo9,eq_self,true_and,and_true,zI_fc,fz_fc,fcF1,g,callable_24]
      tactic =>
      refine cl none (ctl) trivial ?_
      sym =>
      simp [Zab,Zad,Zam,Zaz,Za0,Za1,Za2,Za3,Za4,Za5,Za9,Zba,Zbt,Zcv,Zc3,Zdc,Zdd,Zde,Zdi,Zev,Zew,Zez,Ze0,Ze1,Ze2,Ze3,Ze5,Ze8,Zfc,Zfd,Zfe,Zgr,Zgs,Zgt,Zin,Ziu,Ziv,Ziw,Zi6,Zjh,Zji,Zj7,Zkv,Zla,Zlb,Zle,Zlf,Zlh,Zlm,Zlz,Zl2,Zm5,Zna,Znb,Zne,Znf,Zng,Zo7,eq_self,true_and,and_true,fp_f,rb_0,fc_len,fc_ok,fz_fc,fcF1,flL_fz,callable_55]
      tactic =>
      refine cl none (hlay) trivial ?_
      sym =>
      simp [Zaa,Zab,Zad,Zae,Zaf,Zal,Zam,Zaz,Za0,Za1,Za2,Za3,Za4,Za5,Za9,Zba,Zbb,Zbf,Zb7,Zdi,Zev,Zew,Zez,Ze0,Ze2,Zfd,Zfe,Zfh,Zfn,Zfp,Zfv,Zfz,Zf0,Zhb,Zhc,Zka,Zky,Zk0,Zk4,Zlz,Zl2,Zm9,Zna,Znb,Zrd,Zou,Zo3,Zo7,Zo8,eq_self,true_and]
      tactic =>
      have lS := k1.len ht2
      have nlt : ¬ endF (lim 0) S < b := by omega
      split
      · sym =>
        simp [Zac,Zad,Zal,Za0,Za1,Za2,Za3,Zbm,Zbu,Zbw,Zc7,Zc8,Zdf,Zdg,Zdh,Zdp,Zdt,Zdu,Zdv,Zdw,Zdx,Zdy,Zdz,Zd0,Zd1,Zd2,Zeb,Zek,Zeq,Zet,Zev,Zew,Zez,Ze0,Ze2,Ze5,Ze8,Zfc,Zfd,Zfe,Zgh,Zgi,Zgr,Zgs,Zgt,Zgv,Zgw,Zgx,Zla,Zlb,Zle,Zll,Zm5,Zm6,Zm7,Zm9,Zna,Znb,Zne,Znf,Zng,Zo7,eq_self,true_and,and_true,fc_19,fc_54,fc_len,wb,callable_12]
        tactic =>
        refine cl none (csp) trivial ?_
        sym =>
        simp [Za2,Za3,Zdf,Zdg,Zdh,Zdj,Zdk,Zdm,Zdp,Zdt,Zdu,Zdv,Zdw,Zdx,Zdy,Zdz,Zd0,Zd1,Zd2,Zd3,Zeb,Zec,Zen,Zeq,Zer,Zes,Zet,Zev,Zew,Zez,Ze0,Zfd,Zfe,Zkb,Zla,Zlb,Zlc,Zld,Zle,Zlf,Zlh,Zlj,Zlk,Zll,Zlm,Zlz,Zl2,Zne,Znf,Zng,Zo7,eq_self,true_and,and_true,callable_33]
        tactic =>
        refine cl none (cbk) trivial ?_
        sym =>
        simp [Zac,Zad,Zam,Zaz,Za0,Za1,Za2,Za3,Zbc,Zbu,Zb8,Zc4,Zc7,Zc8,Zc9,Zdf,Zdg,Zdh,Zdj,Zdk,Zdm,Zdo,Zdp,Zdt,Zdu,Zdv,Zdw,Zdx,Zdy,Zd0,Zd1,Zd3,Zec,Zek,Zen,Zep,Zeq,Zer,Zes,Zet,Zev,Zew,Zez,Ze0,Ze1,Ze2,Ze3,Ze5,Ze8,Zfc,Zfd,Zfe,Zfh,Zgr,Zgs,Zgt,Zhb,Zhc,Ziu,Ziv,Ziw,Zi6,Zjh,Zji,Zjn,Zjs,Zj7,Zka,Zkx,Zky,Zk0,Zk1,Zla,Zlb,Zlc,Zld,Zle,Zlf,Zlh,Zlk,Zlm,Zlz,Zl2,Zm5,Zm7,Zm9,Zna,Znb,Zne,Znf,Zng,Znn,Zno,Znp,Zo7,eq_self,true_and,and_true,callable_34]
        tactic =>
        refine cl none (base_con' src t S O T' (by omega)) trivial ?_
        sym =>
        simp [Za2,Za3,Zbu,Zbw,Zc7,Zc8,Zdf,Zdg,Zdh,Zdj,Zdk,Zdp,Zdt,Zdu,Zdv,Zdw,Zdx,Zdy,Zdz,Zd0,Zd1,Zd3,Zek,Zen,Zeq,Zer,Zes,Zet,Zev,Zew,Zez,Ze0,Ze2,Ze5,Ze8,Zfc,Zfd,Zfe,Zgr,Zgs,Zgt,Zgv,Zgw,Zgx,Zjr,Zla,Zlb,Zlc,Zld,Zle,Zlf,Zlh,Zlk,Zu3,Zlz,Zm5,Zm7,Zm9,Zna,Znb,Zne,Znf,Zng,Zo7,eq_self,true_and,and_true,ids_mp,callable_26]
        tactic =>
        refine cl none (rbase_con t b H) trivial ?_
        sym =>
        simp [Za2,Zbc,Zbg,Zbu,Zbw,Zc7,Zc8,Zdf,Zdg,Zdh,Zdj,Zdk,Zdp,Zdq,Zdr,Zdt,Zdu,Zdv,Zd0,Zd1,Zd2,Zd3,Zek,Zen,Zeq,Zer,Zes,Zet,Zev,Zew,Zex,Zez,Ze0,Ze2,Ze5,Ze8,Zfc,Zfd,Zfe,Zfh,Zfn,Zf1,Zgr,Zgs,Zgt,Zgv,Zgw,Zgx,Zjr,Zla,Zlb,Zlc,Zld,Zle,Zlf,Zlh,Zlk,Zu3,Zlz,Zm5,Zm7,Zm9,Zna,Znb,Zne,Znf,Zng,Zo7,Zo9,eq_self,true_and,and_true,nlt,ids_mp,callable_27]
        tactic =>
        refine cl none (rdone_con t b H) trivial ?_
        by_cases hbt : b = t
        · have hdn : lfF t S = 0 := by
            have bS := k1.base ht.1
            rw [k1.left ht]
            exact (k1.done ht.1).2 (by omega)
          have cbd := bdone_con src t S O T' (by omega)
          rw [decide_eq_true hdn] at cbd
          subst hbt
          sym =>
          simp [Za2,Zbc,Zbu,Zc7,Zc8,Zdf,Zdg,Zdh,Zdj,Zdk,Zdq,Zdr,Zdt,Zdu,Zdv,Zd0,Zd1,Zd2,Zd3,Zec,Zek,Zen,Zeq,Zer,Zes,Zet,Zev,Zew,Zex,Zez,Ze0,Ze2,Ze5,Ze8,Zfc,Zfd,Zfe,Zfh,Zgr,Zgs,Zgt,Zjw,Zla,Zlb,Zlc,Zld,Zle,Zlf,Zlh,Zlk,Zlm,Zlz,Zm5,Zm7,Zm9,Zna,Znb,Zne,Znf,Zng,Zo7,Zo8,eq_self,true_and,and_true,ids_mp,callable_36]
          tactic =>
          refine cl none (cbd) trivial ?_
          sym =>
          simp [Zaa,Zab,Zae,Zaf,Zal,Zam,Zaz,Za0,Za1,Za2,Za3,Za5,Za9,Zba,Zbe,Zbk,Zbt,Zc7,Zc8,Zdc,Zdd,Zde,Zdj,Zdk,Zdo,Zdp,Zdq,Zdr,Zdt,Zdu,Zdv,Zd0,Zd1,Zd2,Zev,Zew,Zex,Zez,Ze0,Ze2,Ze5,Ze8,Zfc,Zfd,Zfe,Zfi,Zfl,Zgd,Zgg,Zgr,Zgs,Zgt,Zjw,Zla,Zlb,Zlc,Zld,Zle,Zlf,Zlh,Zlk,Zlm,Zlz,Zm5,Zm7,Zm9,Zna,Znb,Zne,Znf,Zng,Zo3,Zo7,eq_self,true_and,and_true,callable_35]
          tactic =>
          refine cl none (btick_con src b S O T' hT2) trivial ?_
          sym =>
          simp [Zab,Zam,Zap,Zav,Zaz,Za0,Za1,Za2,Za3,Za4,Za5,Za9,Zba,Zbb,Zbf,Zb7,Zc3,Zdi,Zev,Zew,Zez,Ze0,Ze1,Ze2,Ze3,Ze5,Zfc,Zfd,Zfe,Zfh,Zfn,Zfq,Zhb,Zhc,Ziu,Ziv,Ziw,Zi6,Zjh,Zji,Zjn,Zjs,Zj7,Zka,Zkx,Zky,Zk0,Zk1,Zlz,Zl2,Zm9,Zna,Znb,Znn,Zno,Znp,Zo7,eq_self,true_and,and_true,hw]
          tactic =>
          unfold NextL; refine ⟨(k - 1), [(0, 0), (1, 1), (2, 2)], _, by omega, ⟨i + 1, S, otF b S O T', (tkF T').1, b, H, fr0, ot, by omega, k1, by unfold otF; split; exact Ok.nil b; exact k3, TOk.tick hT2, hI8, rfl⟩, wkA ?_⟩
          unfold oC
          sym =>
          simp [Za2,Za3,Zez,Zfc,Znr,Zpa,Zpc,Zpg,Zpi,Zu7,Zpo,Zpu,Zqb,Zqc,Zqf,Zqg,Zqh,Zqi,Zqk,Zql,Zqm,Zqn,eq_self,true_and,and_true]
          tactic =>
          exact rs_self (cB_okI _)
        · sym =>
          simp [Zaa,Zab,Zae,Zaf,Zal,Zam,Zaz,Za0,Za1,Za2,Za3,Za5,Za9,Zba,Zbc,Zbe,Zbt,Zc7,Zc8,Zdc,Zdd,Zde,Zdj,Zdk,Zdo,Zdp,Zdq,Zdr,Zds,Zdt,Zdu,Zdv,Zd0,Zd1,Zd2,Zev,Zew,Zex,Zez,Ze0,Ze2,Ze5,Ze8,Zfc,Zfd,Zfe,Zfh,Zfi,Zfk,Zfl,Zgr,Zgs,Zgt,Zjw,Zla,Zlb,Zlc,Zld,Zle,Zlf,Zlh,Zlk,Zlm,Zlz,Zm5,Zm7,Zm9,Zna,Znb,Zne,Znf,Zng,Zo7,Zo9,eq_self,true_and,and_true,hbt,ids_mp,callable_35]
          tactic =>
          refine cl none (btick_con src t S O T' hT2) trivial ?_
          sym =>
          simp [Zab,Zam,Zap,Zav,Zaz,Za0,Za1,Za2,Za3,Za4,Za5,Za9,Zba,Zbb,Zbf,Zb7,Zc3,Zdi,Zev,Zew,Zez,Ze0,Ze1,Ze2,Ze3,Ze5,Zfc,Zfd,Zfe,Zfh,Zfn,Zfq,Zhb,Zhc,Ziu,Ziv,Ziw,Zi6,Zjh,Zji,Zjn,Zjs,Zj7,Zka,Zkx,Zky,Zk0,Zk1,Zlz,Zl2,Zm9,Zna,Znb,Znn,Zno,Znp,Zo7,eq_self,true_and,and_true,hw]
          tactic =>
          unfold NextL; refine ⟨(k - 1), [(0, 0), (1, 1), (2, 2)], _, by omega, ⟨i + 1, S, otF t S O T', (tkF T').1, b, H, fr0, ot, by omega, k1, by unfold otF; split; exact Ok.nil t; exact k3, TOk.tick hT2, hI8, rfl⟩, wkA ?_⟩
          unfold oC
          sym =>
          simp [Za2,Za3,Zez,Zfc,Znr,Zpa,Zpc,Zpg,Zpi,Zu7,Zpo,Zpu,Zqb,Zqc,Zqf,Zqg,Zqh,Zqi,Zqk,Zql,Zqm,Zqn,eq_self,true_and,and_true]
          tactic =>
          exact rs_self (cB_okI _)
      · sym =>
        simp [Zaa,Zab,Zal,Zam,Za0,Za1,Za2,Za3,Za5,Za9,Zba,Zbt,Zdc,Zdd,Zde,Zev,Zew,Zez,Ze0,Ze2,Ze5,Ze8,Zfc,Zfd,Zfe,Zgr,Zgs,Zgt,Zla,Zlb,Zlc,Zld,Zle,Zlf,Zlh,Zlk,Zlm,Zm5,Zm7,Zm9,Zna,Znb,Zne,Znf,Zng,Zo7,eq_self,true_and,and_true,callable_35]
        tactic =>
        refine cl none (btick_con src t s o2 T hT) trivial ?_
        sym =>
        simp [Zab,Zam,Zap,Zav,Zaz,Za0,Za1,Za2,Za3,Za4,Za5,Za9,Zba,Zbb,Zbf,Zb7,Zc3,Zdi,Zev,Zew,Zez,Ze0,Ze1,Ze2,Ze3,Ze5,Zfc,Zfd,Zfe,Zfh,Zfn,Zfq,Zhb,Zhc,Ziu,Ziv,Ziw,Zi6,Zjh,Zji,Zjn,Zjs,Zj7,Zka,Zkx,Zky,Zk0,Zk1,Zlz,Zl2,Zm9,Zna,Znb,Znn,Zno,Znp,Zo7,eq_self,true_and,and_true,hw]
        tactic =>
        unfold NextL; refine ⟨(k - 1), [(0, 0), (1, 1), (2, 2)], _, by omega, ⟨i + 1, s, otF t s o2 T, (tkF T).1, b, H, fr0, ot, by omega, hs, by unfold otF; split; exact Ok.nil t; exact pok.1, TOk.tick hT, hI8, rfl⟩, wkA ?_⟩
        unfold oC
        sym =>
        simp [Za2,Za3,Zez,Zfc,Znr,Zpa,Zpc,Zpg,Zpi,Zu7,Zpo,Zpu,Zqb,Zqc,Zqf,Zqg,Zqh,Zqi,Zqk,Zql,Zqm,Zqn,eq_self,true_and,and_true]
        tactic =>
        exact rs_self (cB_okI _)
  · have hgs : (got src b).length ≤ src.length := by have := hb.2; rw [et, ← hgl] at this; simp only [IN] at this; omega
    have hgt : List.take (got src b).length (cB src) = cB (got src b) := by
      rw [← cB_take]
      congr 1
      have : got src b = src.take b.toNat := by unfold got cutS; simp
      rw [this, List.length_take, Nat.min_eq_left (by have := hb.2; rw [et] at this; simp only [IN] at this; omega)]
    have cns := nsame_con (got src b) (got src b) (by omega)
    rw [decide_eq_true (rfl : got src b = got src b)] at cns
    generalize got src b = G at *
    have hgb : b = IN G.length := hgl.symm
    sym =>
    simp [Zab,Zad,Zae,Zaf,Zai,Zam,Zan,Zaq,Zaw,Zay,Za4,Za5,Za6,Za7,Za9,Zba,Zbb,Zbf,Zch,Zcn,Zdc,Zdd,Zde,Zev,Zew,Zex,Zez,Ze0,Ze2,Ze5,Zfc,Zfd,Zfe,Zfh,Zfn,Zf1,Zf2,Zgv,Zhm,Zhn,Zho,Zhs,Zht,Zhu,Zh6,Zh7,Zh9,Zla,Zlb,Zle,Zll,Zlt,Zlx,Zna,Znb,Zne,Znf,Zng,Znh,Zns,Znt,Znu,Znw,Zn5,Zrd,Zo7,Zo8,Zo9,eq_self,true_and,and_true,Nat.zero_add,Nat.mul_one,Nat.sub_zero,h,hgs,hgt,callable_22]
    tactic =>
    refine ⟨⟨by rw [cB_length]; exact Nat.le_refl _, cB_okI _⟩, ?_⟩
    rw [List.take_of_length_le (show (cB G).length ≤ G.length by rw [cB_length]; exact Nat.le_refl _)]
    refine cl none (cns) trivial ?_
    sym =>
    simp [Za5,Za6,Za7,Za9,Zba,Zbb,Zbd,Zbt,Zbv,Zdc,Zdd,Zde,Zdi,Zev,Zew,Zex,Zez,Ze0,Ze2,Ze5,Ze8,Zfc,Zfd,Zfe,Zfh,Zfi,Zfl,Zgr,Zgs,Zgt,Zgv,Zgw,Zgx,Zjw,Zla,Zlb,Zlc,Zld,Zle,Zlf,Zlh,Zlk,Zu3,Zlz,Zm5,Zm7,Zm9,Zna,Znb,Zne,Znf,Zng,eq_self,true_and,and_true,ids_mp,callable_26]
    tactic =>
    refine cl none (rbase_con t b H) trivial ?_
    sym =>
    simp [Za5,Za6,Za7,Za9,Zba,Zbb,Zbd,Zbf,Zcn,Zdc,Zdd,Zde,Zdi,Zev,Zew,Zex,Zez,Ze0,Ze2,Ze5,Zfc,Zfd,Zfe,Zfh,Zfi,Zfl,Zfn,Zfz,Zgv,Zh6,Zh9,Zjr,Zla,Zlz,Zne,Znf,Zo8,eq_self,true_and,hgb,callable_11]
    tactic =>
    refine cl none (ialive_con) trivial ?_
    sym =>
    simp [Zak,Zam,Zaz,Za0,Za1,Za2,Za3,Za4,Za5,Za9,Zba,Zbb,Zbd,Zdi,Zev,Zew,Zez,Ze0,Ze2,Zfd,Zfe,Zfh,Zfi,Zfl,Zjw,Zlz,Zmt,Zmv,Zmw,Zmx,Zmz,Zm2,Zo7,eq_self,true_and]
    tactic =>
    refine endA ?_
    sym =>
    simp [Zpc,eq_self]
theorem flat_cU : ∀ l : List Int, (l.flatMap fun n : Int => [AV.sc (.int .u16 n)]) = cU l
  | [] => rfl
  | n :: l => by rw [List.flatMap_cons, flat_cU l]; rfl
theorem talks_law (src l : List Int) : Con Try.prog 9 [] [.fz src.length (src.flatMap fun n : Int => [AV.sc (.int .u8 n)]), .fz l.length (l.flatMap fun n : Int => [AV.sc (.int .u16 n)])] [] (Bo true) := by
  rw [flat_cB, flat_cU]
  exact talks_con src l
end Go.Proofs.Ytbmdahhhgpbchaa.InC
