import Derived.Test.YtbmdahhhgpbchaaSnB
namespace Go.Proofs.Ytbmdahhhgpbchaa.SnC
open Go Go.Sim Go.Sim.E Go.RowKit Go.Proofs Go.Proofs.Ytbmdahhhgpbchaa.Cod Go.Proofs.Ytbmdahhhgpbchaa.Tab Go.Proofs.Ytbmdahhhgpbchaa.Bse Go.Proofs.Ytbmdahhhgpbchaa.SpnP Go.Proofs.Ytbmdahhhgpbchaa.SwA Go.Proofs.Ytbmdahhhgpbchaa.SwB Go.Proofs.Ytbmdahhhgpbchaa.SwC Go.Proofs.Ytbmdahhhgpbchaa.SwS Go.Proofs.Ytbmdahhhgpbchaa.SwD Go.Proofs.Ytbmdahhhgpbchaa.SwF Go.Proofs.Ytbmdahhhgpbchaa.SwG Go.Proofs.Ytbmdahhhgpbchaa.SwL Go.Proofs.Ytbmdahhhgpbchaa.ObA Go.Proofs.Ytbmdahhhgpbchaa.ObB Go.Proofs.Ytbmdahhhgpbchaa.ObC Go.Proofs.Ytbmdahhhgpbchaa.SnA Go.Proofs.Ytbmdahhhgpbchaa.SnB
set_option linter.unusedVariables false
set_option linter.unusedSimpArgs false
set_option maxRecDepth 100000
set_option maxHeartbeats 4000000
structure Inv (x : Sn) : Prop where
  src : x.src.length ≤ 6000
  os : x.os.length ≤ 6000
  t : x.t = IN x.os.length
  s : Ok x.t x.s
  o : Ok x.t x.o
  T : TOk x.T
  T2 : TOk x.T2
theorem Inv.bd {x : Sn} (h : Inv x) : 0 ≤ x.t ∧ x.t ≤ 6000 := by
  have := h.os
  rw [h.t]; simp only [IN]; omega
def pcF (x : Sn) (r : Rg) : Fm := ⟨3, x.tk, x.es, x.er, IntKind.u64.wrap r.1, 0, z32, pc x.os r, [], 0⟩
def piF (x : Sn) : Sn × List Fm := ({x with o := (pollF x.t x.s (endF (lim 0) x.s) 9 x.o).2}, (pollF x.t x.s (endF (lim 0) x.s) 9 x.o).1.map (pcF x))
def fiF (x : Sn) (k : Int) : Sn × List Fm := ({x with T2 := (tkF x.T2).1}, if (tkF x.T2).2 = true then [whF x k] else [])
def tcF (x : Sn) : Sn × List Fm :=
  if x.st = 1 then fiF x 1
  else if x.st = 2 then piF {x with o := otF x.t x.s x.o x.T, T := (tkF x.T).1}
  else if x.st = 3 then fiF x 5
  else (x, [])
def onF (x : Sn) : Sn × List Fm :=
  if lfF x.t x.s = 0 then ({x with st := 3, T2 := oneT}, [whF x 5]) else piF x
def rsF (x : Sn) (f : Fm) : Sn × List Fm :=
  if ¬ (x.er < f.er ∨ (x.st = 1 ∧ f.er = x.er)) then (x, [])
  else if 4611686018427387904 < f.o then (x, [])
  else if plF (IN x.src.length) (IntKind.i64.wrap f.o) = false then (x, [])
  else onF {x with os := x.src, t := IN x.src.length, s := addS [] 0 (IntKind.i64.wrap f.o), o := [], T := tmF (IN x.src.length) (addS [] 0 (IntKind.i64.wrap f.o)) oneT, er := f.er, st := 2}
def spF (l : List Rg) : List Rg := (l.filter fun r => decide (max r.1 r.2 ≤ 4611686018427387904)).map fun r => (IntKind.i64.wrap r.1, IntKind.i64.wrap r.2)
def skF (x : Sn) (f : Fm) : Sn × List Fm :=
  if x.st ≠ 2 then (x, [])
  else if f.es ≠ x.es then (x, [])
  else if f.er ≠ x.er then (x, [])
  else if 4611686018427387904 < f.o then (x, [])
  else if acM x.t x.s (IntKind.i64.wrap f.o) (spF f.r) = true then
    onF {x with s := acS x.t x.s (IntKind.i64.wrap f.o) (spF f.r), o := acO x.t x.s x.o (IntKind.i64.wrap f.o) (spF f.r), T := acT x.t x.s (IntKind.i64.wrap f.o) (spF f.r) x.T}
  else ({x with s := acS x.t x.s (IntKind.i64.wrap f.o) (spF f.r), o := acO x.t x.s x.o (IntKind.i64.wrap f.o) (spF f.r), T := acT x.t x.s (IntKind.i64.wrap f.o) (spF f.r) x.T}, [])
def taF (x : Sn) (f : Fm) : Sn × List Fm :=
  if x.st < 1 then (x, [])
  else if 3 < x.st then (x, [])
  else if f.t ≠ x.tk then (x, [])
  else if f.es ≠ x.es then (x, [])
  else if f.k = 2 then rsF x f
  else if f.k = 4 then skF x f
  else if f.k = 7 then ({x with st := 5, cd := f.c}, [])
  else if f.k = 6 then (if f.n ≠ IN x.src.length then (x, []) else ({x with st := 4, cd := 0}, []))
  else ({x with cd := 0}, [])
theorem piF_inv {x : Sn} (h : Inv x) : Inv (piF x).1 := by
  have hb := h.bd
  exact ⟨h.src, h.os, h.t, h.s, (poll_ok (by omega : 0 ≤ x.t ∧ x.t ≤ 1099511627776) 9 x.o h.o).1, h.T, h.T2⟩
theorem fiF_inv {x : Sn} (h : Inv x) (k : Int) : Inv (fiF x k).1 := ⟨h.src, h.os, h.t, h.s, h.o, h.T, h.T2.tick⟩
theorem otF_ok {t : Int} {s o : List Rg} {T : Tm} (ho : Ok t o) : Ok t (otF t s o T) := by
  unfold otF
  split
  · exact Ok.nil t
  · exact ho
theorem tcF_inv {x : Sn} (h : Inv x) : Inv (tcF x).1 := by
  unfold tcF
  split
  · exact fiF_inv h 1
  · split
    · exact piF_inv ⟨h.src, h.os, h.t, h.s, otF_ok (s := x.s) h.o, h.T.tick, h.T2⟩
    · split
      · exact fiF_inv h 5
      · exact h
theorem onF_inv {x : Sn} (h : Inv x) : Inv (onF x).1 := by
  unfold onF
  split
  · exact ⟨h.src, h.os, h.t, h.s, h.o, h.T, TOk.one⟩
  · exact piF_inv h
theorem acT_ok {t : Int} {s : List Rg} {off : Int} {l : List Rg} {T : Tm} (h : TOk T) : TOk (acT t s off l T) := by
  refine TOk.timed ?_
  split
  · exact h.again
  · exact h
theorem rsF_inv {x : Sn} (h : Inv x) (f : Fm) : Inv (rsF x f).1 := by
  unfold rsF
  split
  · exact h
  · split
    · exact h
    · split
      · exact h
      · rename_i hp
        have hp : plF (IN x.src.length) (IntKind.i64.wrap f.o) = true := by simpa using hp
        have hs := h.src
        refine onF_inv ⟨h.src, h.src, rfl, ?_, Ok.nil _, TOk.timed TOk.one, h.T2⟩
        have hb : 0 ≤ IN x.src.length ∧ IN x.src.length ≤ 1099511627776 := by simp only [IN]; omega
        exact ((Ok.nil (IN x.src.length)).add hb 0 _ ((plF_iff _ _).1 hp).2.1).1
theorem skF_inv {x : Sn} (h : Inv x) (f : Fm) : Inv (skF x f).1 := by
  have hb := h.bd
  obtain ⟨k1, k2, _⟩ := ac_ok (IntKind.i64.wrap f.o) (spF f.r) (by omega : 0 ≤ x.t ∧ x.t ≤ 1099511627776) h.s h.o
  unfold skF
  split
  · exact h
  · split
    · exact h
    · split
      · exact h
      · split
        · exact h
        · split
          · exact onF_inv ⟨h.src, h.os, h.t, k1, k2, acT_ok h.T, h.T2⟩
          · exact ⟨h.src, h.os, h.t, k1, k2, acT_ok h.T, h.T2⟩
theorem taF_inv {x : Sn} (h : Inv x) (f : Fm) : Inv (taF x f).1 := by
  have h' : ∀ st cd, Inv {x with st := st, cd := cd} := fun st cd => ⟨h.src, h.os, h.t, h.s, h.o, h.T, h.T2⟩
  unfold taF
  split
  · exact h
  · split
    · exact h
    · split
      · exact h
      · split
        · exact h
        · split
          · exact rsF_inv h f
          · split
            · exact skF_inv h f
            · split
              · exact h' _ _
              · split
                · split
                  · exact h
                  · exact h' _ _
                · exact h' _ _
def i12 (l : List Rg) (k : Nat) (q : St) : Prop := ∃ i : Nat, i + k = l.length ∧
  q = ⟨[(3, .lv 0 0 (spF (l.take i)).length), (6, fQ l), (7, I (IN l.length)), (8, I (IN i))], [(0, ⟨cR (spF (l.take i)), 2, 0⟩)], 1⟩
theorem spans_con (l : List Rg) (hl : l.length ≤ 1000000) : Con Try.prog 12 [] [fQ l] [] (fR (spF l)) := by
  refine con_j b12 rfl ?_
  sym =>
  simp [Zab,Zad,Zag,Zah,Zam,Zay,Zaz,Za0,Za1,Za2,Za3,Za4,Za5,Za9,Zba,Zbb,Zcn,Zev,Zew,Zez,Ze0,Ze2,Ze5,Zfd,Zfe,Zfh,Zh6,Zh7,Zna,Znb,Zos,Zot,Zo7,List.length_map,eq_self,true_and,not_false_eq_true]
  tactic =>
  refine lpA (i12 l) l.length [] _ ⟨0, by omega, rfl⟩ (wkA ?_) ?_
  · sym =>
    simp [Zez,Zfb,Zfc,Znr,Zn5,Zpc,Zpi,Zpr,Zqf,Zqg,Zqh,Zqi,Zqj,Zqm,eq_self,true_and,and_true]
    tactic =>
    exact ⟨rfl, rfl⟩
  rintro k q ⟨i, hi, rfl⟩
  have hsl : (spF (l.take i)).length ≤ i := by
    unfold spF
    rw [List.length_map]
    exact Nat.le_trans (List.length_filter_le _ _) (by simp; omega)
  by_cases h : i < l.length
  · have hw := w64s i (by omega)
    have h0 := cQ_q0 l i h
    have h1 := cQ_q1 l i h
    have et : spF (l.take (i + 1)) = if max l[i].1 l[i].2 ≤ 4611686018427387904 then spF (l.take i) ++ [(IntKind.i64.wrap l[i].1, IntKind.i64.wrap l[i].2)] else spF (l.take i) := by
      rw [take_one l i h]
      unfold spF
      rw [List.filter_append, List.map_append]
      by_cases hc : max l[i].1 l[i].2 ≤ 4611686018427387904 <;> simp [hc, List.filter_cons]
    by_cases hc : max l[i].1 l[i].2 ≤ 4611686018427387904
    · rw [if_pos hc] at et
      sym =>
      simp [Zaa,Zab,Zad,Zae,Zaf,Zag,Zal,Zam,Zap,Zav,Zay,Zaz,Za0,Za1,Za2,Za3,Za4,Za5,Za9,Zba,Zbb,Zbf,Zbl,Zbt,Zbv,Zb1,Zb9,Zcr,Zcv,Zcz,Zc3,Zc5,Zev,Zew,Zez,Ze0,Ze1,Ze2,Ze3,Ze4,Ze5,Ze8,Zfc,Zfd,Zfe,Zff,Zfg,Zfh,Zfn,Zfq,Zf1,Zf2,Zgh,Zgi,Zgr,Zgs,Zgt,Zgu,Zgv,Zgw,Zgx,Zg4,Zg6,Zhd,Zhe,Zhf,Zhg,Zhh,Zho,Zie,Zig,Zih,Zii,Zij,Zin,Ziq,Zir,Ziu,Ziv,Ziw,Zix,Ziz,Zi0,Zi2,Zi3,Zi6,Zi7,Zjh,Zji,Zjj,Zjk,Zjn,Zjo,Zm5,Zm6,Zm7,Zm9,Zna,Znb,Znf,Zng,Znh,Znl,Znm,Znn,Zno,Znp,Zns,Znt,Znw,Zo7,Zo8,List.length_append,eq_self,true_and,and_true,h,h0,h1,hw,hc,cQ_length]
      tactic =>
      refine ⟨by omega, by omega, ⟨by omega, by omega, by simp, by omega⟩, ?_⟩
      unfold NextL; refine ⟨(k - 1), [(0, 21)], _, by omega, ⟨i + 1, by omega, rfl⟩, wkA ?_⟩
      rw [et]
      rw [List.length_append, cR_append]
      sym =>
      simp [Za2,Zez,Zfc,Zna,Znb,Znr,Zpc,Zpi,Zpo,Zqf,Zqg,Zqh,Zqi,Zqk,Zql,Zqm,Zqn,eq_self,true_and,and_true]
      tactic =>
      exact rs_self (by have := cR_okI (spF (l.take i) ++ [(IntKind.i64.wrap l[i].1, IntKind.i64.wrap l[i].2)]); rw [cR_snoc] at this; exact this)
    · rw [if_neg hc] at et
      sym =>
      simp [Zaa,Zab,Zad,Zae,Zaf,Zag,Zal,Zam,Zap,Zav,Zay,Zaz,Za0,Za1,Za2,Za3,Za4,Za5,Za9,Zba,Zbb,Zbf,Zbt,Zbv,Zb1,Zcr,Zcv,Zc3,Zev,Zew,Zez,Ze0,Ze1,Ze2,Ze3,Ze5,Ze8,Zfc,Zfd,Zfe,Zfh,Zfn,Zfq,Zf1,Zf2,Zgr,Zgs,Zgt,Zgu,Zgv,Zgw,Zgx,Zg4,Zg6,Zho,Zie,Zig,Zih,Zii,Zij,Zin,Ziu,Ziv,Ziw,Zi6,Zjh,Zji,Zjn,Zm5,Zm6,Zm7,Zm9,Zna,Znb,Znf,Zng,Znn,Zno,Znp,Zns,Znt,Znw,Zo7,Zo8,Zo9,eq_self,true_and,and_true,h,h0,h1,hw,hc,cQ_length]
      tactic =>
      refine ⟨by omega, by omega, ?_⟩
      unfold NextL; refine ⟨(k - 1), [(0, 0)], _, by omega, ⟨i + 1, by omega, rfl⟩, wkA ?_⟩
      rw [et]
      sym =>
      simp [Za2,Zez,Zfc,Znr,Zpc,Zpi,Zpo,Zqf,Zqg,Zqh,Zqi,Zqk,Zql,Zqm,Zqn,eq_self,true_and,and_true]
      tactic =>
      exact rs_self (cR_okI _)
  · have e : l.take i = l := List.take_of_length_le (by omega)
    rw [e]
    sym =>
    simp [Zab,Zad,Zae,Zaf,Zai,Zak,Zam,Zan,Zaq,Zaw,Zay,Zaz,Za0,Za1,Za2,Za3,Za4,Za5,Za9,Zba,Zbb,Zbf,Zev,Zez,Ze0,Ze2,Zfd,Zfe,Zfh,Zfn,Zf1,Zmt,Zmv,Zmw,Zmx,Zmz,Zm2,Zna,Znb,Znt,Zo7,Zo9,eq_self,true_and,h]
    tactic =>
    refine endA ?_
    sym =>
    simp [Zfc,Znh,Zp0,Zp1,Zp2,eq_self,true_and,and_true,Nat.zero_add]
    tactic =>
    exact ⟨(List.take_of_length_le (by simp)).symm, by simp, cR_okI _⟩
end Go.Proofs.Ytbmdahhhgpbchaa.SnC
