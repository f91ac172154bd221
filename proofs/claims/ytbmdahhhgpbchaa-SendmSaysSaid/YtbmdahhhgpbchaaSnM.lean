import Derived.Test.YtbmdahhhgpbchaaSnJ
namespace Go.Proofs.Ytbmdahhhgpbchaa.SnM
open Go Go.Sim Go.Sim.E Go.RowKit Go.Proofs Go.Proofs.Ytbmdahhhgpbchaa.Cod Go.Proofs.Ytbmdahhhgpbchaa.Tab Go.Proofs.Ytbmdahhhgpbchaa.Bse Go.Proofs.Ytbmdahhhgpbchaa.SpnP Go.Proofs.Ytbmdahhhgpbchaa.SwA Go.Proofs.Ytbmdahhhgpbchaa.SwB Go.Proofs.Ytbmdahhhgpbchaa.SwC Go.Proofs.Ytbmdahhhgpbchaa.SwS Go.Proofs.Ytbmdahhhgpbchaa.SwD Go.Proofs.Ytbmdahhhgpbchaa.SwF Go.Proofs.Ytbmdahhhgpbchaa.SwG Go.Proofs.Ytbmdahhhgpbchaa.SwL Go.Proofs.Ytbmdahhhgpbchaa.ObA Go.Proofs.Ytbmdahhhgpbchaa.ObB Go.Proofs.Ytbmdahhhgpbchaa.ObC Go.Proofs.Ytbmdahhhgpbchaa.SnA Go.Proofs.Ytbmdahhhgpbchaa.SnB Go.Proofs.Ytbmdahhhgpbchaa.SnC Go.Proofs.Ytbmdahhhgpbchaa.SnD Go.Proofs.Ytbmdahhhgpbchaa.SnE Go.Proofs.Ytbmdahhhgpbchaa.SnF Go.Proofs.Ytbmdahhhgpbchaa.SnG Go.Proofs.Ytbmdahhhgpbchaa.SnH Go.Proofs.Ytbmdahhhgpbchaa.DgA Go.Proofs.Ytbmdahhhgpbchaa.DgB Go.Proofs.Ytbmdahhhgpbchaa.SnI Go.Proofs.Ytbmdahhhgpbchaa.SnJ
set_option linter.unusedVariables false
set_option linter.unusedSimpArgs false
set_option maxRecDepth 100000
set_option maxHeartbeats 4000000
/-- A sender as SendmSays meets it. -/
structure SInv (src : List Int) (x : Sn) : Prop where
  inv : Inv x
  hsrc : x.src = src
  hst : 1 ≤ x.st ∧ x.st ≤ 5
  hcd : x.st ≠ 5 → x.cd = 0
  hos : x.st = 2 → x.os = src
  hes : 0 ≤ x.es ∧ x.es < 4294967296
  her : 0 ≤ x.er ∧ x.er < 4294967296
  hsu : byt8 x.su.1
/-- A frame that may be said. -/
structure FG (src : List Int) (x : Sn) (f : Fm) : Prop where
  t : f.t = x.tk
  es : f.es = x.es
  er : f.er = x.er
  su : f.su = x.su ∨ f.su = SnA.z32
  r : f.r = []
  k : ((f.k = 1 ∨ f.k = 5) ∧ f.d = []) ∨ (f.k = 3 ∧ 0 < f.d.length ∧ f.d.length ≤ 256 ∧ 0 ≤ f.o ∧ f.o + f.d.length ≤ src.length ∧ f.d = (src.drop f.o.toNat).take f.d.length)
theorem wh_good {src : List Int} {x y : Sn} (k : Int) (hk : k = 1 ∨ k = 5) (h1 : y.tk = x.tk) (h2 : y.es = x.es) (h3 : y.er = x.er) (h4 : y.su = x.su) : FG src y (whF x k) :=
  ⟨h1.symm, h2.symm, h3.symm, .inl h4.symm, rfl, .inl ⟨hk, rfl⟩⟩
theorem pi_says {src : List Int} {x : Sn} (h : Inv x) (hos : x.os = src) : (∀ f ∈ (piF x).2, FG src (piF x).1 f) ∧ (piF x).2.length ≤ 8 := by
  have hb := h.bd
  have ht : 0 ≤ x.t ∧ x.t ≤ 1099511627776 := by omega
  have bs := h.s.base hb.1
  have pok := poll_ok (s := x.s) (b := endF (lim 0) x.s) ht 9 x.o h.o
  have pln := poll_len (s := x.s) ht bs.1 h.o 9
  refine ⟨fun f hf => ?_, by unfold piF; rw [List.length_map]; exact pln⟩
  unfold piF at hf
  obtain ⟨r, hr, rfl⟩ := List.mem_map.1 hf
  obtain ⟨v1, v2, v3, v4⟩ := pok.2 r hr
  have hw : IntKind.u64.wrap r.1 = r.1 := by rw [wu64]; omega
  have hln : x.t = (x.os.length : Int) := by rw [h.t]; rfl
  have hpl : (pc x.os r).length = r.2.toNat - r.1.toNat := by
    simp only [pc, List.length_take, List.length_drop]
    omega
  refine ⟨rfl, rfl, rfl, .inr rfl, rfl, .inr ⟨rfl, ?_, ?_, ?_, ?_, ?_⟩⟩
  · show 0 < (pc x.os r).length
    omega
  · show (pc x.os r).length ≤ 256
    omega
  · show 0 ≤ IntKind.u64.wrap r.1
    omega
  · show IntKind.u64.wrap r.1 + ((pc x.os r).length : Int) ≤ src.length
    rw [hw, ← hos]
    omega
  · show pc x.os r = (src.drop (IntKind.u64.wrap r.1).toNat).take (pc x.os r).length
    rw [hw, hpl, ← hos]
    rfl
theorem on_says {src : List Int} {x : Sn} (h : SInv src x) (h2 : x.st = 2) : SInv src (onF x).1 ∧ (∀ f ∈ (onF x).2, FG src (onF x).1 f) ∧ (onF x).2.length ≤ 8 := by
  have hi := onF_inv h.inv
  have hc := h.hcd (by omega)
  unfold onF at hi ⊢
  split
  · rename_i h0
    rw [if_pos h0] at hi
    refine ⟨⟨hi, h.hsrc, by show 1 ≤ (3 : Int) ∧ (3 : Int) ≤ 5; omega, fun _ => hc, fun e => ?_, h.hes, h.her, h.hsu⟩, fun f hf => ?_, by simp⟩
    · exact absurd e (by show ¬ (3 : Int) = 2; omega)
    · rw [List.mem_singleton.1 hf]
      exact wh_good 5 (.inr rfl) rfl rfl rfl rfl
  · rename_i h0
    rw [if_neg h0] at hi
    obtain ⟨p1, p2⟩ := pi_says h.inv (h.hos h2)
    exact ⟨⟨hi, h.hsrc, h.hst, h.hcd, h.hos, h.hes, h.her, h.hsu⟩, p1, p2⟩
theorem fi_says {src : List Int} {x : Sn} (h : SInv src x) (k : Int) (hk : k = 1 ∨ k = 5) : SInv src (fiF x k).1 ∧ (∀ f ∈ (fiF x k).2, FG src (fiF x k).1 f) ∧ (fiF x k).2.length ≤ 8 := by
  refine ⟨⟨fiF_inv h.inv k, h.hsrc, h.hst, h.hcd, h.hos, h.hes, h.her, h.hsu⟩, fun f hf => ?_, ?_⟩
  · unfold fiF at hf
    simp only at hf
    split at hf
    · rw [List.mem_singleton.1 hf]; exact wh_good k hk rfl rfl rfl rfl
    · cases hf
  · unfold fiF
    simp only
    split <;> simp
theorem tc_says {src : List Int} {x : Sn} (h : SInv src x) : SInv src (tcF x).1 ∧ (∀ f ∈ (tcF x).2, FG src (tcF x).1 f) ∧ (tcF x).2.length ≤ 8 ∧ (3 < x.st → tcF x = (x, [])) := by
  unfold tcF
  split
  · obtain ⟨a, b, c⟩ := fi_says h 1 (.inl rfl)
    exact ⟨a, b, c, by omega⟩
  · split
    · rename_i h2
      have hi : Inv {x with o := otF x.t x.s x.o x.T, T := (tkF x.T).1} := ⟨h.inv.src, h.inv.os, h.inv.t, h.inv.s, otF_ok (s := x.s) h.inv.o, h.inv.T.tick, h.inv.T2⟩
      obtain ⟨p1, p2⟩ := pi_says hi (h.hos h2)
      exact ⟨⟨piF_inv hi, h.hsrc, h.hst, h.hcd, h.hos, h.hes, h.her, h.hsu⟩, p1, p2, by omega⟩
    · split
      · obtain ⟨a, b, c⟩ := fi_says h 5 (.inr rfl)
        exact ⟨a, b, c, by omega⟩
      · exact ⟨h, by simp, by simp, fun _ => rfl⟩
theorem rs_says {src : List Int} {x : Sn} (h : SInv src x) (f : Fm) (hf : 0 ≤ f.er ∧ f.er < 4294967296) (h3 : x.st ≤ 3) : SInv src (rsF x f).1 ∧ (∀ g ∈ (rsF x f).2, FG src (rsF x f).1 g) ∧ (rsF x f).2.length ≤ 8 := by
  have hc := h.hcd (by omega)
  unfold rsF
  split
  · exact ⟨h, by simp, by simp⟩
  · split
    · exact ⟨h, by simp, by simp⟩
    · split
      · exact ⟨h, by simp, by simp⟩
      · rename_i hp
        have hp : plF (IN x.src.length) (IntKind.i64.wrap f.o) = true := by simpa using hp
        have hs := h.inv.src
        have hb : 0 ≤ IN x.src.length ∧ IN x.src.length ≤ 1099511627776 := by simp only [IN]; omega
        exact on_says ⟨⟨h.inv.src, h.inv.src, rfl, ((Ok.nil (IN x.src.length)).add hb 0 _ ((plF_iff _ _).1 hp).2.1).1, Ok.nil _, TOk.timed TOk.one, h.inv.T2⟩, h.hsrc, by show 1 ≤ (2 : Int) ∧ (2 : Int) ≤ 5; omega, fun _ => hc, fun _ => h.hsrc, h.hes, hf, h.hsu⟩ rfl
theorem sk_says {src : List Int} {x : Sn} (h : SInv src x) (f : Fm) : SInv src (skF x f).1 ∧ (∀ g ∈ (skF x f).2, FG src (skF x f).1 g) ∧ (skF x f).2.length ≤ 8 := by
  have hb := h.inv.bd
  obtain ⟨k1, k2, _⟩ := ac_ok (IntKind.i64.wrap f.o) (spF f.r) (by omega : 0 ≤ x.t ∧ x.t ≤ 1099511627776) h.inv.s h.inv.o
  unfold skF
  split
  · exact ⟨h, by simp, by simp⟩
  · rename_i h2
    have h2 : x.st = 2 := Decidable.byContradiction h2
    split
    · exact ⟨h, by simp, by simp⟩
    · split
      · exact ⟨h, by simp, by simp⟩
      · split
        · exact ⟨h, by simp, by simp⟩
        · split
          · exact on_says ⟨⟨h.inv.src, h.inv.os, h.inv.t, k1, k2, acT_ok h.inv.T, h.inv.T2⟩, h.hsrc, h.hst, h.hcd, h.hos, h.hes, h.her, h.hsu⟩ h2
          · exact ⟨⟨⟨h.inv.src, h.inv.os, h.inv.t, k1, k2, acT_ok h.inv.T, h.inv.T2⟩, h.hsrc, h.hst, h.hcd, h.hos, h.hes, h.her, h.hsu⟩, by simp, by simp⟩
theorem ta_says {src : List Int} {x : Sn} (h : SInv src x) (f : Fm) (hf : 0 ≤ f.er ∧ f.er < 4294967296) : SInv src (taF x f).1 ∧ (∀ g ∈ (taF x f).2, FG src (taF x f).1 g) ∧ (taF x f).2.length ≤ 8 ∧ (3 < x.st → taF x f = (x, [])) := by
  have hi := h.inv
  have hst := h.hst
  have hw : ∀ st cd, 1 ≤ st ∧ st ≤ 5 → (st ≠ 5 → cd = 0) → (st = 2 → x.st = 2) → SInv src {x with st := st, cd := cd} := fun st cd a b c =>
    ⟨⟨hi.src, hi.os, hi.t, hi.s, hi.o, hi.T, hi.T2⟩, h.hsrc, a, b, fun e => h.hos (c e), h.hes, h.her, h.hsu⟩
  unfold taF
  split
  · exact ⟨h, by simp, by simp, fun _ => rfl⟩
  · split
    · exact ⟨h, by simp, by simp, fun _ => rfl⟩
    · rename_i h3
      split
      · exact ⟨h, by simp, by simp, fun _ => rfl⟩
      · split
        · exact ⟨h, by simp, by simp, fun _ => rfl⟩
        · split
          · obtain ⟨a, b, c⟩ := rs_says h f hf (by omega)
            exact ⟨a, b, c, fun e => absurd e h3⟩
          · split
            · obtain ⟨a, b, c⟩ := sk_says h f
              exact ⟨a, b, c, fun e => absurd e h3⟩
            · split
              · exact ⟨hw 5 f.c (by omega) (by omega) (by omega), by simp, by simp, fun e => absurd e h3⟩
              · split
                · split
                  · exact ⟨h, by simp, by simp, fun _ => rfl⟩
                  · exact ⟨hw 4 0 (by omega) (fun _ => rfl) (by omega), by simp, by simp, fun e => absurd e h3⟩
                · exact ⟨hw x.st 0 hst (fun _ => rfl) id, by simp, by simp, fun e => absurd e h3⟩
theorem dig_byt (b : List Int) : byt8 (digestF b) := by
  intro x hx
  unfold digestF out32 at hx
  obtain ⟨i, _, rfl⟩ := List.mem_map.1 hx
  rw [w8u]
  omega
theorem new_says (src : List Int) (tk : V 16) (s : Int) (h0 : src.length ≤ 6000) (hs : 0 ≤ s ∧ s < 4294967296) : SInv src (newS src tk s) :=
  ⟨newS_inv src tk s h0, rfl, by show 1 ≤ (1 : Int) ∧ (1 : Int) ≤ 5; omega, fun _ => rfl, fun e => absurd e (by show ¬ (1 : Int) = 2; omega), hs, by show 0 ≤ (0 : Int) ∧ (0 : Int) < 4294967296; omega, dig_byt src⟩
end Go.Proofs.Ytbmdahhhgpbchaa.SnM
