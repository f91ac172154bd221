import Derived.Test.YtbmdahhhgpbchaaSnA
import Derived.Test.YtbmdahhhgpbchaaCodE
namespace Go.Proofs.Ytbmdahhhgpbchaa.SnB
open Go Go.Sim Go.Sim.E Go.RowKit Go.Proofs Go.Proofs.Ytbmdahhhgpbchaa.Cod Go.Proofs.Ytbmdahhhgpbchaa.Tab Go.Proofs.Ytbmdahhhgpbchaa.Bse Go.Proofs.Ytbmdahhhgpbchaa.SpnP Go.Proofs.Ytbmdahhhgpbchaa.SwA Go.Proofs.Ytbmdahhhgpbchaa.SwB Go.Proofs.Ytbmdahhhgpbchaa.SwC Go.Proofs.Ytbmdahhhgpbchaa.SwS Go.Proofs.Ytbmdahhhgpbchaa.SwD Go.Proofs.Ytbmdahhhgpbchaa.SwF Go.Proofs.Ytbmdahhhgpbchaa.SwG Go.Proofs.Ytbmdahhhgpbchaa.SwL Go.Proofs.Ytbmdahhhgpbchaa.ObA Go.Proofs.Ytbmdahhhgpbchaa.ObB Go.Proofs.Ytbmdahhhgpbchaa.ObC Go.Proofs.Ytbmdahhhgpbchaa.SnA
set_option linter.unusedVariables false
set_option linter.unusedSimpArgs false
set_option maxRecDepth 100000
set_option maxHeartbeats 4000000
/-! ### frames -/
structure Fm where
  k : Int
  t : V 16
  es : Int
  er : Int
  o : Int
  n : Int
  su : V 32
  d : List Int
  r : List Rg
  c : Int
def eQ (p : Rg) : List AV := [L p.1, L p.2]
def cQ (l : List Rg) : List AV := l.flatMap eQ
abbrev fQ (l : List Rg) : AV := .fz l.length (cQ l)
theorem cQ_length (l : List Rg) : (cQ l).length = l.length * 2 := flat_length eQ 2 l (fun _ _ => rfl)
theorem cQ_append (a b : List Rg) : cQ (a ++ b) = cQ a ++ cQ b := by simp [cQ]
theorem cQ_snoc (l : List Rg) (r : Rg) : cQ (l ++ [r]) = cQ l ++ [L r.1, L r.2] := by rw [cQ_append]; rfl
theorem cQ_okI (l : List Rg) : okI (cQ l) := okI_flat (fun a => by simp [eQ, okI, isF]) l
theorem cQ_okF (l : List Rg) : okF (cQ l) := okF_flat (fun a => by simp [eQ, okF, okf]) l
theorem cQ_q (l : List Rg) (i : Nat) (h : i < l.length) (j : Nat) (hj : j < 2) : (cQ l).getD (i * 2 + j) .un = (eQ l[i]).getD j .un := by
  have := flat_at eQ (s := 2) l (fun _ _ => rfl) i j h hj
  rw [List.getD_eq_getElem?_getD, cQ, this, List.getD_eq_getElem?_getD, List.getD_eq_getElem?_getD, List.getElem?_eq_getElem h]
  rfl
theorem cQ_q0 (l : List Rg) (i : Nat) (h : i < l.length) : (cQ l).getD (i * 2) .un = L l[i].1 := cQ_q l i h 0 (by decide)
theorem cQ_q1 (l : List Rg) (i : Nat) (h : i < l.length) : (cQ l).getD (i * 2 + 1) .un = L l[i].2 := cQ_q l i h 1 (by decide)
theorem cQ_all (l : List Rg) : List.take (l.length * 2) (cQ l) = cQ l := List.take_of_length_le (by rw [cQ_length]; exact Nat.le_refl _)
def fr (f : Fm) : List AV := fc f.k f.t f.es f.er f.o f.n f.su (fB f.d) (fQ f.r) f.c
def cF (l : List Fm) : List AV := l.flatMap fr
theorem fr_len (f : Fm) : (fr f).length = 56 := fc_len ..
@[simp] theorem cF_length (l : List Fm) : (cF l).length = l.length * 56 := flat_length fr 56 l (fun f _ => fr_len f)
/-- A sender. -/
structure Sn where
  st : Int
  cd : Int
  src : List Int
  su : V 32
  tk : V 16
  es : Int
  er : Int
  os : List Int
  t : Int
  s : List Rg
  o : List Rg
  T : Tm
  T2 : Tm
end Go.Proofs.Ytbmdahhhgpbchaa.SnB
