import Derived.Test.YtbmdahhhgpbchaaSnJ
namespace Go.Proofs.Ytbmdahhhgpbchaa.SnK
open Go Go.Sim Go.Sim.E Go.RowKit Go.Proofs Go.Proofs.Ytbmdahhhgpbchaa.Cod Go.Proofs.Ytbmdahhhgpbchaa.Tab Go.Proofs.Ytbmdahhhgpbchaa.Bse Go.Proofs.Ytbmdahhhgpbchaa.SpnP Go.Proofs.Ytbmdahhhgpbchaa.SwA Go.Proofs.Ytbmdahhhgpbchaa.SwB Go.Proofs.Ytbmdahhhgpbchaa.SwC Go.Proofs.Ytbmdahhhgpbchaa.SwS Go.Proofs.Ytbmdahhhgpbchaa.SwD Go.Proofs.Ytbmdahhhgpbchaa.SwF Go.Proofs.Ytbmdahhhgpbchaa.SwG Go.Proofs.Ytbmdahhhgpbchaa.SwL Go.Proofs.Ytbmdahhhgpbchaa.ObA Go.Proofs.Ytbmdahhhgpbchaa.ObB Go.Proofs.Ytbmdahhhgpbchaa.ObC Go.Proofs.Ytbmdahhhgpbchaa.SnA Go.Proofs.Ytbmdahhhgpbchaa.SnB Go.Proofs.Ytbmdahhhgpbchaa.SnC Go.Proofs.Ytbmdahhhgpbchaa.SnD Go.Proofs.Ytbmdahhhgpbchaa.SnE Go.Proofs.Ytbmdahhhgpbchaa.SnF Go.Proofs.Ytbmdahhhgpbchaa.SnG Go.Proofs.Ytbmdahhhgpbchaa.SnH Go.Proofs.Ytbmdahhhgpbchaa.DgA Go.Proofs.Ytbmdahhhgpbchaa.DgB Go.Proofs.Ytbmdahhhgpbchaa.SnI Go.Proofs.Ytbmdahhhgpbchaa.SnJ
set_option linter.unusedVariables false
set_option linter.unusedSimpArgs false
set_option maxRecDepth 100000
set_option maxHeartbeats 4000000
abbrev StT := Bool × Bool × Bool × Fm
def enT (x : StT) : List AV := Bo x.1 :: Bo x.2.1 :: Bo x.2.2.1 :: fr x.2.2.2
def cT (l : List StT) : List AV := l.flatMap enT
abbrev fT (l : List StT) : AV := .fz l.length (cT l)
theorem enT_len (x : StT) : (enT x).length = 59 := by simp [enT, fr_len]
@[simp] theorem cT_length (l : List StT) : (cT l).length = l.length * 59 := flat_length enT 59 l (fun x _ => enT_len x)
theorem cT_drop (l : List StT) (i : Nat) : (cT l).drop (i * 59) = cT (l.drop i) := by
  induction l generalizing i with
  | nil => simp [cT]
  | cons x l ih =>
    cases i with
    | zero => simp
    | succ i =>
      have e : cT (x :: l) = enT x ++ cT l := rfl
      rw [e, List.drop_append, enT_len, List.drop_of_length_le (by rw [enT_len]; omega), List.nil_append, show (i + 1) * 59 - 59 = i * 59 from by omega, ih]
      rfl
theorem cT_at (l : List StT) (i : Nat) (h : i < l.length) : rdb (cT l) (i * 59) 59 = enT l[i] := by
  show List.take 59 (List.drop (i * 59) (cT l)) = _
  rw [cT_drop, List.drop_eq_getElem_cons h]
  have e : ∀ (x : StT) l, cT (x :: l) = enT x ++ cT l := fun _ _ => rfl
  rw [e, List.take_append_of_le_length (by rw [enT_len]; exact Nat.le_refl _), List.take_of_length_le (by rw [enT_len]; exact Nat.le_refl _)]
theorem cT_takes (l : List StT) (k : Nat) : (cT l).take (k * 59) = cT (l.take k) := by
  induction l generalizing k with
  | nil => simp [cT]
  | cons x l ih =>
    cases k with
    | zero => simp [cT]
    | succ k =>
      have e : ∀ (x : StT) l, cT (x :: l) = enT x ++ cT l := fun _ _ => rfl
      rw [List.take_succ_cons, e, e, show (k + 1) * 59 = 59 + k * 59 from by omega, List.take_append, enT_len, List.take_of_length_le (by rw [enT_len]; omega), show 59 + k * 59 - 59 = k * 59 from by omega, ih]
def t3 : V 16 := ⟨[3, 0, 0, 0, 0, 0, 0, 0, 0, 0, 0, 0, 0, 0, 0, 0], rfl⟩
theorem t3_c : [Y 3, Y 0, Y 0, Y 0, Y 0, Y 0, Y 0, Y 0, Y 0, Y 0, Y 0, Y 0, Y 0, Y 0, Y 0, Y 0] = cB t3.1 := rfl
theorem sz16 (u : V 16) : spl [Y 0, Y 0, Y 0, Y 0, Y 0, Y 0, Y 0, Y 0, Y 0, Y 0, Y 0, Y 0, Y 0, Y 0, Y 0, Y 0] 0 (cB u.1) = cB u.1 := by
  have := spl_app (cB u.1) [Y 0, Y 0, Y 0, Y 0, Y 0, Y 0, Y 0, Y 0, Y 0, Y 0, Y 0, Y 0, Y 0, Y 0, Y 0, Y 0] [] [] (by rw [v16]; rfl)
  simpa using this
theorem rt16 (u : V 16) : rdb (cB u.1) 0 16 = cB u.1 := rdb_all (v16 u)
theorem cB_frz (S : St) : ∀ l : List Int, frzs1 S (cB l) = some (cB l, [], True)
  | [] => rfl
  | n :: l => by
    show frzs1 S (Y n :: cB l) = _
    simp [frzs1, cB_frz S l, frz1, isF]
    rfl
theorem sp_t (x y z : AV) (k : Int) (t : V 16) (es er o n : Int) (su : V 32) (d r : AV) (c : Int) (x' y' z' : AV) (k' : Int) (t' : V 16) (es' er' o' n' : Int) (su' : V 32) (d' r' : AV) (c' : Int) :
    spl (x :: y :: z :: fc k t es er o n su d r c) 0 (x' :: y' :: z' :: fc k' t' es' er' o' n' su' d' r' c') = x' :: y' :: z' :: fc k' t' es' er' o' n' su' d' r' c' := by
  have := spl_app (x' :: y' :: z' :: fc k' t' es' er' o' n' su' d' r' c') (x :: y :: z :: fc k t es er o n su d r c) [] [] (by simp [fc_len])
  simpa using this
theorem sp_t3 (x y z : AV) (k : Int) (t : V 16) (es er o n : Int) (su : V 32) (d r : AV) (c : Int) (k' : Int) (t' : V 16) (es' er' o' n' : Int) (su' : V 32) (d' r' : AV) (c' : Int) :
    spl (x :: y :: z :: fc k t es er o n su d r c) 3 (fc k' t' es' er' o' n' su' d' r' c') = x :: y :: z :: fc k' t' es' er' o' n' su' d' r' c' := by
  have := spl_app (fc k' t' es' er' o' n' su' d' r' c') (fc k t es er o n su d r c) [x, y, z] [] (by simp [fc_len])
  simpa using this
theorem rd_tt (x y z : AV) (k : Int) (t : V 16) (es er o n : Int) (su : V 32) (d r : AV) (c : Int) : rdb (x :: y :: z :: fc k t es er o n su d r c) 0 59 = x :: y :: z :: fc k t es er o n su d r c := rdb_all (by simp [fc_len])
end Go.Proofs.Ytbmdahhhgpbchaa.SnK
