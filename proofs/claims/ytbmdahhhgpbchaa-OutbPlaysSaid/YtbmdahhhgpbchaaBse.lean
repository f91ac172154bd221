import Derived.Test.YtbmdahhhgpbchaaSimD
namespace Go.Proofs.Ytbmdahhhgpbchaa.Bse
open Go Go.Sim Go.Sim.E Go.RowKit Go.Proofs
set_option linter.unusedVariables false
set_option linter.unusedSimpArgs false
set_option maxRecDepth 100000
set_option maxHeartbeats 4000000
abbrev I (n : Int) : AV := .sc (.int .i64 n)
abbrev U (n : Int) : AV := .sc (.int .u32 n)
abbrev Y (n : Int) : AV := .sc (.int .u8 n)
abbrev L (n : Int) : AV := .sc (.int .u64 n)
abbrev Bo (b : Bool) : AV := .sc (.bool b)
def cB (l : List Int) : List AV := l.map fun n => .sc (.int .u8 n)
abbrev fB (l : List Int) : AV := .fz l.length (cB l)
theorem okI_map {α : Type} (f : α → AV) (h : ∀ a, isF (f a) = true) (l : List α) : okI (l.map f) := by
  intro x hx
  obtain ⟨a, _, rfl⟩ := List.mem_map.1 hx
  exact h a
theorem w64 (n : Int) (h : -9223372036854775808 ≤ n ∧ n ≤ 9223372036854775807) : IntKind.i64.wrap n = n := by rw [IntKind.wrap_i64]; omega
theorem w64s (i : Nat) (h : i < 4611686018427387904) : IntKind.i64.wrap (IN i + 1) = IN (i + 1) := by simp only [IN]; rw [w64 _ (by omega)]; rfl
theorem cB_length (l : List Int) : (cB l).length = l.length := by simp [cB]
theorem cB_get (l : List Int) (i : Nat) (h : i < l.length) : (cB l).getD i .un = Y (l.getD i 0) := by simp [cB, List.getD_eq_getElem?_getD, List.getElem?_eq_getElem h]
theorem cB_take (a : List Int) (n : Nat) : cB (a.take n) = (cB a).take n := by simp [cB, List.map_take]
theorem cB_drop (a : List Int) (n : Nat) : cB (a.drop n) = (cB a).drop n := by simp [cB, List.map_drop]
theorem cB_okI (l : List Int) : okI (cB l) := okI_map _ (fun _ => rfl) _
theorem cB_okF (l : List Int) : okF (cB l) := by
  intro x hx
  obtain ⟨a, _, rfl⟩ := List.mem_map.1 hx
  rfl
theorem cB_all (l : List Int) : List.take l.length (cB l) = cB l := List.take_of_length_le (by rw [cB_length]; exact Nat.le_refl _)
theorem flat_cB : ∀ l : List Int, (l.flatMap fun n : Int => [AV.sc (.int .u8 n)]) = cB l
  | [] => rfl
  | a :: l => by
    show [AV.sc (.int .u8 a)] ++ l.flatMap (fun n : Int => [AV.sc (.int .u8 n)]) = cB (a :: l)
    rw [flat_cB l]; rfl
theorem take_step {α : Type} (l : List α) (i : Nat) (h : i < l.length) : l.take (i + 1) = l.take i ++ [l[i]] := by
  rw [List.take_add_one, List.getElem?_eq_getElem h]; rfl
theorem getD_el (l : List Int) (i : Nat) (h : i < l.length) : l.getD i 0 = l[i] := by simp [List.getD_eq_getElem?_getD, List.getElem?_eq_getElem h]
theorem take_stepD (l : List Int) (i : Nat) (h : i < l.length) : l.take (i + 1) = l.take i ++ [l.getD i 0] := by
  rw [take_step l i h, getD_el l i h]
end Go.Proofs.Ytbmdahhhgpbchaa.Bse
