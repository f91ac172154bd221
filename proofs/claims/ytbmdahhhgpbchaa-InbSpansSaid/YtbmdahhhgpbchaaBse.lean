import Derived.Test.YtbmdahhhgpbchaaSimD
namespace Go.Proofs.Ytbmdahhhgpbchaa.Bse
open Go Go.Sim Go.Sim.E Go.RowKit Go.Proofs
set_option linter.unusedVariables false
set_option linter.unusedSimpArgs false
set_option maxRecDepth 100000
set_option maxHeartbeats 4000000
abbrev I (n : Int) : AV := .sc (.int .i64 n)
abbrev U (n : Int) : AV := .sc (.int .u32 n)
abbrev L (n : Int) : AV := .sc (.int .u64 n)
abbrev Bo (b : Bool) : AV := .sc (.bool b)
def cB (l : List Int) : List AV := l.map fun n => .sc (.int .u8 n)
abbrev fB (l : List Int) : AV := .fz l.length (cB l)
theorem okI_map {α : Type} (f : α → AV) (h : ∀ a, isF (f a) = true) (l : List α) : okI (l.map f) := by
  intro x hx
  obtain ⟨a, _, rfl⟩ := List.mem_map.1 hx
  exact h a
theorem w64 (n : Int) (h : -9223372036854775808 ≤ n ∧ n ≤ 9223372036854775807) : IntKind.i64.wrap n = n := by rw [IntKind.wrap_i64]; omega
theorem w64s (i : Nat) (h : i < 4611686018427387904) : IntKind.i64.wrap (IN i + 1) = IN (i + 1) := by simp only [IN]; rw [w64 _ (by omega)]; rfl
theorem cB_length (l : List Int) : (cB l).length = l.length := by simp [cB]
theorem cB_okI (l : List Int) : okI (cB l) := okI_map _ (fun _ => rfl) _
theorem cB_okF (l : List Int) : okF (cB l) := by
  intro x hx
  obtain ⟨a, _, rfl⟩ := List.mem_map.1 hx
  rfl
theorem rdb_all {l : List AV} {n : Nat} (h : l.length = n) : rdb l 0 n = l := by simp [rdb, ← h]
theorem take_step {α : Type} (l : List α) (i : Nat) (h : i < l.length) : l.take (i + 1) = l.take i ++ [l[i]] := by
  rw [List.take_add_one, List.getElem?_eq_getElem h]; rfl
end Go.Proofs.Ytbmdahhhgpbchaa.Bse
