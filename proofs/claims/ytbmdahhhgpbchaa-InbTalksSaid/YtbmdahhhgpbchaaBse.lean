import Derived.Test.YtbmdahhhgpbchaaSimD
namespace Go.Proofs.Ytbmdahhhgpbchaa.Bse
open Go Go.Sim Go.Sim.E Go.RowKit Go.Proofs
set_option linter.unusedVariables false
set_option linter.unusedSimpArgs false
set_option maxRecDepth 100000
set_option maxHeartbeats 4000000
abbrev I (n : Int) : AV := .sc (.int .i64 n)
abbrev U (n : Int) : AV := .sc (.int .u32 n)
abbrev Y (n : Int) : AV := .sc (.int .u8 n)
abbrev L (n : Int) : AV := .sc (.int .u64 n)
abbrev Bo (b : Bool) : AV := .sc (.bool b)
def cB (l : List Int) : List AV := l.map fun n => .sc (.int .u8 n)
abbrev fB (l : List Int) : AV := .fz l.length (cB l)
theorem okI_map {α : Type} (f : α → AV) (h : ∀ a, isF (f a) = true) (l : List α) : okI (l.map f) := by
  intro x hx
  obtain ⟨a, _, rfl⟩ := List.mem_map.1 hx
  exact h a
theorem w64 (n : Int) (h : -9223372036854775808 ≤ n ∧ n ≤ 9223372036854775807) : IntKind.i64.wrap n = n := by rw [IntKind.wrap_i64]; omega
theorem w64s (i : Nat) (h : i < 4611686018427387904) : IntKind.i64.wrap (IN i + 1) = IN (i + 1) := by simp only [IN]; rw [w64 _ (by omega)]; rfl
theorem w32u (n : Int) : IntKind.u32.wrap n = n % 4294967296 := by simp [IntKind.wrap, IntKind.bits, IntKind.signed]
theorem wu64 (n : Int) : IntKind.u64.wrap n = n % 18446744073709551616 := by simp [IntKind.wrap, IntKind.bits, IntKind.signed]
theorem w8u (n : Int) : IntKind.u8.wrap n = n % 256 := by simp [IntKind.wrap, IntKind.bits, IntKind.signed]
theorem cB_length (l : List Int) : (cB l).length = l.length := by simp [cB]
theorem cB_get (l : List Int) (i : Nat) (h : i < l.length) : (cB l).getD i .un = Y (l.getD i 0) := by simp [cB, List.getD_eq_getElem?_getD, List.getElem?_eq_getElem h]
theorem cB_set (l : List Int) (i : Nat) (v : Int) : (cB l).set i (Y v) = cB (l.set i v) := by simp [cB, List.map_set]
theorem cB_append (a b : List Int) : cB (a ++ b) = cB a ++ cB b := by simp [cB]
theorem cB_take (a : List Int) (n : Nat) : cB (a.take n) = (cB a).take n := by simp [cB, List.map_take]
theorem cB_drop (a : List Int) (n : Nat) : cB (a.drop n) = (cB a).drop n := by simp [cB, List.map_drop]
theorem cB_okI (l : List Int) : okI (cB l) := okI_map _ (fun _ => rfl) _
theorem cB_okF (l : List Int) : okF (cB l) := by
  intro x hx
  obtain ⟨a, _, rfl⟩ := List.mem_map.1 hx
  rfl
theorem cB_all (l : List Int) : List.take l.length (cB l) = cB l := List.take_of_length_le (by rw [cB_length]; exact Nat.le_refl _)
theorem cB_rs (P Q R) (l : List Int) (c : List AV) (h : c = cB l) : rv1s P Q R c (cB l) := by subst h; exact rs_self (cB_okI _)
theorem cB_cells (st : St) (l : List Int) : okCells st (cB l) = True := eq_true (okF_cells (cB_okF l) st)
theorem rdb_all {l : List AV} {n : Nat} (h : l.length = n) : rdb l 0 n = l := by simp [rdb, ← h]
theorem con_o {P : Program} {f : FuncId} {x : ACode} {rs : List AR} {n : Nat} (hk : cmpG P f = some (strip x, rs, n)) {args : List AV} {hp1 : List (Nat × Ob)} {r : AV} (hargs : Nat.ble args.length n = true)
    (h : awA P 0 x ⟨slots args 0, [], 0⟩ (RetsA 0 rs hp1 r)) : Con P f [] args hp1 r := by
  unfold cmpG at hk
  split at hk
  · rename_i fn hf
    split at hk
    · rename_i a rs' hc
      simp only [Option.some.injEq, Prod.mk.injEq] at hk
      obtain ⟨rfl, rfl, rfl⟩ := hk
      exact con_c fn x _ hf hc (Nat.le_of_ble_eq_true hargs) 0 (fun p hp => by cases hp) (fun id hid => absurd hid (Nat.not_lt_zero _)) h
    · cases hk
  · cases hk
/-- Bytes are bytes. -/
def byt8 (b : List Int) : Prop := ∀ x ∈ b, 0 ≤ x ∧ x < 256
theorem byt8_get {b : List Int} (h : byt8 b) (i : Nat) : 0 ≤ b.getD i 0 ∧ b.getD i 0 < 256 := by
  rw [List.getD_eq_getElem?_getD]
  rcases hi : b[i]? with _ | x
  · simp
  · exact h x (List.mem_of_getElem? hi)
theorem byt8_app {a b : List Int} (ha : byt8 a) (hb : byt8 b) : byt8 (a ++ b) := fun x hx => by
  rcases List.mem_append.1 hx with h | h
  · exact ha x h
  · exact hb x h
theorem flat_cB : ∀ l : List Int, (l.flatMap fun n : Int => [AV.sc (.int .u8 n)]) = cB l
  | [] => rfl
  | a :: l => by
    show [AV.sc (.int .u8 a)] ++ l.flatMap (fun n : Int => [AV.sc (.int .u8 n)]) = cB (a :: l)
    rw [flat_cB l]; rfl
theorem take_step {α : Type} (l : List α) (i : Nat) (h : i < l.length) : l.take (i + 1) = l.take i ++ [l[i]] := by
  rw [List.take_add_one, List.getElem?_eq_getElem h]; rfl
theorem getD_el (l : List Int) (i : Nat) (h : i < l.length) : l.getD i 0 = l[i] := by simp [List.getD_eq_getElem?_getD, List.getElem?_eq_getElem h]
theorem take_stepD (l : List Int) (i : Nat) (h : i < l.length) : l.take (i + 1) = l.take i ++ [l.getD i 0] := by
  rw [take_step l i h, getD_el l i h]
end Go.Proofs.Ytbmdahhhgpbchaa.Bse
