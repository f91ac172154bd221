import Derived.Test.YtbmdahhhgpbchaaProg
import Derived.Below
import Derived.Carry
import Derived.WalkKit
import Derived.KernelRfl
import Derived.RowKit3
import Derived.Outline
import Derived.Laws.Cover2
import Derived.Laws.Cover3
import Derived.Laws.ComplexArith
import Derived.WalkLawsBesides
import Derived.Deep.LoopGhost
import Derived.Deep.RegionHeld3
import Derived.Deep.Draws
import Derived.Deep.AppendLies
import Derived.Maps.AppendAt
import Derived.OwnWalk
import Derived.Laws.BytesArg
import Derived.Laws.MakeOwn
import Derived.Laws.OwnMore
import Derived.Deep.OwnRows
import Derived.Tactics
import Derived.Lib.ConvBytes
import Derived.Laws.Slices
import Derived.Deep.QuietTactic
import Derived.BigQuiet
import Derived.WideLaws
import Derived.Deep.DeepCutAuto
import Derived.Deep.CutBlock
import Derived.Laws.Rows
import Derived.Lib.AppendStr
import Derived.ArgAppend
import Derived.Laws.IdiomCopy
import Derived.RowKit
namespace Go.Proofs.Ytbmdahhhgpbchaa.FrmM
open Go.RowKit
set_option linter.unusedVariables false
set_option maxRecDepth 100000
set_option linter.unusedSimpArgs false

/-! ### words of the kit's print, for this claim -/
/-- A fact that the walk's simp doesn't look into. -/
structure Aside0 (p : Prop) : Prop where mk :: (out : p)
theorem blk_frozen {w : World} {g : Nat} {t : TypeId} {cs : Array Value} (h : w.heap[g]? = some (.cells cs t (0, 0))) (i : Nat) : w.frozen? ⟨g, i, none⟩ = false := by simp [World.frozen?, h]
theorem below_drew {B : Nat} {w W : World} (h : Below B w W) : Below B w W.drew := ⟨h.os, h.tape, h.output, h.size, h.block⟩
theorem pw_cell_below {w w1 : World} (h : Below w.heap.size w w1) {a : Addr} {v : Value} (hc : w.cell? a = some v) : w1.cell? a = some v := (h.cell (World.block_lt_of_cell? w a hc)).trans hc
theorem below_then {B : Nat} {w w1 w2 : World} (h : Below B w w1) (hB : B ≤ w1.heap.size) (k : Below w1.heap.size w1 w2) : Below B w w2 :=
  h.trans ⟨k.os, k.tape, k.output, k.size, fun i hi => k.block i (Nat.lt_of_lt_of_le hi hB)⟩
theorem below_alloc {w W : World} (h : Below w.heap.size w W) (o : Obj) : Below w.heap.size w (W.alloc o) := h.alloc h.size o
theorem blk_new (w : World) (o : Obj) : (w.alloc o).heap[w.heap.size]? = some o := heap_alloc_new w o
theorem blk_cell {w : World} {g : Nat} {t : TypeId} {cs : Array Value} (h : w.heap[g]? = some (.cells cs t (0, 0))) (i : Nat) : w.cell? ⟨g, i, none⟩ = cs[i]? := cell_of_row w g i cs t (0, 0) h
/-- The four quarters' parts, as bits. -/
def re (i : Nat) : Nat := if i = 0 then 4607182418800017408 else if i = 2 then 13830554455654793216 else 0
def im (i : Nat) : Nat := if i = 1 then 4607182418800017408 else if i = 3 then 13830554455654793216 else 0
def C (i : Nat) : Value := .complex .f64 (re i) (im i)
/-- Are two parts the same, as Go's '==' tells it. -/
def sameF (a b : Nat) : Bool := FloatKind.f64.format.order a b == some .eq
def sameC (a b c d : Nat) : Bool := sameF a c && sameF b d
/-- Which quarter, from place i on. -/
def quarterOf (a b : Nat) : Nat × Bool :=
  if sameC a b (re 0) (im 0) = true then (0, true) else if sameC a b (re 1) (im 1) = true then (1, true) else if sameC a b (re 2) (im 2) = true then (2, true) else if sameC a b (re 3) (im 3) = true then (3, true) else (0, false)

@[local go_sem] theorem run_store_complex {P : Program} {w : World} (a : Addr) (k : FloatKind) (x y : Nat) (m : Mode) : (store a (.complex k x y) m).run P w = stored P w a (.complex k x y) m := run_store P w a _ m rfl

set_option maxHeartbeats 2000000 in
theorem quarters_calls (W : World) : Calls Try.prog 140 #[] W fun e W' => e = .returned (.agg #[C 0, C 1, C 2, C 3]) ∧ Below W.heap.size W W' := by
  go_enter Try.func140, Try.ntmps140
  go_wp2
  refine bodyPost_ret (results_cell_row rfl _ _ W.heap.size 232 #[C 0, C 1, C 2, C 3] (0, 0) _ rfl (blk_new W _) Try.underlying232 rfl (by kernel_rfl)) rfl ⟨rfl, ?_⟩
  exact below_alloc (Below.refl _ _) _

set_option maxHeartbeats 2000000 in
theorem Turn_calls (n : Int) (h0 : 0 ≤ n) (i : Nat) (hi : i < 4) (hn : n % 4 = i) (W : World) : Calls Try.prog 124 #[.int .u32 n] W fun e W' => e = .returned (C i) ∧ Below W.heap.size W W' := by
  have ix : ∀ w, (Instr.index 232 (.agg #[C 0, C 1, C 2, C 3]) (.int .u32 i)).run Try.prog w = .ok (C i) w := by
    match i, hi with
    | 0, _ => exact fun w => by kernel_rfl
    | 1, _ => exact fun w => by kernel_rfl
    | 2, _ => exact fun w => by kernel_rfl
    | 3, _ => exact fun w => by kernel_rfl
  go_enter Try.func124, Try.ntmps124
  go_wp2_with (fail)
  refine (quarters_calls _).mono ?_
  rintro e w1 ⟨rfl, hb⟩
  go_wp2_with (fail)
  go_ret
  exact ⟨rfl, hb⟩

/-- No quarter ahead of place i is it. -/
def NotYet (a b : Nat) (i : Nat) : Prop := ∀ j, j < i → sameC a b (re j) (im j) = false
theorem quarter_found (a b i : Nat) (hi : i < 4) (hn : NotYet a b i) (h : sameC a b (re i) (im i) = true) : quarterOf a b = (i, true) := by
  unfold quarterOf
  match i, hi with
  | 0, _ => rw [if_pos h]
  | 1, _ => rw [if_neg (by rw [hn 0 (by omega)]; decide), if_pos h]
  | 2, _ => rw [if_neg (by rw [hn 0 (by omega)]; decide), if_neg (by rw [hn 1 (by omega)]; decide), if_pos h]
  | 3, _ => rw [if_neg (by rw [hn 0 (by omega)]; decide), if_neg (by rw [hn 1 (by omega)]; decide), if_neg (by rw [hn 2 (by omega)]; decide), if_pos h]
theorem quarter_none (a b : Nat) (hn : NotYet a b 4) : quarterOf a b = (0, false) := by
  unfold quarterOf
  rw [if_neg (by rw [hn 0 (by omega)]; decide), if_neg (by rw [hn 1 (by omega)]; decide), if_neg (by rw [hn 2 (by omega)]; decide), if_neg (by rw [hn 3 (by omega)]; decide)]
theorem eql_C (t : TypeId) (a b i : Nat) (w : World) : (binOp .eql t (.complex .f64 a b) (C i)).run Try.prog w = .ok (.bool (sameC a b (re i) (im i))) w := run_eql_complex w t .f64 a b (re i) (im i)

set_option maxHeartbeats 2000000 in
theorem Quarter_calls (a b : Nat) (W : World) (q : Nat) (f : Bool) (hq : quarterOf a b = (q, f)) : Calls Try.prog 123 #[.complex .f64 a b] W fun e W' => e = .returned (.tuple #[.int .i64 q, .bool f]) ∧ Below W.heap.size W W' := by
  have HQ := Aside0.mk hq
  clear hq
  have ix : ∀ (i : Nat), i < 4 → ∀ w, (Instr.index 232 (.agg #[C 0, C 1, C 2, C 3]) (.int .i64 i)).run Try.prog w = .ok (C i) w := by
    intro i hi
    match i, hi with
    | 0, _ => exact fun w => by kernel_rfl
    | 1, _ => exact fun w => by kernel_rfl
    | 2, _ => exact fun w => by kernel_rfl
    | 3, _ => exact fun w => by kernel_rfl
  have IX := Aside0.mk ix
  clear ix
  go_enter Try.func123, Try.ntmps123
  go_wp2_with (fail)
  refine (quarters_calls _).mono ?_
  rintro e w1 ⟨rfl, hb⟩
  have HB := Aside0.mk hb
  clear hb
  go_wp2_with (fail)
  go_loop [7] (fun i => ∃ k : Nat, k ≤ 4 ∧ i = .int .i64 k ∧ Aside0 (NotYet a b k)) (fun i => 4 - (intOf i).toNat)
  case atStart => exact ⟨0, by omega, rfl, ⟨fun j hj => by omega⟩⟩
  case round =>
    obtain ⟨k, hk, rfl, HN⟩ := hrel
    by_cases hlt : k < 4
    · have ix := IX.out k hlt
      have eq := fun (t : TypeId) w => eql_C t a b k w
      cases hs : sameC a b (re k) (im k)
      · have HN' : Aside0 (NotYet a b (k + 1)) := ⟨fun j hj => by
          by_cases e : j = k
          · rw [e]; exact hs
          · exact HN.out j (by omega)⟩
        simp only [hs] at eq
        clear hs
        go_wp2_with (fail)
        go_round
        case rel => exact ⟨k + 1, by omega, by go_num, HN'⟩
        case measure => simp [intOf]; omega
      · have hf := quarter_found a b k hlt HN.out hs
        rw [HQ.out] at hf
        obtain ⟨rfl, rfl⟩ := Prod.mk.inj hf
        simp only [hs] at eq
        clear hs hf
        go_wp2_with (fail)
        go_ret2
        exact ⟨rfl, HB.out⟩
    · obtain rfl : k = 4 := by omega
      have hf := quarter_none a b HN.out
      rw [HQ.out] at hf
      obtain ⟨rfl, rfl⟩ := Prod.mk.inj hf
      clear hf
      go_wp2_with (fail)
      go_ret2
      exact ⟨rfl, HB.out⟩

/-- The product of two quarters, by its bits. -/
def mulOf (i j : Nat) : Nat × Nat := ((cMulBits (re i) (im i) (re j) (im j)).getD (0, 0))
theorem mul_table : ((List.range 4).all fun i => (List.range 4).all fun j => cMulBits (re i) (im i) (re j) (im j) == some (mulOf i j) && quarterOf (mulOf i j).1 (mulOf i j).2 == ((i + j) % 4, true)) = true := by kernel_rfl
theorem mul_is (i j : Nat) (hi : i < 4) (hj : j < 4) : cMulBits (re i) (im i) (re j) (im j) = some (mulOf i j) ∧ quarterOf (mulOf i j).1 (mulOf i j).2 = ((i + j) % 4, true) := by
  have h := List.all_eq_true.1 mul_table i (List.mem_range.2 hi)
  have h2 := List.all_eq_true.1 h j (List.mem_range.2 hj)
  simp only [Bool.and_eq_true, beq_iff_eq] at h2
  exact h2

/-- What is known of a box of two. -/
theorem blk_two {W : World} {B : Nat} {x y : Value} {t : TypeId} (h : W.heap[B]? = some (.cells #[x, y] t (0, 0))) :
    (W.cell? ⟨B, 0, none⟩ = some x ∧ W.cell? ⟨B, 1, none⟩ = some y) ∧ (W.frozen? ⟨B, 0, none⟩ = false ∧ W.frozen? ⟨B, 1, none⟩ = false) :=
  ⟨⟨blk_cell h 0, blk_cell h 1⟩, blk_frozen h 0, blk_frozen h 1⟩

/-- An epoch's mark. -/
def dmark (s r : Int) : Int := (s % 4 + r % 4) % 4
def E (s r : Int) : Value := .agg #[.int .u32 s, .int .u32 r]

set_option maxHeartbeats 2000000 in
set_option maxRecDepth 100000 in
theorem Mark_calls (s r : Int) (hs : 0 ≤ s) (hr : 0 ≤ r) (W : World) : Calls Try.prog 91 #[.agg #[.int .u32 s, .int .u32 r]] W fun e W' => e = .returned (.int .u8 (dmark s r)) ∧ Below W.heap.size W W' := by
  obtain ⟨i, hi, hi4⟩ : ∃ i : Nat, s % 4 = i ∧ i < 4 := ⟨(s % 4).toNat, by omega, by omega⟩
  obtain ⟨j, hj, hj4⟩ : ∃ j : Nat, r % 4 = j ∧ j < 4 := ⟨(r % 4).toNat, by omega, by omega⟩
  obtain ⟨hm, hq⟩ := mul_is i j hi4 hj4
  have hM := Aside0.mk (show dmark s r = ((i + j) % 4 : Nat) by unfold dmark; rw [hi, hj]; omega)
  obtain ⟨k, hk⟩ : ∃ k, (i + j) % 4 = k := ⟨_, rfl⟩
  have hk4 : k < 4 := by omega
  rw [hk] at hq hM
  have mu : ∀ (t : TypeId) (w : World), (binOp .mul t (C i) (C j)).run Try.prog w = .ok (.complex .f64 (mulOf i j).1 (mulOf i j).2) w := fun t w => run_complex_mul (P := Try.prog) w t (re i) (im i) (re j) (im j) _ _ hm
  generalize mulOf i j = p at *
  obtain ⟨x, y⟩ := p
  have HQ := Aside0.mk hq
  have HI := Aside0.mk hi
  have HJ := Aside0.mk hj
  clear hm hq hi hj hk
  go_enter Try.func91, Try.ntmps91
  go_wp2_with (fail)
  obtain ⟨⟨c0, c1⟩, -⟩ := blk_two (blk_new W (.cells #[.int .u32 s, .int .u32 r] 68))
  have HB := below_alloc (Below.refl W.heap.size W) (.cells #[.int .u32 s, .int .u32 r] 68)
  generalize W.alloc (Obj.cells #[Value.int IntKind.u32 s, Value.int IntKind.u32 r] 68) = W1 at *
  go_region_held3 (fun w' => w'.cell? ⟨W.heap.size, 0, none⟩ = some (.int .u32 s) ∧ w'.cell? ⟨W.heap.size, 1, none⟩ = some (.int .u32 r) ∧ Below W.heap.size W w') (((try go_split_ands); refine ⟨?_, ?_, ?_⟩ <;> first | assumption | (go_keep; done) | exact pw_cell_below hb (by assumption) | exact below_drew (by assumption) | exact below_then (by assumption) (by have := World.block_lt_of_cell? _ _ (by assumption : World.cell? _ ⟨W.heap.size, 0, none⟩ = some (.int .u32 s)); exact Nat.le_of_lt this) hb))
    (first
      | (go_at_call_of 124 (Value.int IntKind.u32 s); refine (Turn_calls s hs i hi4 HI.out _).mono ?_; rintro e w' ⟨rfl, hb⟩)
      | (go_at_call_of 124 (Value.int IntKind.u32 r); refine (Turn_calls r hr j hj4 HJ.out _).mono ?_; rintro e w' ⟨rfl, hb⟩)
      | (go_at_call 123; refine (Quarter_calls x y _ k true HQ.out).mono ?_; rintro e w' ⟨rfl, hb⟩))
  all_goals
    go_split_ands
    rename_i hbel
    go_wp2_with (fail)
    go_ret
    exact ⟨by rw [hM.out]; rfl, hbel⟩
end Go.Proofs.Ytbmdahhhgpbchaa.FrmM
