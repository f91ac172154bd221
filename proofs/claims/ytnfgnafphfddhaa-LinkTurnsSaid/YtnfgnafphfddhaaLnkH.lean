import Derived.Test.YtnfgnafphfddhaaLnkG
import Derived.Deep.Strs
namespace Go.Proofs.Ytnfgnafphfddhaa.LnkH
open Go.RowKit Go.Proofs.YtnfgnafphfddhaaW.PrintWords Go.Proofs.Ytnfgnafphfddhaa.Bas Go.Proofs.Ytnfgnafphfddhaa.LnkD Go.Proofs.Ytnfgnafphfddhaa.LnkG
open Go.ChangeShapes Go.WideShapes
set_option linter.unusedVariables false
set_option maxRecDepth 100000

theorem list6 {α : Type} : ∀ l : List α, l.length = 6 → ∃ a b c d e f, l = [a, b, c, d, e, f]
  | [a, b, c, d, e, f], _ => ⟨a, b, c, d, e, f, rfl⟩
set_option maxRecDepth 100000 in
theorem open_fate {H : Type} {enc : TypeId × Value → H} {W : World} {base : Nat} {v : Value} {d : DataW H} {p : List MemPlace} (hv : Value.okWide Try.prog W .any base 26 v)
    (h : DataW.Trod enc Try.prog W 0 (fun _ => true) true 26 v d p) :
    ∃ kd ax x0 x1 x2 x3 : Int, v = .agg #[.int .i64 kd, .int .u16 ax, .int .u8 x0, .int .u8 x1, .int .u8 x2, .int .u8 x3] ∧ (Lit.int .i64 kd).wf = true ∧ (Lit.int .u16 ax).wf = true ∧ (Lit.int .u8 x0).wf = true ∧ (Lit.int .u8 x1).wf = true ∧ (Lit.int .u8 x2).wf = true ∧ (Lit.int .u8 x3).wf = true := by
  obtain ⟨cs, rfl, hsz⟩ := okWide_struct Try.underlying26 hv
  rw [show Try.prog.cellsOf 26 = 6 by kernel_rfl] at hsz
  obtain ⟨l⟩ := cs
  obtain ⟨c0, c1, c2, c3, c4, c5, rfl⟩ := list6 l hsz
  obtain ⟨fuel, hf⟩ := h
  obtain ⟨y0, y1, y2, m, _, _, h0, h1, h2⟩ := Deep.trod_struct3 Try.underlying26 hf
  simp only [Value.cells] at h0 h1 h2
  rw [show Try.prog.cellsOf 3 = 1 by kernel_rfl] at h0
  rw [show Try.prog.cellsOf 23 = 1 by kernel_rfl] at h1
  rw [show Try.prog.cellsOf 24 = 4 by kernel_rfl] at h2
  simp at h0 h1 h2
  obtain ⟨kd, e0, rfl, w0⟩ := DataW.trod_int Try.underlying3 h0
  obtain ⟨ax, e1, rfl, w1⟩ := DataW.trod_int Try.underlying23 h1
  obtain ⟨z0, z1, z2, z3, m', hx, hz0, hz1, hz2, hz3⟩ := trod_array4 Try.underlying24 (by kernel_rfl) h2
  obtain ⟨x0, f0, rfl, v0⟩ := DataW.trod_int Try.underlying5 hz0
  obtain ⟨x1, f1, rfl, v1⟩ := DataW.trod_int Try.underlying5 hz1
  obtain ⟨x2, f2, rfl, v2⟩ := DataW.trod_int Try.underlying5 hz2
  obtain ⟨x3, f3, rfl, v3⟩ := DataW.trod_int Try.underlying5 hz3
  simp at e0 e1 f0 f1 f2 f3
  subst e0 e1 f0 f1 f2 f3
  exact ⟨kd, ax, x0, x1, x2, x3, rfl, w0, w1, v0, v1, v2, v3⟩
theorem LinkTurns_calls (A : Option Addr) (c : Nat) (l : List Int) (kd ax x0 x1 x2 x3 : Int) (W : World) (hr : ReadsInt W .u8 A l.length l) (hw : ∀ x ∈ l, (Lit.int .u8 x).wf = true) (hc : l.length ≤ c) (h0 : (Lit.int .u16 ax).wf = true)
    (w0 : (Lit.int .u8 x0).wf = true) (w1 : (Lit.int .u8 x1).wf = true) (w2 : (Lit.int .u8 x2).wf = true) (w3 : (Lit.int .u8 x3).wf = true) :
    Calls Try.prog 3 #[.slice A l.length c, .agg #[.int .i64 kd, .int .u16 ax, .int .u8 x0, .int .u8 x1, .int .u8 x2, .int .u8 x3]] W fun e W' => e = .returned (.bool true) ∧ Below W.heap.size W W' := by
  simp [Lit.wf, IntKind.min, IntKind.max, IntKind.bits, IntKind.signed] at h0 w0 w1 w2 w3
  obtain ⟨ax, rfl⟩ := Int.eq_ofNat_of_zero_le (show 0 ≤ ax by omega)
  obtain ⟨x0, rfl⟩ := Int.eq_ofNat_of_zero_le (show 0 ≤ x0 by omega)
  obtain ⟨x1, rfl⟩ := Int.eq_ofNat_of_zero_le (show 0 ≤ x1 by omega)
  obtain ⟨x2, rfl⟩ := Int.eq_ofNat_of_zero_le (show 0 ≤ x2 by omega)
  obtain ⟨x3, rfl⟩ := Int.eq_ofNat_of_zero_le (show 0 ≤ x3 by omega)
  exact LinkTurns_nat A _ c l kd ax (fun i => match i with | 0 => x0 | 1 => x1 | 2 => x2 | 3 => x3 | _ => 0) W hr (byt_of_wf hw) hc (by omega) (fun i => by
    rcases i with _ | _ | _ | _ | i <;> simp <;> omega)
end Go.Proofs.Ytnfgnafphfddhaa.LnkH
