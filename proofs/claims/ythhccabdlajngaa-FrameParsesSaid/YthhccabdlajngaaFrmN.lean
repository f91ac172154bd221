import Derived.Test.YthhccabdlajngaaFrmF
import Derived.Test.YthhccabdlajngaaFrmM
namespace Go.Proofs.Ythhccabdlajngaa.FrmN
open Go Go.Sim Go.Sim.E Go.RowKit Go.Proofs Go.Proofs.Ythhccabdlajngaa.Cod Go.Proofs.Ythhccabdlajngaa.Tab Go.Proofs.Ythhccabdlajngaa.Bse Go.Proofs.Ythhccabdlajngaa.Krc Go.Proofs.Ythhccabdlajngaa.FrmA Go.Proofs.Ythhccabdlajngaa.FrmB Go.Proofs.Ythhccabdlajngaa.FrmC Go.Proofs.Ythhccabdlajngaa.FrmD Go.Proofs.Ythhccabdlajngaa.FrmE Go.Proofs.Ythhccabdlajngaa.FrmF
set_option linter.unusedVariables false
set_option linter.unusedSimpArgs false
set_option maxRecDepth 100000
set_option maxHeartbeats 4000000
/-! ### a contract made by hand turned into one of the engine -/
theorem con_sc {P : Program} {f : FuncId} {args : List AV} {cargs0 : Array Value} {v : Value} (hargs : ∀ W S L (cargs : Array Value), VRs W S L args cargs.toList → cargs = cargs0)
    (h : ∀ W, Calls P f cargs0 W fun e W' => e = .returned v ∧ Below W.heap.size W W') : Con P f [] args [] (.sc v) := by
  intro W I S L cargs hn hHR hv
  obtain rfl := hargs _ _ _ _ hv
  refine (h W).mono ?_
  rintro e W' ⟨rfl, hb⟩
  have hL : ∀ id, L id = none := fun id => hn id rfl
  refine ⟨v, L, rfl, fun id y h => .inl h, fun id _ _ => hL id, ⟨fun id o ho => (by cases ho), fun id B hB => (by rw [hL] at hB; cases hB), fun id id' B B' hB _ => (by rw [hL] at hB; cases hB), fun id B hB => (by rw [hL] at hB; cases hB), hHR.kept, ⟨hb.os, hb.tape, hb.output, hb.size, fun k hk _ => hb.block k hk⟩⟩, .sc _ _⟩
theorem vrs_ag2 {W : World} {S : Nat → Nat → Prop} {L : Lay} {a b : Value} {cargs : Array Value} (h : VRs W S L [.ag [.sc a, .sc b]] cargs.toList) : cargs = #[.agg #[a, b]] := by
  obtain ⟨h1, h2⟩ := h
  obtain ⟨v, rfl⟩ : ∃ v, cargs = #[v] := by
    obtain ⟨l⟩ := cargs
    match l, h1 with
    | [v], _ => exact ⟨v, rfl⟩
  have h3 := h2 0 _ rfl
  obtain ⟨vs, g, e, h0, h1', h2'⟩ := h3.ag_eq
  have e' : v = .agg vs := e
  subst e'
  obtain ⟨l⟩ := vs
  match l, h0 with
  | [x, y], _ =>
    have hx := h1' 0 (by simp)
    have hy := h1' 1 (by simp)
    have gx := (h2' 0 _ rfl).sc_eq
    have gy := (h2' 1 _ rfl).sc_eq
    simp at hx hy
    rw [hx, hy, gx, gy]
theorem mark_con (es er : Int) (h1 : 0 ≤ es) (h2 : 0 ≤ er) : Con Try.prog 23 [] [.ag [U es, U er]] [] (Y (mkF es er)) :=
  con_sc (fun _ _ _ _ h => vrs_ag2 h) (fun W => FrmM.Mark_calls es er h1 h2 W)
end Go.Proofs.Ythhccabdlajngaa.FrmN
