/-
  The law OutbEnds of package outb, for every input, walked over abstract states (SimA..SimD, CodA..CodC, CodF, SpnP, SwA..SwL, ObA..ObC, OeA..OeS): no condition.
-/
import Derived.Test.YtbmdahhhgpbchaaRows
import Derived.Test.YtbmdahhhgpbchaaOeS
import Derived.WalkKit
import Derived.ProofKit
import Derived.OpenShut
import Derived.ShutString
import Derived.ChangeOld
import Derived.Below
import Derived.Carry
import Derived.SizedLaws
import Derived.Lib.SmallJoins
namespace Go.Proofs.Ytbmdahhhgpbchaa.outbEndsRow
open Go.ChangeShapes Go.WideShapes Go.ChangeAt Go.RowKit Go.Joins Go.Sim
open Go.ChangeMaps (open_string shut_string)
set_option linter.unusedVariables false
theorem own : ownKnob Try.prog.godebug = none := by kernel_rfl
theorem laid : laidOutB Try.prog = true := by kernel_rfl
theorem vrs_nil {w : World} {S : Nat → Nat → Prop} {L : Lay} : VRs w S L [] [] := ⟨rfl, fun i x hx => by cases hx⟩
theorem vrs_cons {w : World} {S : Nat → Nat → Prop} {L : Lay} {x : AV} {xs : List AV} {v : Value} {vs : List Value} (h : VR w S L x v) (hs : VRs w S L xs vs) : VRs w S L (x :: xs) (v :: vs) :=
  ⟨congrArg (· + 1) hs.1, fun i y hy => by
    cases i with
    | zero => simp at hy; subst hy; exact h
    | succ i => exact hs.2 i y hy⟩
set_option maxRecDepth 100000 in
theorem lifted (os : Os) (started : os.Started) (H : Type) (enc : TypeId × Value → H) :
    ReturnsInHanded {} Try.checked os 5 .any (Rows.outbEndsSpec.pre6 enc Try.prog Try.f5 Rows.outbEndsRow.domain false) (Rows.outbEndsSpec.post enc Try.prog Try.f5 false true false false) := by
  refine returnsInHanded_of_change_sized (C := Try.checked) own started (by kernel_rfl) Try.func5
    (ChangeSpec.witness6 (enc := enc) (C := Try.checked) false ⟨#[], #[.slice none 0 0], []⟩ 8 (by kernel_rfl) (by kernel_rfl) (by kernel_rfl) (by kernel_rfl)) ?_
  intro W base args ds gs before hval0 hW hcnd hsz0 _
  have hsz : (DataW.weightsEach Try.prog (Try.f5.params.toList ++ Rows.outbEndsSpec.plain.varTypes Try.prog) (ds ++ gs)).all (· ≤ reachBytes) = true := hsz0
  have hval : ∀ (j : Nat) t v, Try.f5.params[j]? = some t → args[j]? = some v → Value.okWide Try.prog W .any base t v := hval0
  have hW' := hW
  obtain ⟨p, q, hA0, hV, rfl, hfz, hnd⟩ := hW
  have hA : DataW.TrodAll enc Try.prog W 0 (fun _ => true) true Try.f5.params.toList args.toList ds p := hA0
  rw [Try.params5] at hA hval hsz
  obtain ⟨v0, vs0, d0, ds0, p0, q0, hargs, rfl, rfl, h0, rr0⟩ := trodAll_cons hA
  obtain ⟨rfl, rfl, rfl⟩ := trodAll_nil rr0
  obtain rfl : args = #[v0] := by cases args; simp_all
  obtain ⟨rfl, rfl⟩ := trodVars_none hV
  have hlt : ∀ x ∈ p0 ++ [], x.block < W.heap.size := fun x hx => by have := hW'.lt x; simp only [List.append_nil] at this hx; exact this hx
  have hlt0 : ∀ x ∈ p0, x.block < W.heap.size := fun x hx => hlt x (by simp [hx])
  have k0 := h0
  obtain ⟨A0, n0, c0, rfl⟩ := okWide_slice Try.underlying62 (hval 0 62 v0 rfl rfl)
  obtain ⟨x0, o0, r0⟩ := opn_cell (opn_slice Try.underlying62 (by kernel_rfl) (of_decide_eq_true (by kernel_rfl)) (opn_int Try.underlying5 (by kernel_rfl))) (fun _ => rfl) rfl h0
  refine (con_done (OeS.ends_law x0) (cargs := #[_]) (vrs_cons r0 vrs_nil)).mono fun e W' ⟨he, bel⟩ => ?_
  subst he
  exact ⟨_, rfl, _, _, _, [], _, [], hW', trodAll_mk1 (shut_bool Try.underlying4 _), (trodAll_cons_mk (Below.trod laid (by kernel_rfl) (of_decide_eq_true (by kernel_rfl)) k0 bel hlt0) trodAll_mk0), rfl, bel.frame _, fun h => by cases h⟩
theorem over : Rows.outbEndsRow.holds Try.pinned (OpenSpec.ofChange Rows.outbEndsSpec) :=
  OpenClaim.holds_of_wide 5 Try.f5 rfl rfl rfl rfl rfl rfl rfl ⟨rfl, rfl, rfl, rfl, rfl⟩ rfl rfl rfl rfl rfl (by kernel_rfl) Try.func5 (by kernel_rfl)
    (of_decide_eq_true (by kernel_rfl)) (by unfold Func.isWrapper; first | (rw [if_pos (by decide +kernel)]; kernel_rfl) | (rw [if_neg (by decide +kernel)]; exact ⟨rfl, rfl⟩))
    (fun os started H enc _ => lifted os started H enc)
theorem proved : Rows.OutbEndsSaid := over
#print axioms proved
end Go.Proofs.Ytbmdahhhgpbchaa.outbEndsRow
namespace Go.Proofs.Ytbmdahhhgpbchaa
theorem outbEnds_holds : Rows.OutbEndsSaid := outbEndsRow.proved
end Go.Proofs.Ytbmdahhhgpbchaa
