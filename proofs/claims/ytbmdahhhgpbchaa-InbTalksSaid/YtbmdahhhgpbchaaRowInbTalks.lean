/-
  The law InbTalks of package inb, for every input, walked over abstract states (SimA..SimD, the codes, SpnP, SwA..SwL, ObA..ObC, SnA..SnC, RbA, RbB, RbP, LyA..LyD, FrmM, InA..InC; maps by hand: MpA, MpB): no condition.
-/
import Derived.Test.YtbmdahhhgpbchaaRows
import Derived.Test.YtbmdahhhgpbchaaInC
import Derived.WalkKit
import Derived.ProofKit
import Derived.OpenShut
import Derived.ShutString
import Derived.ChangeOld
import Derived.Below
import Derived.Carry
import Derived.SizedLaws
import Derived.Lib.SmallJoins
namespace Go.Proofs.Ytbmdahhhgpbchaa.inbTalksRow
open Go.ChangeShapes Go.WideShapes Go.ChangeAt Go.RowKit Go.Joins Go.Sim
open Go.ChangeMaps (open_string shut_string)
set_option linter.unusedVariables false
theorem own : ownKnob Try.prog.godebug = none := by kernel_rfl
theorem laid : laidOutB Try.prog = true := by kernel_rfl
theorem vrs_nil {w : World} {S : Nat → Nat → Prop} {L : Lay} : VRs w S L [] [] := ⟨rfl, fun i x hx => by cases hx⟩
theorem vrs_cons {w : World} {S : Nat → Nat → Prop} {L : Lay} {x : AV} {xs : List AV} {v : Value} {vs : List Value} (h : VR w S L x v) (hs : VRs w S L xs vs) : VRs w S L (x :: xs) (v :: vs) :=
  ⟨congrArg (· + 1) hs.1, fun i y hy => by
    cases i with
    | zero => simp at hy; subst hy; exact h
    | succ i => exact hs.2 i y hy⟩
set_option maxRecDepth 100000 in
theorem lifted (os : Os) (started : os.Started) (H : Type) (enc : TypeId × Value → H) :
    ReturnsInHanded {} Try.checked os 9 .any (Rows.inbTalksSpec.pre6 enc Try.prog Try.f9 Rows.inbTalksRow.domain false) (Rows.inbTalksSpec.post enc Try.prog Try.f9 false true false false) := by
  refine returnsInHanded_of_change_sized (C := Try.checked) own started (by kernel_rfl) Try.func9
    (ChangeSpec.witness6 (enc := enc) (C := Try.checked) false ⟨#[], #[.slice none 0 0, .slice none 0 0], []⟩ 8 (by kernel_rfl) (by kernel_rfl) (by kernel_rfl) (by kernel_rfl)) ?_
  intro W base args ds gs before hval0 hW hcnd hsz0 _
  have hsz : (DataW.weightsEach Try.prog (Try.f9.params.toList ++ Rows.inbTalksSpec.plain.varTypes Try.prog) (ds ++ gs)).all (· ≤ reachBytes) = true := hsz0
  have hval : ∀ (j : Nat) t v, Try.f9.params[j]? = some t → args[j]? = some v → Value.okWide Try.prog W .any base t v := hval0
  have hW' := hW
  obtain ⟨p, q, hA0, hV, rfl, hfz, hnd⟩ := hW
  have hA : DataW.TrodAll enc Try.prog W 0 (fun _ => true) true Try.f9.params.toList args.toList ds p := hA0
  rw [Try.params9] at hA hval hsz
  obtain ⟨v0, vs0, d0, ds0, p0, q0, hargs, rfl, rfl, h0, rr0⟩ := trodAll_cons hA
  obtain ⟨v1, vs1, d1, ds1, p1, q1, rfl, rfl, rfl, h1, rr1⟩ := trodAll_cons rr0
  obtain ⟨rfl, rfl, rfl⟩ := trodAll_nil rr1
  obtain rfl : args = #[v0, v1] := by cases args; simp_all
  obtain ⟨rfl, rfl⟩ := trodVars_none hV
  have hlt : ∀ x ∈ p0 ++ (p1 ++ []), x.block < W.heap.size := fun x hx => by have := hW'.lt x; simp only [List.append_nil] at this hx; exact this hx
  have hlt0 : ∀ x ∈ p0, x.block < W.heap.size := fun x hx => hlt x (by simp [hx])
  have k0 := h0
  obtain ⟨A0, n0, c0, rfl⟩ := okWide_slice Try.underlying62 (hval 0 62 v0 rfl rfl)
  obtain ⟨x0, o0, r0⟩ := opn_cell (opn_slice Try.underlying62 (by kernel_rfl) (of_decide_eq_true (by kernel_rfl)) (opn_int Try.underlying5 (by kernel_rfl))) (fun _ => rfl) rfl h0
  have hlt1 : ∀ x ∈ p1, x.block < W.heap.size := fun x hx => hlt x (by simp [hx])
  have k1 := h1
  obtain ⟨A1, n1, c1, rfl⟩ := okWide_slice Try.underlying138 (hval 1 138 v1 rfl rfl)
  obtain ⟨x1, o1, r1⟩ := opn_cell (opn_slice Try.underlying138 (by kernel_rfl) (of_decide_eq_true (by kernel_rfl)) (opn_int Try.underlying139 (by kernel_rfl))) (fun _ => rfl) rfl h1
  refine (con_done (InC.talks_law x0 x1) (cargs := #[_, _]) (vrs_cons r0 (vrs_cons r1 vrs_nil))).mono fun e W' ⟨he, bel⟩ => ?_
  subst he
  exact ⟨_, rfl, _, _, _, [], _, [], hW', trodAll_mk1 (shut_bool Try.underlying4 _), (trodAll_cons_mk (Below.trod laid (by kernel_rfl) (of_decide_eq_true (by kernel_rfl)) k0 bel hlt0) (trodAll_cons_mk (Below.trod laid (by kernel_rfl) (of_decide_eq_true (by kernel_rfl)) k1 bel hlt1) trodAll_mk0)), rfl, bel.frame _, fun h => by cases h⟩
theorem over : Rows.inbTalksRow.holds Try.pinned (OpenSpec.ofChange Rows.inbTalksSpec) :=
  OpenClaim.holds_of_wide 9 Try.f9 rfl rfl rfl rfl rfl rfl rfl ⟨rfl, rfl, rfl, rfl, rfl⟩ rfl rfl rfl rfl rfl (by kernel_rfl) Try.func9 (by kernel_rfl)
    (of_decide_eq_true (by kernel_rfl)) (by unfold Func.isWrapper; first | (rw [if_pos (by decide +kernel)]; kernel_rfl) | (rw [if_neg (by decide +kernel)]; exact ⟨rfl, rfl⟩))
    (fun os started H enc _ => lifted os started H enc)
theorem proved : Rows.InbTalksSaid := over
#print axioms proved
end Go.Proofs.Ytbmdahhhgpbchaa.inbTalksRow
namespace Go.Proofs.Ytbmdahhhgpbchaa
theorem inbTalks_holds : Rows.InbTalksSaid := inbTalksRow.proved
end Go.Proofs.Ytbmdahhhgpbchaa
