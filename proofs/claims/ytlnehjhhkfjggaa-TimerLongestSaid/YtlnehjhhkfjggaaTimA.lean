import Derived.Test.YtlnehjhhkfjggaaTimB
import Derived.Deep.RegionHeld3
namespace Go.Proofs.Ytlnehjhhkfjggaa.TimA
open Go.RowKit Go.Proofs.Ytlnehjhhkfjggaa.PTimerFires Go.Proofs.YtlnehjhhkfjggaaW.PrintWords Go.Proofs.YtlnehjhhkfjggaaW.PrintLast Go.Proofs.YtlnehjhhkfjggaaW.PrintMore
open Go.Proofs.Ytlnehjhhkfjggaa.TimB
set_option linter.unusedVariables false
set_option linter.unusedSimpArgs false
attribute [local go_sem high] eqA50

set_option maxHeartbeats 2000000 in
set_option maxRecDepth 100000 in
theorem alive_calls (w : World) : Calls Try.prog 28 #[] w fun e w' => e = .returned (.bool true) ∧ Below w.heap.size w w' := by
  go_enter Try.func28, Try.ntmps28
  go_wp2_with (fail)
  refine (timer_Start.calls 1 true 1 1 0 _ (by kernel_rfl)).mono ?_
  rintro e w1 ⟨rfl, hb1⟩
  go_wp2_with (fail)
  refine (timer_Tick.calls 8 true 1 1 true 2 2 true _ (by kernel_rfl)).mono ?_
  rintro e w2 ⟨rfl, hb2⟩
  go_wp2_with (fail)
  have J1 := ((Blk.new w1 #[.bool true, .int .i64 1, .int .i64 1] 50).below hb2).alloc (.cells #[.bool true, .int .i64 2, .int .i64 2] 50)
  have J2 := Blk.new w2 #[.bool true, .int .i64 2, .int .i64 2] 50
  have HB : Below w.heap.size w (w2.alloc (.cells #[.bool true, .int .i64 2, .int .i64 2] 50)) := below_alloc (below_then (below_alloc hb1 _) (below_alloc hb1 _).size hb2) _
  generalize w2.alloc (Obj.cells #[Value.bool true, Value.int IntKind.i64 2, Value.int IntKind.i64 2] 50) = W at *
  generalize w1.heap.size = b1 at *
  generalize w2.heap.size = b2 at *
  obtain ⟨⟨A0, A1, A2⟩, -⟩ := J1.three
  obtain ⟨⟨B0, B1, B2⟩, -⟩ := J2.three
  clear J1 J2 hb1 hb2
  have HZ := HB.size
  go_region_held3 (fun w' => w'.cell? ⟨b1, 0, none⟩ = some (.bool true) ∧ w'.cell? ⟨b1, 1, none⟩ = some (.int .i64 1) ∧ w'.cell? ⟨b1, 2, none⟩ = some (.int .i64 1) ∧ w'.cell? ⟨b2, 0, none⟩ = some (.bool true) ∧ w'.cell? ⟨b2, 1, none⟩ = some (.int .i64 2) ∧ w'.cell? ⟨b2, 2, none⟩ = some (.int .i64 2) ∧ Below w.heap.size w w') (((try go_split_ands); refine ⟨?_, ?_, ?_, ?_, ?_, ?_, ?_⟩ <;> first | assumption | (go_keep; done) | exact pw_cell_below hb (by assumption) | exact below_drew (by assumption) | exact below_then (by assumption) (Below.size (by assumption)) hb))
    (first
      | (go_at_call 45; refine (timer_Longest.calls 20 5 31 _ (by kernel_rfl)).mono ?_; rintro e w' ⟨rfl, hb⟩)
      | (go_at_call 47; refine (timer_Again.calls true 2 2 true 1 1 _ (by kernel_rfl)).mono ?_; rintro e w' ⟨rfl, hb⟩)
      | (go_at_call 48; refine (timer_Stop.calls true 2 2 false 0 0 _ (by kernel_rfl)).mono ?_; rintro e w' ⟨rfl, hb⟩))
  all_goals
    go_wp2_with (fail)
    go_ret
    exact ⟨rfl, by go_split_ands; assumption⟩

end Go.Proofs.Ytlnehjhhkfjggaa.TimA
