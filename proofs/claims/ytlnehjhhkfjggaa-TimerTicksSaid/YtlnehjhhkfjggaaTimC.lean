import Derived.Test.YtlnehjhhkfjggaaTimA
import Derived.Outline
namespace Go.Proofs.Ytlnehjhhkfjggaa.TimC
open Go.RowKit Go.Proofs.Ytlnehjhhkfjggaa.PTimerFires Go.Proofs.YtlnehjhhkfjggaaW.PrintWords Go.Proofs.YtlnehjhhkfjggaaW.PrintLast Go.Proofs.YtlnehjhhkfjggaaW.PrintMore
open Go.Proofs.Ytlnehjhhkfjggaa.TimB Go.Proofs.Ytlnehjhhkfjggaa.TimA
set_option linter.unusedVariables false
set_option linter.unusedSimpArgs false
theorem eqA74 (d : Nat) (w : World) (x0 y0 : Bool) (x1 y1 : Int) (x2 y2 : Int) :
    (Op.equalIn (d + 2) 74 (.agg #[.bool x0, .int .i64 x1, .int .i64 x2]) (.agg #[.bool y0, .int .i64 y1, .int .i64 y2])).run Try.prog w = .ok (x0 == y0 && (x1 == y1 && (x2 == y2))) w := by
  refine eqA_of Try.underlying74 (by kernel_rfl) ?_
  refine eqf_cons (by rfl) (by go_simp; rfl) (by go_simp; rfl) (by go_simp) ?_
  refine eqf_cons (by rfl) (by go_simp; rfl) (by go_simp; rfl) (by go_simp) ?_
  exact eqf_last (by rfl) (by go_simp; rfl) (by go_simp; rfl) (by go_simp)
attribute [local go_sem high] eqA50 eqA74

set_option maxHeartbeats 4000000 in
set_option maxRecDepth 100000 in
theorem TimerTicks_calls (b : Bool) (w l n : Int) (W : World) : Calls Try.prog 11 #[.agg #[.bool b, .int .i64 w, .int .i64 l], .int .i64 n] W fun e W' => e = .returned (.bool true) ∧ Below W.heap.size W W' := by
  obtain ⟨⟨rb, rw', rl, rf⟩, hr0⟩ : ∃ r, r = tks (mn (mx n 0) 10000).toNat 0 b w l := ⟨_, rfl⟩
  have HR := Aside0.mk hr0
  obtain ⟨⟨tb, tw, tl, tf⟩, ht⟩ : ∃ q, tk b w l = q := ⟨_, rfl⟩
  have HT := Aside0.mk ht
  clear hr0 ht
  have HB0 := Aside0.mk (below_alloc (Below.refl W.heap.size W) (.cells #[.bool b, .int .i64 w, .int .i64 l] 74))
  have J0 := Aside0.mk (Blk.new W #[.bool b, .int .i64 w, .int .i64 l] 74)
  go_enter Try.func11, Try.ntmps11
  go_wp2_with (fail)
  refine (Tick_calls b w l _).mono ?_
  rintro e w1 ⟨rfl, hb⟩
  rw [HT.out]
  have J1 := Aside0.mk (J0.out.below hb)
  have HB1 := Aside0.mk (below_then HB0.out HB0.out.size hb)
  obtain ⟨⟨c0, c1, c2⟩, -⟩ := J1.out.three
  have hz := J1.out.lt
  clear hb HB0 J0
  go_wp2_with (fail)
  refine (RTick_calls b w l _).mono ?_
  rintro e w2 ⟨rfl, hb⟩
  rw [HT.out]
  have J2 := Aside0.mk ((J1.out.alloc _).below hb)
  have A2 := Aside0.mk ((Blk.new w1 #[.bool tb, .int .i64 tw, .int .i64 tl] 50).below hb)
  have HB2 := Aside0.mk (below_then (below_alloc HB1.out _) (below_alloc HB1.out _).size hb)
  obtain ⟨⟨c0', c1', c2'⟩, -⟩ := J2.out.three
  have hz2 := J2.out.lt
  generalize w1.heap.size = b1 at *
  clear hb HB1 J1 c0 c1 c2
  go_wp2_with (fail)
  refine (Ticks_calls b w l n _ _ HR.out).mono ?_
  rintro e w3 ⟨rfl, hb⟩
  have J3 := Aside0.mk ((J2.out.alloc (.cells #[.bool tb, .int .i64 tw, .int .i64 tl] 74)).below hb)
  have A3 := Aside0.mk ((A2.out.alloc (.cells #[.bool tb, .int .i64 tw, .int .i64 tl] 74)).below hb)
  have B3 := Aside0.mk ((Blk.new w2 #[.bool tb, .int .i64 tw, .int .i64 tl] 74).below hb)
  have HB3 := Aside0.mk (below_then (below_alloc HB2.out _) (below_alloc HB2.out _).size hb)
  obtain ⟨⟨c0, c1, c2⟩, -⟩ := J3.out.three
  have hz3 := J3.out.lt
  generalize w2.heap.size = b2 at *
  clear hb HB2 J2 A2 c0' c1' c2'
  go_wp2_with (fail)
  refine (RTicks_calls b w l n _ _ HR.out).mono ?_
  rintro e w4 ⟨rfl, hb⟩
  have A4 := ((A3.out.alloc (.cells #[.bool rb, .int .i64 rw', .int .i64 rl] 50)).below hb)
  have B4 := ((B3.out.alloc (.cells #[.bool rb, .int .i64 rw', .int .i64 rl] 50)).below hb)
  have C4 := ((Blk.new w3 #[.bool rb, .int .i64 rw', .int .i64 rl] 50).below hb)
  have HB4 := Aside0.mk (below_then (below_alloc HB3.out _) (below_alloc HB3.out _).size hb)
  obtain ⟨⟨c0', c1', c2'⟩, -⟩ := A4.three
  obtain ⟨⟨d0', d1', d2'⟩, -⟩ := B4.three
  obtain ⟨⟨e0', e1', e2'⟩, -⟩ := C4.three
  have hz4 := A4.lt
  have hz5 := B4.lt
  have hz6 := C4.lt
  generalize w3.heap.size = b3 at *
  clear hb HB3 J3 A3 B3 c0 c1 c2 A4 B4 C4
  go_wp2_with (fail)
  refine (alive_calls _).mono ?_
  rintro e w5 ⟨rfl, hb⟩
  have HB5 := Aside0.mk (below_then (below_alloc HB4.out _) (below_alloc HB4.out _).size hb)
  clear hb
  go_wp2_with (fail)
  go_ret
  exact ⟨rfl, HB5.out⟩
end Go.Proofs.Ytlnehjhhkfjggaa.TimC
