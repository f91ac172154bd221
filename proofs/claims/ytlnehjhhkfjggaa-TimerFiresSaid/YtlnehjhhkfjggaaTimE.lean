import Derived.Test.YtlnehjhhkfjggaaTimA
import Derived.Test.YtlnehjhhkfjggaaTimD
import Derived.Outline
namespace Go.Proofs.Ytlnehjhhkfjggaa.TimE
open Go.RowKit Go.Proofs.Ytlnehjhhkfjggaa.PTimerFires Go.Proofs.YtlnehjhhkfjggaaW.PrintWords Go.Proofs.YtlnehjhhkfjggaaW.PrintLast Go.Proofs.YtlnehjhhkfjggaaW.PrintMore
open Go.Proofs.Ytlnehjhhkfjggaa.TimB Go.Proofs.Ytlnehjhhkfjggaa.TimA Go.Proofs.Ytlnehjhhkfjggaa.TimD
set_option linter.unusedVariables false
set_option linter.unusedSimpArgs false
attribute [local go_sem high] eqA50
attribute [local go_sem] max2_int min2_int max_two min_two

set_option maxHeartbeats 4000000 in
set_option maxRecDepth 100000 in
theorem TimerLongest_calls (n : Int) (h0 : 0 ≤ n) (h1 : n ≤ 255) (W : World) : Calls Try.prog 12 #[.int .u8 n] W fun e W' => e = .returned (.bool true) ∧ Below W.heap.size W W' := by
  obtain ⟨L, hL⟩ : ∃ L, lg n.toNat 1 = L := ⟨_, rfl⟩
  have hl := Longest_is n h0 h1
  obtain ⟨a, b, hf⟩ := Ticks_full n h0 h1
  obtain ⟨c, d, hg⟩ := Ticks_less n h0 h1
  have hlr := lg_rng n.toNat 1 (by omega) (by omega)
  rw [hL] at hl hf hg hlr
  have HL := Aside0.mk hl
  have HF := Aside0.mk hf
  have HG := Aside0.mk hg
  have hL0 : 0 ≤ L := by omega
  have hL1 : L ≤ 4080 := by omega
  clear hl hf hg hL hlr
  obtain ⟨M, hM⟩ : ∃ M, (if n - 1 < 0 then 0 else n - 1) = M := ⟨_, rfl⟩
  rw [hM] at HG
  have HB0 := Aside0.mk (Below.refl W.heap.size W)
  go_enter Try.func12, Try.ntmps12
  go_wp2_with (fail)
  refine (timer_Start.calls 1 true 1 1 0 _ (by kernel_rfl)).mono ?_
  rintro e w1 ⟨rfl, hb⟩
  have HB1 := Aside0.mk hb
  have hs1 := hb.size
  clear hb HB0
  go_wp2_with (fail)
  refine (timer_Longest.calls 300 n L _ HL.out).mono ?_
  rintro e w2 ⟨rfl, hb⟩
  have J2 := Aside0.mk ((Blk.new w1 #[.bool true, .int .i64 1, .int .i64 1] 50).below hb)
  have HB2 := Aside0.mk (below_then (below_alloc HB1.out _) (below_alloc HB1.out _).size hb)
  obtain ⟨⟨c0, c1, c2⟩, -⟩ := J2.out.three
  have hz2 := J2.out.lt
  generalize w1.heap.size = b1 at *
  clear hb HB1
  go_wp2_with (fail)
  refine (Ticks_calls true 1 1 L _ _ HF.out).mono ?_
  rintro e w3 ⟨rfl, hb⟩
  have J3 := Aside0.mk (J2.out.below hb)
  have HB3 := Aside0.mk (below_then HB2.out HB2.out.size hb)
  obtain ⟨⟨c0', c1', c2'⟩, -⟩ := J3.out.three
  have hz3 := J3.out.lt
  clear hb HB2 J2 c0 c1 c2
  go_wp2_with (fail)
  refine (Ticks_calls true 1 1 (L - 1) _ _ HG.out).mono ?_
  rintro e w4 ⟨rfl, hb⟩
  have HB4 := Aside0.mk (below_then (below_alloc HB3.out _) (below_alloc HB3.out _).size hb)
  clear hb HB3 J3 c0' c1' c2'
  go_wp2_with (fail)
  refine (alive_calls _).mono ?_
  rintro e w5 ⟨rfl, hb⟩
  have HB5 := Aside0.mk (below_then (below_alloc HB4.out _) (below_alloc HB4.out _).size hb)
  clear hb
  go_wp2_with (fail)
  go_ret
  exact ⟨rfl, HB5.out⟩

/-- Where the rounds stand. -/
def Mid (n : Int) (k : Nat) (la mo i w l : Int) : Prop := n - i = k ∧ la + l = w ∧ mo ≤ 16
theorem may_is {w l : Int} (h1 : 1 ≤ l) (h2 : l ≤ w) (h3 : w ≤ 16) : timer_May.f true w l = some true := by
  unfold timer_May.f
  rw [if_pos rfl, if_pos (by omega), if_pos (by omega), decide_eq_true h3]

set_option maxHeartbeats 4000000 in
set_option maxRecDepth 100000 in
theorem TimerFires_calls (a n : Int) (h0 : 0 ≤ n) (h1 : n ≤ 255) (W : World) : Calls Try.prog 6 #[.int .i64 a, .int .u8 n] W fun e W' => e = .returned (.bool true) ∧ Below W.heap.size W W' := by
  have HB0 := Aside0.mk (Below.refl W.heap.size W)
  by_cases ha : 1 ≤ a ∧ a ≤ 16
  · obtain ⟨ha1, ha2⟩ := ha
    go_enter Try.func6, Try.ntmps6
    go_wp2_with (fail)
    refine (timer_Start.calls a true a a 0 _ (by simp [timer_Start.f, timer_May.f, ha1, ha2])).mono ?_
    rintro e w1 ⟨rfl, hb⟩
    have J1 := Aside0.mk (Blk.new w1 #[.bool true, .int .i64 a, .int .i64 a] 50)
    have HB1 := Aside0.mk (below_alloc hb (.cells #[.bool true, .int .i64 a, .int .i64 a] 50))
    have hs := hb.size
    go_wp2_with (fail)
    generalize w1.alloc (.cells #[.bool true, .int .i64 a, .int .i64 a] 50) = W1 at *
    generalize w1.heap.size = b1 at *
    clear hb HB0
    go_loopg [7, 8, 28] n.toNat (fun k la mo i wr => ∃ (la' mo' i' w l : Int), la = .int .i64 la' ∧ mo = .int .i64 mo' ∧ i = .int .i64 i' ∧ 0 ≤ la' ∧ la' ≤ 15 ∧ 0 ≤ i' ∧ 1 ≤ l ∧ l ≤ w ∧ w ≤ mo' ∧ w ≤ 16 ∧ Aside0 (Mid n k la' mo' i' w l) ∧ Aside0 (Blk wr b1 #[.bool true, .int .i64 w, .int .i64 l] 50) ∧ Aside0 (Below W.heap.size W wr))
    case atStart => exact ⟨0, a, 0, a, a, rfl, rfl, rfl, by omega, by omega, by omega, ha1, by omega, by omega, ha2, ⟨⟨by omega, by omega, ha2⟩⟩, J1, HB1⟩
    case round =>
      clear J1 HB1
      obtain ⟨la, mo, i, w, l, rfl, rfl, rfl, q1, q2, q3, q4, q5, q6, q7, HM, K1, HB⟩ := hrel
      obtain ⟨⟨c0, c1, c2⟩, f0, f1, f2⟩ := K1.out.three
      have hlt := K1.out.lt
      by_cases hi : i < n
      · by_cases hl : 2 ≤ l
        · have HT := Aside0.mk (tk_down hl q5 q7)
          go_wp2_with (fail)
          refine (Tick_calls true w l _).mono ?_
          rintro e w2 ⟨rfl, hb⟩
          rw [HT.out]
          have K2 := K1.out.below hb
          have HB2 := Aside0.mk (below_then HB.out HB.out.size hb)
          obtain ⟨⟨c0', c1', c2'⟩, f0', f1', f2'⟩ := K2.three
          have K2' := Aside0.mk ((((K2.set 0 (.bool true)).set 1 (.int .i64 w)).set 2 (.int .i64 (l - 1))).alloc (.cells #[.bool true, .int .i64 w, .int .i64 (l - 1)] 50))
          have HB2' := Aside0.mk (below_alloc (((HB2.out.setCell (p := ⟨b1, 0, none⟩) hs (.bool true)).setCell (p := ⟨b1, 1, none⟩) hs (.int .i64 w)).setCell (p := ⟨b1, 2, none⟩) hs (.int .i64 (l - 1))) (.cells #[.bool true, .int .i64 w, .int .i64 (l - 1)] 50))
          have hz := K2.lt
          clear K2 hb HB2
          go_wp2_with (fail)
          refine (timer_May.calls true w (l - 1) true _ (may_is (by omega) (by omega) q7)).mono ?_
          rintro e w3 ⟨rfl, hb⟩
          have K3 := K2'.out.below hb
          have HB3 := Aside0.mk (below_then HB2'.out HB2'.out.size hb)
          obtain ⟨⟨g0, g1, g2⟩, -⟩ := K3.three
          have hz3 := K3.lt
          have K3' := Aside0.mk K3
          clear K3 hb HB2' K2' c0' c1' c2' f0' f1' f2'
          have hmo := HM.out.2.1
          have hm1 : ¬ mo < la + 1 := by omega
          clear hmo
          go_wp2_with (fail)
          go_roundg (gk - 1)
          case measure => have := HM.out.1; omega
          case rel =>
            have := HM.out
            unfold Mid at this
            exact ⟨la + 1, mo, i + 1, w, l - 1, rfl, rfl, rfl, by omega, by omega, by omega, by omega, by omega, q6, q7, ⟨⟨by omega, by omega, by omega⟩⟩, K3', HB3⟩
        · obtain rfl : l = 1 := by omega
          obtain ⟨M, hM⟩ : ∃ M, (if 16 < 2 * (la + 1) then 16 else 2 * (la + 1)) = M := ⟨_, rfl⟩
          have hw : la + 1 = w := HM.out.2.1
          have hMr : 1 ≤ M ∧ M ≤ 16 := by split at hM <;> omega
          have ht := tk_fire (w := w) (by omega) q7
          rw [show mn (w + w) 16 = M from by unfold mn; rw [← hM, show w + w = 2 * (la + 1) by omega]] at ht
          have HT := Aside0.mk ht
          obtain ⟨hM1, hM2⟩ := hMr
          have hm1 : ¬ mo < la + 1 := by omega
          clear ht hw
          go_wp2_with (fail)
          refine (Tick_calls true w 1 _).mono ?_
          rintro e w2 ⟨rfl, hb⟩
          rw [HT.out]
          have K2 := K1.out.below hb
          have HB2 := Aside0.mk (below_then HB.out HB.out.size hb)
          obtain ⟨⟨c0', c1', c2'⟩, f0', f1', f2'⟩ := K2.three
          have K2' := Aside0.mk ((((K2.set 0 (.bool true)).set 1 (.int .i64 M)).set 2 (.int .i64 M)).alloc (.cells #[.bool true, .int .i64 M, .int .i64 M] 50))
          have HB2' := Aside0.mk (below_alloc (((HB2.out.setCell (p := ⟨b1, 0, none⟩) hs (.bool true)).setCell (p := ⟨b1, 1, none⟩) hs (.int .i64 M)).setCell (p := ⟨b1, 2, none⟩) hs (.int .i64 M)) (.cells #[.bool true, .int .i64 M, .int .i64 M] 50))
          have hz := K2.lt
          clear K2 hb HB2
          go_wp2_with (fail)
          refine (timer_May.calls true M M true _ (may_is (by omega) (by omega) hM2)).mono ?_
          rintro e w3 ⟨rfl, hb⟩
          have K3 := K2'.out.below hb
          have HB3 := Aside0.mk (below_then HB2'.out HB2'.out.size hb)
          obtain ⟨⟨g0, g1, g2⟩, -⟩ := K3.three
          have hz3 := K3.lt
          have K3' := Aside0.mk K3
          clear K3 hb HB2' K2' c0' c1' c2' f0' f1' f2'
          go_wp2_with (fail)
          go_roundg (gk - 1)
          case measure => have := HM.out.1; omega
          case rel =>
            have := HM.out
            unfold Mid at this
            exact ⟨0, 16, i + 1, M, M, rfl, rfl, rfl, by omega, by omega, by omega, by omega, by omega, hM2, hM2, ⟨⟨by omega, by omega, by omega⟩⟩, K3', HB3⟩
      · go_wp2_with (fail)
        refine (alive_calls _).mono ?_
        rintro e w5 ⟨rfl, hb⟩
        have HB5 := Aside0.mk (below_then HB.out HB.out.size hb)
        clear hb
        go_wp2_with (fail)
        go_ret
        exact ⟨rfl, HB5.out⟩
  · have hst : timer_Start.f a = some (false, 0, 0, 1) := by
      unfold timer_Start.f timer_May.f
      by_cases h1 : 1 ≤ a <;> by_cases h2 : a ≤ 16 <;> simp [h1, h2] <;> omega
    have HS := Aside0.mk hst
    clear hst
    go_enter Try.func6, Try.ntmps6
    go_wp2_with (fail)
    refine (timer_Start.calls a false 0 0 1 _ HS.out).mono ?_
    rintro e w1 ⟨rfl, hb⟩
    have HB1 := Aside0.mk (below_alloc hb (.cells #[.bool false, .int .i64 0, .int .i64 0] 50))
    clear hb
    go_wp2_with (fail)
    refine (alive_calls _).mono ?_
    rintro e w5 ⟨rfl, hb⟩
    have HB5 := Aside0.mk (below_then HB1.out HB1.out.size hb)
    clear hb
    go_wp2_with (fail)
    go_ret
    exact ⟨rfl, HB5.out⟩
end Go.Proofs.Ytlnehjhhkfjggaa.TimE
