import Derived.Test.YtnfgnafphfddhaaLnkF
namespace Go.Proofs.Ytnfgnafphfddhaa.LnkG
open Go.RowKit Go.Proofs.YtnfgnafphfddhaaW.PrintWords Go.Proofs.YtnfgnafphfddhaaW.PrintMore Go.Proofs.Ytnfgnafphfddhaa.Bas Go.Proofs.Ytnfgnafphfddhaa.LnkA Go.Proofs.Ytnfgnafphfddhaa.LnkB Go.Proofs.Ytnfgnafphfddhaa.LnkC Go.Proofs.Ytnfgnafphfddhaa.LnkD Go.Proofs.Ytnfgnafphfddhaa.LnkF
set_option linter.unusedVariables false
set_option linter.unusedSimpArgs false

theorem turnL_big {l : List Int} (h : ¬ l.length < 4) (ax : Nat) (y : Nat → Nat) : turnL l ax y = T l (ax % (l.length - 3)) y 4 := if_neg h
theorem turnL_small {l : List Int} (h : l.length < 4) (ax : Nat) (y : Nat → Nat) : turnL l ax y = [] := if_pos h
theorem turnL_length {l : List Int} (h : ¬ l.length < 4) (ax : Nat) (y : Nat → Nat) : (turnL l ax y).length = l.length := by rw [turnL_big h, T_length]
theorem turnL_byt {l : List Int} (hB : Byt l) (ax : Nat) (y : Nat → Nat) (hy : ∀ i, y i < 256) : Byt (turnL l ax y) := by
  by_cases h : l.length < 4
  · rw [turnL_small h]; intro i; simp
  · rw [turnL_big h]
    have := Nat.mod_lt ax (show 0 < l.length - 3 by omega)
    exact T_byt l hB _ y hy 4 (by omega)
theorem turn_twice {l : List Int} (h : ¬ l.length < 4) (hB : Byt l) (ax : Nat) (y : Nat → Nat) (hy : ∀ i, y i < 256) : turnL (turnL l ax y) ax y = l := by
  have hl := turnL_length h ax y
  have hK := Nat.mod_lt ax (show 0 < l.length - 3 by omega)
  refine getD_ext (by rw [turnL_length (by rw [hl]; exact h), hl]) fun i hi => ?_
  have hB2 := turnL_byt hB ax y hy
  rw [turnL_big (l := turnL l ax y) (by rw [hl]; exact h), hl, T_getD _ hB2 _ y 4 (by rw [hl]; omega) i, turnL_big h, T_getD l hB _ y 4 (by omega) i]
  have hb := hB i
  by_cases hc : ax % (l.length - 3) ≤ i ∧ i < ax % (l.length - 3) + 4
  · rw [if_pos hc, if_pos hc, Int.toNat_natCast, Nat.xor_assoc, Nat.xor_self, Nat.xor_zero]
    omega
  · rw [if_neg hc, if_neg hc]

set_option maxHeartbeats 8000000 in
set_option maxRecDepth 100000 in
theorem LinkTurns_nat (A : Option Addr) (n c : Nat) (l : List Int) (kd : Int) (ax : Nat) (y : Nat → Nat) (W : World) (hr : ReadsInt W .u8 A n l) (hB : Byt l) (hc : n ≤ c) (hax : ax < 65536) (hy : ∀ i, y i < 256) :
    Calls Try.prog 3 #[.slice A n c, fv kd ax y] W fun e W' => e = .returned (.bool true) ∧ Below W.heap.size W W' := by
  have hmx := hr.2.1
  have hln := hr.1
  have HR := Aside0.mk hr
  have HYY := Aside0.mk hy
  have HBY := Aside0.mk hB
  have HB := Aside0.mk (below_alloc (Below.refl W.heap.size W) (.cells #[.int .i64 kd, .int .u16 ax, .int .u8 (y 0), .int .u8 (y 1), .int .u8 (y 2), .int .u8 (y 3)] 26))
  have HX := Aside0.mk (blk_new W (.cells #[.int .i64 kd, .int .u16 ax, .int .u8 (y 0), .int .u8 (y 1), .int .u8 (y 2), .int .u8 (y 3)] 26))
  by_cases hl : 500 < n
  · have hl' : (500 : Int) < (n : Int) := by omega
    clear hr hy hB
    go_enter Try.func3, Try.ntmps3
    go_wp2_with (fail)
    refine (alive_calls _).mono ?_
    rintro e w1 ⟨rfl, hb⟩
    have HB := Aside0.mk (below_then HB.out (by simp) hb)
    clear hb
    go_wp2_with (fail)
    go_ret
    exact ⟨rfl, HB.out⟩
  · have hl' : ¬ (500 : Int) < (n : Int) := by omega
    have hT2 : 4 ≤ n → turnL (turnL l ax y) ax y = l := fun h => turn_twice (by omega) hB ax y hy
    have HT2 := Aside0.mk hT2
    have HTB := Aside0.mk (turnL_byt hB ax y hy)
    have HTL : Aside0 ((turnL l ax y).length = if 4 ≤ n then n else 0) := ⟨by
      by_cases h : 4 ≤ n
      · rw [if_pos h, turnL_length (by omega), hln]
      · rw [if_neg h, turnL_small (by omega)]; rfl⟩
    clear hr hy hB hT2
    by_cases h4 : 4 ≤ n
    · have HD := Aside0.mk (decide_eq_true h4)
      have HD2 : Aside0 (decide (4 ≤ (turnL l ax y).length) = true) := ⟨by rw [HTL.out, if_pos h4]; exact decide_eq_true h4⟩
      go_enter Try.func3, Try.ntmps3
      go_wp2_with (fail)
      refine (theirs_calls kd ax (y 0) (y 1) (y 2) (y 3) _).mono ?_
      rintro e w1 ⟨rfl, hb⟩
      have HR := Aside0.mk ((HR.out.allocS (.cells #[.int .i64 kd, .int .u16 ax, .int .u8 (y 0), .int .u8 (y 1), .int .u8 (y 2), .int .u8 (y 3)] 26)).below hb)
      have HX := Aside0.mk (blk_below HX.out hb)
      have HB := Aside0.mk (below_then HB.out (by simp) hb)
      have hs := HB.out.size
      clear hb
      go_wp2_with (fail)
      refine (Turn_calls A n c l kd ax y _ HR.out HBY.out (by omega) hax HYY.out).mono ?_
      rintro e w2 ⟨v2, rfl, hown, hb⟩
      rw [HD.out]
      obtain ⟨A2, c2, rfl, hc2, hr2⟩ := Bas.own_cap hown
      have HR2 := Aside0.mk hr2
      have HR := Aside0.mk (HR.out.below hb)
      have HX := Aside0.mk (blk_below HX.out hb)
      have HB := Aside0.mk (below_then HB.out hs hb)
      have hs := HB.out.size
      have hgx := blk_lt HX.out
      clear hb hown hr2
      have p0 := blk_cell HX.out 0
      have p1 := blk_cell HX.out 1
      have p2 := blk_cell HX.out 2
      have p3 := blk_cell HX.out 3
      have p4 := blk_cell HX.out 4
      have p5 := blk_cell HX.out 5
      go_wp2_with (fail)
      refine (RTurn_calls A n c l kd ax y _ HR.out HBY.out (by omega) hax HYY.out).mono ?_
      rintro e w3 ⟨v3, rfl, hown, hb⟩
      rw [HD.out]
      obtain ⟨A3, c3, rfl, hc3, hr3⟩ := Bas.own_cap hown
      have HR3 := Aside0.mk hr3
      have HR2 := Aside0.mk (HR2.out.below hb)
      have HR := Aside0.mk (HR.out.below hb)
      have HX := Aside0.mk (blk_below HX.out hb)
      have HB := Aside0.mk (below_then HB.out hs hb)
      have hs := HB.out.size
      have hgx := blk_lt HX.out
      clear hb hown hr3 p0 p1 p2 p3 p4 p5
      have p0 := blk_cell HX.out 0
      have p1 := blk_cell HX.out 1
      have p2 := blk_cell HX.out 2
      have p3 := blk_cell HX.out 3
      have p4 := blk_cell HX.out 4
      have p5 := blk_cell HX.out 5
      go_wp2_with (fail)
      refine (theirs_calls kd ax (y 0) (y 1) (y 2) (y 3) _).mono ?_
      rintro e w4 ⟨rfl, hb⟩
      have HR3 := Aside0.mk (HR3.out.below hb)
      have HR2 := Aside0.mk (HR2.out.below hb)
      have HR := Aside0.mk (HR.out.below hb)
      have HB := Aside0.mk (below_then HB.out hs hb)
      have hs := HB.out.size
      clear hb p0 p1 p2 p3 p4 p5
      go_wp2_with (fail)
      refine (Turn_calls A2 (turnL l ax y).length c2 (turnL l ax y) kd ax y _ HR2.out HTB.out (by rw [HTL.out]; split <;> omega) hax HYY.out).mono ?_
      rintro e w5 ⟨v5, rfl, hown, hb⟩
      obtain ⟨A5, c5, rfl, hc5, hr5⟩ := Bas.own_cap hown
      have HR5 := Aside0.mk hr5
      have HR3 := Aside0.mk (HR3.out.below hb)
      have HR2 := Aside0.mk (HR2.out.below hb)
      have HR := Aside0.mk (HR.out.below hb)
      have HB := Aside0.mk (below_then HB.out hs hb)
      have hs := HB.out.size
      rw [HD2.out]
      rw [HT2.out h4] at HR5 hc5 ⊢
      rw [hln] at HR5 hc5 ⊢
      clear hb hown hr5
      go_wp2_with (fail)
      refine (Same_n A2 _ c2 _ A3 _ c3 _ _ HR2.out hc2 HR3.out hc3).mono ?_
      rintro e w6 ⟨rfl, hb⟩
      rw [decide_eq_true rfl]
      have HR5 := Aside0.mk (HR5.out.below hb)
      have HR := Aside0.mk (HR.out.below hb)
      have HB := Aside0.mk (below_then HB.out hs hb)
      have hs := HB.out.size
      clear hb
      go_wp2_with (fail)
      refine (Same_n A5 n c5 l A n c l _ HR5.out hc5 HR.out hc).mono ?_
      rintro e w7 ⟨rfl, hb⟩
      rw [decide_eq_true rfl]
      have HB := Aside0.mk (below_then HB.out hs hb)
      have hs := HB.out.size
      clear hb
      go_wp2_with (fail)
      refine (alive_calls _).mono ?_
      rintro e w8 ⟨rfl, hb⟩
      have HB := Aside0.mk (below_then HB.out hs hb)
      clear hb
      go_wp2_with (fail)
      go_ret
      exact ⟨rfl, HB.out⟩
    · have HD := Aside0.mk (decide_eq_false h4)
      have HD2 : Aside0 (decide (4 ≤ (turnL l ax y).length) = false) := ⟨by rw [HTL.out, if_neg h4]; rfl⟩
      go_enter Try.func3, Try.ntmps3
      go_wp2_with (fail)
      refine (theirs_calls kd ax (y 0) (y 1) (y 2) (y 3) _).mono ?_
      rintro e w1 ⟨rfl, hb⟩
      have HR := Aside0.mk ((HR.out.allocS (.cells #[.int .i64 kd, .int .u16 ax, .int .u8 (y 0), .int .u8 (y 1), .int .u8 (y 2), .int .u8 (y 3)] 26)).below hb)
      have HX := Aside0.mk (blk_below HX.out hb)
      have HB := Aside0.mk (below_then HB.out (by simp) hb)
      have hs := HB.out.size
      clear hb
      go_wp2_with (fail)
      refine (Turn_calls A n c l kd ax y _ HR.out HBY.out (by omega) hax HYY.out).mono ?_
      rintro e w2 ⟨v2, rfl, hown, hb⟩
      rw [HD.out]
      obtain ⟨A2, c2, rfl, hc2, hr2⟩ := Bas.own_cap hown
      have HR2 := Aside0.mk hr2
      have HR := Aside0.mk (HR.out.below hb)
      have HX := Aside0.mk (blk_below HX.out hb)
      have HB := Aside0.mk (below_then HB.out hs hb)
      have hs := HB.out.size
      have hgx := blk_lt HX.out
      clear hb hown hr2
      have p0 := blk_cell HX.out 0
      have p1 := blk_cell HX.out 1
      have p2 := blk_cell HX.out 2
      have p3 := blk_cell HX.out 3
      have p4 := blk_cell HX.out 4
      have p5 := blk_cell HX.out 5
      go_wp2_with (fail)
      refine (RTurn_calls A n c l kd ax y _ HR.out HBY.out (by omega) hax HYY.out).mono ?_
      rintro e w3 ⟨v3, rfl, hown, hb⟩
      rw [HD.out]
      obtain ⟨A3, c3, rfl, hc3, hr3⟩ := Bas.own_cap hown
      have HR3 := Aside0.mk hr3
      have HR2 := Aside0.mk (HR2.out.below hb)
      have HR := Aside0.mk (HR.out.below hb)
      have HX := Aside0.mk (blk_below HX.out hb)
      have HB := Aside0.mk (below_then HB.out hs hb)
      have hs := HB.out.size
      have hgx := blk_lt HX.out
      clear hb hown hr3 p0 p1 p2 p3 p4 p5
      have p0 := blk_cell HX.out 0
      have p1 := blk_cell HX.out 1
      have p2 := blk_cell HX.out 2
      have p3 := blk_cell HX.out 3
      have p4 := blk_cell HX.out 4
      have p5 := blk_cell HX.out 5
      go_wp2_with (fail)
      refine (theirs_calls kd ax (y 0) (y 1) (y 2) (y 3) _).mono ?_
      rintro e w4 ⟨rfl, hb⟩
      have HR3 := Aside0.mk (HR3.out.below hb)
      have HR2 := Aside0.mk (HR2.out.below hb)
      have HR := Aside0.mk (HR.out.below hb)
      have HB := Aside0.mk (below_then HB.out hs hb)
      have hs := HB.out.size
      clear hb p0 p1 p2 p3 p4 p5
      go_wp2_with (fail)
      refine (Turn_calls A2 (turnL l ax y).length c2 (turnL l ax y) kd ax y _ HR2.out HTB.out (by rw [HTL.out]; split <;> omega) hax HYY.out).mono ?_
      rintro e w5 ⟨v5, rfl, hown, hb⟩
      obtain ⟨A5, c5, rfl, hc5, hr5⟩ := Bas.own_cap hown
      have HR5 := Aside0.mk hr5
      have HR3 := Aside0.mk (HR3.out.below hb)
      have HR2 := Aside0.mk (HR2.out.below hb)
      have HR := Aside0.mk (HR.out.below hb)
      have HB := Aside0.mk (below_then HB.out hs hb)
      have hs := HB.out.size
      rw [HD2.out]
      clear hb hown hr5
      go_wp2_with (fail)
      refine (Same_n A2 _ c2 _ A3 _ c3 _ _ HR2.out hc2 HR3.out hc3).mono ?_
      rintro e w6 ⟨rfl, hb⟩
      rw [decide_eq_true rfl]
      have HR5 := Aside0.mk (HR5.out.below hb)
      have HR := Aside0.mk (HR.out.below hb)
      have HB := Aside0.mk (below_then HB.out hs hb)
      have hs := HB.out.size
      clear hb
      go_wp2_with (fail)
      refine (alive_calls _).mono ?_
      rintro e w8 ⟨rfl, hb⟩
      have HB := Aside0.mk (below_then HB.out hs hb)
      clear hb
      go_wp2_with (fail)
      go_ret
      exact ⟨rfl, HB.out⟩
end Go.Proofs.Ytnfgnafphfddhaa.LnkG
