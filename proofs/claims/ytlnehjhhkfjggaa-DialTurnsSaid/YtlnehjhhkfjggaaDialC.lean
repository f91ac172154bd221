import Derived.Test.YtlnehjhhkfjggaaDialB
namespace Go.Proofs.Ytlnehjhhkfjggaa.DialC
open Go.RowKit Go.Proofs.YtlnehjhhkfjggaaW.PrintWords Go.Proofs.YtlnehjhhkfjggaaW.PrintMore Go.Proofs.Ytlnehjhhkfjggaa.DialA Go.Proofs.Ytlnehjhhkfjggaa.DialB
set_option linter.unusedVariables false
set_option linter.unusedSimpArgs false

/-- The float of a whole number. -/
def fl (n : Int) : Nat := floatOfInt .f64 n
theorem fl_table : ((List.range 256).all fun k => sameF (fl ((k : Int) - 128)) 4607182418800017408 == ((k : Int) - 128 == 1) && sameF (fl ((k : Int) - 128)) 0 == ((k : Int) - 128 == 0) && sameF (fl ((k : Int) - 128)) 13830554455654793216 == ((k : Int) - 128 == -1)) = true := by kernel_rfl
theorem fl_is (a : Int) (h1 : -128 ≤ a) (h2 : a ≤ 127) : sameF (fl a) 4607182418800017408 = (a == 1) ∧ sameF (fl a) 0 = (a == 0) ∧ sameF (fl a) 13830554455654793216 = (a == -1) := by
  have h := List.all_eq_true.1 fl_table (a + 128).toNat (List.mem_range.2 (by omega))
  simp only [Bool.and_eq_true, beq_iff_eq] at h
  rw [show (((a + 128).toNat : Nat) : Int) - 128 = a by omega] at h
  exact ⟨h.1.1, h.1.2, h.2⟩

/-- Which quarter two whole numbers are, as far as the first k go. -/
def wantAt (a b : Int) : Nat → Int × Bool
  | 0 => (0, false)
  | k + 1 => if pre k = a ∧ pim k = b then ((k : Int), true) else wantAt a b k

/-- A whole number, as the four quarters' parts see it. -/
theorem seen (a : Int) : (a = 1 ∨ a = 0 ∨ a = -1) ∨ ((a == 1) = false ∧ (a == 0) = false ∧ (a == -1) = false ∧ ¬ (1 = a) ∧ ¬ (0 = a) ∧ ¬ (-1 = a)) := by
  by_cases h : a = 1 ∨ a = 0 ∨ a = -1
  · exact .inl h
  · exact .inr ⟨beq_eq_false_iff_ne.2 (by omega), beq_eq_false_iff_ne.2 (by omega), beq_eq_false_iff_ne.2 (by omega), by omega, by omega, by omega⟩
theorem quarter_whole (a b : Int) (h1 : -128 ≤ a) (h2 : a ≤ 127) (h3 : -128 ≤ b) (h4 : b ≤ 127) :
    (((quarterOf (fl a) (fl b)).1 : Nat) : Int) = (wantAt a b 4).1 ∧ (quarterOf (fl a) (fl b)).2 = (wantAt a b 4).2 := by
  obtain ⟨a1, a0, an⟩ := fl_is a h1 h2
  obtain ⟨b1, b0, bn⟩ := fl_is b h3 h4
  unfold quarterOf sameC
  rw [show re 0 = 4607182418800017408 from rfl, show im 0 = 0 from rfl, show re 1 = 0 from rfl, show im 1 = 4607182418800017408 from rfl, show re 2 = 13830554455654793216 from rfl, show im 2 = 0 from rfl, show re 3 = 0 from rfl, show im 3 = 13830554455654793216 from rfl]
  rw [a1, a0, an, b1, b0, bn]
  rw [show wantAt a b 4 = if (0 : Int) = a ∧ (-1 : Int) = b then ((3 : Int), true) else if (-1 : Int) = a ∧ (0 : Int) = b then ((2 : Int), true) else if (0 : Int) = a ∧ (1 : Int) = b then ((1 : Int), true) else if (1 : Int) = a ∧ (0 : Int) = b then ((0 : Int), true) else (0, false) from rfl]
  clear a1 a0 an b1 b0 bn h1 h2 h3 h4
  rcases seen a with (rfl | rfl | rfl) | ⟨x1, x2, x3, x4, x5, x6⟩
  · rcases seen b with (rfl | rfl | rfl) | ⟨y1, y2, y3, y4, y5, y6⟩ <;> first | decide | (rw [y1, y2, y3]; simp [y4, y5, y6])
  · rcases seen b with (rfl | rfl | rfl) | ⟨y1, y2, y3, y4, y5, y6⟩ <;> first | decide | (rw [y1, y2, y3]; simp [y4, y5, y6])
  · rcases seen b with (rfl | rfl | rfl) | ⟨y1, y2, y3, y4, y5, y6⟩ <;> first | decide | (rw [y1, y2, y3]; simp [y4, y5, y6])
  · rw [x1, x2, x3]; simp [x4, x5, x6]

theorem self_table : ((List.range 4).all fun i => quarterOf (re i) (im i) == (i, true)) = true := by kernel_rfl
theorem quarter_self (i : Nat) (hi : i < 4) : quarterOf (re i) (im i) = (i, true) := by
  have h := List.all_eq_true.1 self_table i (List.mem_range.2 hi)
  simpa using h
theorem part_is (i : Nat) (hi : i < 4) : (FloatKind.f64.format.order (re i) (floatOfInt .f64 (pre i)) != some .eq) = false ∧ (FloatKind.f64.format.order (im i) (floatOfInt .f64 (pim i)) != some .eq) = false := by
  match i, hi with
  | 0, _ => exact ⟨by kernel_rfl, by kernel_rfl⟩
  | 1, _ => exact ⟨by kernel_rfl, by kernel_rfl⟩
  | 2, _ => exact ⟨by kernel_rfl, by kernel_rfl⟩
  | 3, _ => exact ⟨by kernel_rfl, by kernel_rfl⟩

set_option maxHeartbeats 4000000 in
set_option maxRecDepth 100000 in
theorem DialTurns_calls (n a b : Int) (h0 : 0 ≤ n) (h00 : n ≤ 4294967295) (h1 : -128 ≤ a) (h2 : a ≤ 127) (h3 : -128 ≤ b) (h4 : b ≤ 127) (W : World) : Calls Try.prog 3 #[.int .u32 n, .int .i8 a, .int .i8 b] W fun e W' => e = .returned (.bool true) ∧ Below W.heap.size W W' := by
  obtain ⟨i, hi, hi4⟩ : ∃ i : Nat, n % 4 = i ∧ i < 4 := ⟨(n % 4).toNat, by omega, by omega⟩
  have HI := Aside0.mk hi
  obtain ⟨p1, p2⟩ := part_is i hi4
  have hre : ∀ (ts : Array TypeId) (t : TypeId) (w : World), (Builtin.real_ ts t #[C i]).run Try.prog w = .ok (.float .f64 (re i)) w := fun _ _ _ => rfl
  have him : ∀ (ts : Array TypeId) (t : TypeId) (w : World), (Builtin.imag_ ts t #[C i]).run Try.prog w = .ok (.float .f64 (im i)) w := fun _ _ _ => rfl
  have QW := Aside0.mk (quarter_whole a b h1 h2 h3 h4)
  have HB := Aside0.mk (Below.refl W.heap.size W)
  clear hi
  go_enter Try.func3, Try.ntmps3
  go_wp2_with (fail)
  refine (Parts_calls n h0 i hi4 HI.out _).mono ?_
  rintro e w1 ⟨rfl, hb⟩
  have HB := Aside0.mk (below_then HB.out HB.out.size hb)
  clear hb
  go_wp2_with (fail)
  refine (Turn_calls n h0 i hi4 HI.out _).mono ?_
  rintro e w2 ⟨rfl, hb⟩
  have HB := Aside0.mk (below_then HB.out HB.out.size hb)
  clear hb
  go_wp2_with (fail)
  go_loopg [10, 11, 12] 4 (fun g wa is i wr => ∃ (k : Nat) (x : Int) (y : Bool), k ≤ 4 ∧ wa = .int .i64 x ∧ is = .bool y ∧ i = .int .u32 k ∧ Aside0 ((x, y) = wantAt a b k ∧ g = 4 - k) ∧ Aside0 (Below W.heap.size W wr))
  case atStart => exact ⟨0, 0, false, by omega, rfl, rfl, rfl, ⟨rfl, rfl⟩, HB⟩
  case round =>
    clear HB
    obtain ⟨k, x, y, hk, rfl, rfl, rfl, HW, HB⟩ := hrel
    by_cases hlt : k < 4
    · have hkm : ((k : Int)) % 4 = (k : Nat) := by omega
      have HK := Aside0.mk hkm
      clear hkm
      go_wp2_with (fail)
      refine (Parts_calls k (by omega) k hlt HK.out _).mono ?_
      rintro e w1 ⟨rfl, hb⟩
      have HB' := Aside0.mk (below_then HB.out HB.out.size hb)
      clear hb HB
      by_cases hp : pre k = a
      · have hp' : (pre k == a) = true := beq_iff_eq.2 hp
        by_cases hq : pim k = b
        · have hq' : (pim k == b) = true := beq_iff_eq.2 hq
          have HW' : Aside0 (((k : Int), true) = wantAt a b (k + 1)) := ⟨by rw [wantAt, if_pos ⟨hp, hq⟩]⟩
          clear hp hq
          go_wp2_with (fail)
          go_roundg (gk - 1)
          case measure => have := HW.out.2; omega
          case rel => exact ⟨k + 1, k, true, by omega, rfl, rfl, by go_num, ⟨HW'.out, by have := HW.out.2; omega⟩, HB'⟩
        · have hq' : (pim k == b) = false := beq_eq_false_iff_ne.2 hq
          have HW' : Aside0 ((x, y) = wantAt a b (k + 1)) := ⟨by rw [wantAt, if_neg (fun h => hq h.2)]; exact HW.out.1⟩
          clear hp hq
          go_wp2_with (fail)
          go_roundg (gk - 1)
          case measure => have := HW.out.2; omega
          case rel => exact ⟨k + 1, x, y, by omega, rfl, rfl, by go_num, ⟨HW'.out, by have := HW.out.2; omega⟩, HB'⟩
      · have hp' : (pre k == a) = false := beq_eq_false_iff_ne.2 hp
        have HW' : Aside0 ((x, y) = wantAt a b (k + 1)) := ⟨by rw [wantAt, if_neg (fun h => hp h.1)]; exact HW.out.1⟩
        clear hp
        go_wp2_with (fail)
        go_roundg (gk - 1)
        case measure => have := HW.out.2; omega
        case rel => exact ⟨k + 1, x, y, by omega, rfl, rfl, by go_num, ⟨HW'.out, by have := HW.out.2; omega⟩, HB'⟩
    · obtain rfl : k = 4 := by omega
      have hw := HW.out.1
      have hq := QW.out
      rw [← hw] at hq
      obtain ⟨hq1, hq2⟩ := hq
      obtain ⟨⟨q, f⟩, hqf⟩ : ∃ p, quarterOf (fl a) (fl b) = p := ⟨_, rfl⟩
      rw [hqf] at hq1 hq2
      simp only at hq1 hq2
      subst hq1 hq2
      have HQ := Aside0.mk hqf
      have HS := Aside0.mk (quarter_self i hi4)
      have hni : ((i : Int) == n % 4) = true := by rw [HI.out]; simp
      clear hqf hw
      go_wp2_with (fail)
      refine (Quarter_calls (fl a) (fl b) _ q f HQ.out).mono ?_
      rintro e w3 ⟨rfl, hb⟩
      have HB' := Aside0.mk (below_then HB.out HB.out.size hb)
      clear hb HB
      go_wp2_with (fail)
      refine (Quarter_calls (re i) (im i) _ i true HS.out).mono ?_
      rintro e w4 ⟨rfl, hb⟩
      have HB := Aside0.mk (below_then HB'.out HB'.out.size hb)
      clear hb HB'
      go_wp2_with (fail)
      refine (alive_calls _).mono ?_
      rintro e w5 ⟨rfl, hb⟩
      have HB' := Aside0.mk (below_then HB.out HB.out.size hb)
      clear hb HB
      go_wp2_with (fail)
      go_ret
      exact ⟨rfl, HB'.out⟩
end Go.Proofs.Ytlnehjhhkfjggaa.DialC
