import Derived.Test.YtnfgnafphfddhaaLnkF
namespace Go.Proofs.Ytnfgnafphfddhaa.LnkI
open Go.RowKit Go.Proofs.YtnfgnafphfddhaaW.PrintWords Go.Proofs.YtnfgnafphfddhaaW.PrintMore Go.Proofs.Ytnfgnafphfddhaa.Bas Go.Proofs.Ytnfgnafphfddhaa.LnkA Go.Proofs.Ytnfgnafphfddhaa.LnkB Go.Proofs.Ytnfgnafphfddhaa.LnkC Go.Proofs.Ytnfgnafphfddhaa.LnkD Go.Proofs.Ytnfgnafphfddhaa.LnkE Go.Proofs.Ytnfgnafphfddhaa.LnkF
attribute [local go_sem] max2_int min2_int max_two min_two
set_option linter.unusedVariables false
set_option linter.unusedSimpArgs false

theorem put_next (L : List (List Int)) (n k : Nat) (hk : k < L.length) : putL (n : Int) ((L.take k).take n) (L.getD k []) = (L.take (k + 1)).take n := by
  have hl : ((L.take k).take n).length = min n k := by rw [List.length_take, List.length_take]; omega
  unfold putL
  rw [hl]
  by_cases h : n ≤ k
  · rw [if_pos (by omega), List.take_take, List.take_take, Nat.min_eq_left h, Nat.min_eq_left (by omega)]
  · rw [if_neg (by omega), List.take_take, List.take_take, Nat.min_eq_right (by omega), Nat.min_eq_right (by omega), List.take_add_one]
    simp [List.getD_eq_getElem?_getD, List.getElem?_eq_getElem hk]
theorem putN_next (L : List (List Int)) (n k : Nat) (hk : k < L.length) : putN (n : Int) ((k - n : Nat) : Int) ((L.take k).take n) = ((k + 1 - n : Nat) : Int) := by
  have hl : ((L.take k).take n).length = min n k := by rw [List.length_take, List.length_take]; omega
  unfold putN
  rw [hl]
  by_cases h : n ≤ k
  · rw [if_pos (by omega)]; omega
  · rw [if_neg (by omega)]; omega

/-- The box of a link, and what it holds. -/
def Held (w : World) (g : Nat) (room sent lost : Int) (L : List (List Int)) : Prop :=
  ∃ A n c, w.heap[g]? = some (.cells #[.int .i64 room, .slice A n c, .int .i64 sent, .int .i64 lost] 37 (0, 0)) ∧ ReadsS w A n L ∧ n ≤ c ∧ Away A n g
theorem Held.below {w w1 : World} {g : Nat} {room sent lost : Int} {L : List (List Int)} (h : Held w g room sent lost L) (hb : Below w.heap.size w w1) : Held w1 g room sent lost L := by
  obtain ⟨A, n, c, h1, h2, h3, h4⟩ := h
  exact ⟨A, n, c, blk_below h1 hb, ReadsS_below h2 hb, h3, h4⟩

set_option maxHeartbeats 8000000 in
set_option maxRecDepth 100000 in
theorem LinkOrder_nat (A : Option Addr) (c : Nat) (L : List (List Int)) (r : Nat) (W : World) (hr : ReadsS W A L.length L) (hB : ∀ j, Byt (L.getD j [])) (hc : L.length ≤ c) (hr8 : r < 256) :
    Calls Try.prog 4 #[.slice A L.length c, .int .u8 r] W fun e W' => e = .returned (.bool true) ∧ Below W.heap.size W W' := by
  have hmx := hr.2.1
  have HR := Aside0.mk hr
  have HY := Aside0.mk hB
  clear hr hB
  by_cases hl : 40 < L.length
  · have hl' : (40 : Int) < (L.length : Int) := by omega
    go_enter Try.func4, Try.ntmps4
    go_wp2_with (fail)
    refine (alive_calls _).mono ?_
    rintro e w1 ⟨rfl, hb⟩
    have HB := Aside0.mk hb
    clear hb
    go_wp2_with (fail)
    go_ret
    exact ⟨rfl, HB.out⟩
  · have hl' : ¬ (40 : Int) < (L.length : Int) := by omega
    obtain ⟨n, hn⟩ : ∃ n, r % 30 + 1 = n := ⟨_, rfl⟩
    have hn0 : 1 ≤ n := by omega
    have hn1 : n ≤ 30 := by omega
    have hm : Int.tmod (r : Int) 30 + 1 = (n : Int) := by
      rw [Int.tmod_eq_emod_of_nonneg (by omega)]; omega
    go_enter Try.func4, Try.ntmps4
    go_wp2_with (fail)
    have hrn : (r : Int) % 30 + 1 = (n : Int) := by omega
    rw [hrn]
    clear hm hrn hn hr8
    refine (New_calls n (by omega) (by omega) _).mono ?_
    rintro e w1 ⟨rfl, hb⟩
    have HB := Aside0.mk (below_then hb hb.size (below_alloc (Below.refl w1.heap.size w1) (.cells #[.int .i64 n, .slice none 0 0, .int .i64 0, .int .i64 0] 37)))
    have HX := Aside0.mk (blk_new w1 (.cells #[.int .i64 n, .slice none 0 0, .int .i64 0, .int .i64 0] 37))
    have hgg := hb.size
    obtain ⟨g, hg⟩ : ∃ g, w1.heap.size = g := ⟨_, rfl⟩
    rw [hg] at HX hgg
    clear hb
    go_upto_region 5 with fail
    generalize w1.alloc (.cells #[.int .i64 n, .slice none 0 0, .int .i64 0, .int .i64 0] 37) = w2 at *
    have HH : Aside0 (Held w2 g n ((0 : Nat) : Int) ((0 - n : Nat) : Int) ((L.take 0).take n)) := ⟨none, 0, 0, by rw [Nat.zero_sub]; exact HX.out, by simpa using reads_none w2, Nat.le_refl _, by intro ad e; cases e⟩
    clear HX hg
    go_wp2_with (fail)
    go_loopg [35] L.length (fun q i w' => ∃ k : Nat, i = .int .i64 k ∧ Aside0 (Held w' g n k ((k - n : Nat) : Int) ((L.take k).take n)) ∧ Aside0 (∀ j, j < k → (L.getD j []).length ≤ 300) ∧ Aside0 (Below W.heap.size W w') ∧ Aside0 (q + k = L.length))
    case atStart => exact ⟨0, rfl, HH, ⟨fun j hj => absurd hj (Nat.not_lt_zero _)⟩, HB, ⟨by omega⟩⟩
    case round =>
      clear HH HB
      obtain ⟨k, rfl, HH, HLN, HB, HK⟩ := hrel
      have hk := HK.out
      have hs := HB.out.size
      cases gk with
      | zero =>
        have hkl : ¬ (k : Int) < (L.length : Int) := by omega
        obtain rfl : k = L.length := by omega
        rw [List.take_length] at HH
        obtain ⟨A1, n1, c1, hx1, hr1, hc1, ha1⟩ := HH.out
        have HX := Aside0.mk hx1
        have HR1 := Aside0.mk hr1
        have HA1 := Aside0.mk ha1
        have hgl := blk_lt hx1
        have p0 := blk_cell HX.out 0
        have p1 := blk_cell HX.out 1
        have p2 := blk_cell HX.out 2
        have p3 := blk_cell HX.out 3
        clear hx1 hr1 ha1 HH
        go_wp2_with (fail)
        refine (Counts_calls n (L.length : Int) ((L.length - n : Nat) : Int) A1 n1 c1 _).mono ?_
        rintro e w3 ⟨rfl, hb⟩
        have HX := Aside0.mk (blk_below HX.out hb)
        have HR1 := Aside0.mk (ReadsS_below HR1.out hb)
        have HB := Aside0.mk (below_then HB.out hs hb)
        have hs := HB.out.size
        have hg3 := blk_lt HX.out
        clear hb p0 p1 p2 p3
        have hifx : (if (L.length : Int) - (n : Int) < 0 then 0 else (L.length : Int) - (n : Int)) = ((L.length - n : Nat) : Int) := by split <;> omega
        have hmx1 : max ((L.length : Int) - (n : Int)) 0 = ((L.length - n : Nat) : Int) := by omega
        have hmi1 : min (L.length : Int) (n : Int) = ((min L.length n : Nat) : Int) := by omega
        have hmic : min L.length n ≤ c := by omega
        have hmn : min L.length n ≤ 40 := by omega
        have hne : (((L.length - n : Nat) : Int) != ((L.length - n : Nat) : Int)) = false := bne_eq_false_iff_eq.2 rfl
        go_upto_region 15 with fail
        have HH : Aside0 (Held w3 g n (L.length : Int) ((L.length - n : Nat) : Int) ((L.take n).drop 0)) := ⟨A1, n1, c1, HX.out, by simpa using HR1.out, hc1, HA1.out⟩
        have hif : (if n < L.length then (n : Int) else (L.length : Int)) = ((min L.length n : Nat) : Int) := by split <;> omega
        have HTN : Aside0 ((L.take n).length = min L.length n) := ⟨by rw [List.length_take]; omega⟩
        have hML : min L.length n ≤ L.length := by omega
        generalize min L.length n = M at *
        generalize ((L.length - n : Nat) : Int) = lost at *
        clear HX HR1 HA1 hne hmx1 hmi1 hgl hg3 hifx
        go_wp2_with (fail)
        go_loopg [77] M (fun q i w' => ∃ k : Nat, i = .int .i64 k ∧ Aside0 (Held w' g n (L.length : Int) lost ((L.take n).drop k)) ∧ Aside0 (Below W.heap.size W w') ∧ Aside0 (q + k = M))
        case atStart => exact ⟨0, rfl, HH, HB, ⟨by omega⟩⟩
        case round =>
          clear HH HB
          obtain ⟨k, rfl, HH, HB, HK⟩ := hrel
          have hk := HK.out
          have hs := HB.out.size
          cases gk with
          | zero =>
            have hkM : ¬ (k : Int) < (M : Int) := by omega
            obtain rfl : k = M := by omega
            rw [List.drop_of_length_le (by rw [HTN.out]; exact Nat.le_refl _)] at HH
            obtain ⟨A1, n1, c1, hx1, hr1, hc1, ha1⟩ := HH.out
            obtain rfl : n1 = 0 := by have := hr1.1; simp at this; omega
            have HX := Aside0.mk hx1
            have hgl := blk_lt hx1
            have p0 := blk_cell HX.out 0
            have p1 := blk_cell HX.out 1
            have p2 := blk_cell HX.out 2
            have p3 := blk_cell HX.out 3
            clear hx1 hr1 ha1 HH
            go_wp2_with (fail)
            refine (Next_none n (L.length : Int) lost A1 c1 _).mono ?_
            rintro e w4 ⟨rfl, hb⟩
            have HX := Aside0.mk (blk_below HX.out hb)
            have HB := Aside0.mk (below_then HB.out hs hb)
            have hs := HB.out.size
            have hgl := blk_lt HX.out
            clear hb p0 p1 p2 p3
            have p0 := blk_cell HX.out 0
            have p1 := blk_cell HX.out 1
            have p2 := blk_cell HX.out 2
            have p3 := blk_cell HX.out 3
            have HB := Aside0.mk (below_then HB.out hs (below_alloc (Below.refl w4.heap.size w4) (.cells #[.int .i64 n, .slice A1 0 c1, .int .i64 (L.length : Int), .int .i64 lost] 37)))
            have hs := HB.out.size
            go_wp2_with (fail)
            refine (Len_calls n (L.length : Int) lost A1 0 c1 _).mono ?_
            rintro e w5 ⟨rfl, hb⟩
            have HB := Aside0.mk (below_then HB.out hs hb)
            have hs := HB.out.size
            clear hb p0 p1 p2 p3
            go_wp2_with (fail)
            refine (alive_calls _).mono ?_
            rintro e w6 ⟨rfl, hb⟩
            have HB := Aside0.mk (below_then HB.out hs hb)
            clear hb
            go_wp2_with (fail)
            go_ret
            exact ⟨rfl, HB.out⟩
          | succ q1 =>
            have hkl : k < L.length := by omega
            have hkM : (k : Int) < (M : Int) := by omega
            obtain ⟨ad, rfl, A', c', hcell, hc', hrd⟩ := (ReadsS_below HR.out HB.out).2.2 k hkl
            have hd : (L.take n).drop k = L.getD k [] :: (L.take n).drop (k + 1) := by
              have h1 : k < (L.take n).length := by rw [HTN.out]; omega
              rw [List.drop_eq_getElem_cons h1]
              congr 1
              simp [List.getD_eq_getElem?_getD, List.getElem?_eq_getElem hkl]
            rw [hd] at HH
            have HBL := Aside0.mk (HLN.out k hkl)
            have HRl := Aside0.mk hrd
            have hml := hrd.2.1
            obtain ⟨b, hb⟩ : ∃ b, L.getD k [] = b := ⟨_, rfl⟩
            rw [hb] at hcell hc' HRl hml HH HBL
            clear hrd hb hd
            obtain ⟨A1, n1, c1, hx1, hr1, hc1, ha1⟩ := HH.out
            have HX := Aside0.mk hx1
            have HR1 := Aside0.mk hr1
            have HA1 := Aside0.mk ha1
            have hgl := blk_lt hx1
            have p0 := blk_cell HX.out 0
            have p1 := blk_cell HX.out 1
            have p2 := blk_cell HX.out 2
            have p3 := blk_cell HX.out 3
            clear hx1 hr1 ha1 HH
            go_wp2_with (fail)
            refine (Next_some n (L.length : Int) lost A1 n1 c1 b ((L.take n).drop (k + 1)) _ HR1.out hc1 (by have := HBL.out; omega)).mono ?_
            rintro e w4 ⟨A4, c4, v4, rfl, hr4, hc4, hown, hb, haw⟩
            obtain ⟨Av, cv, rfl, hcv, hrv⟩ := Bas.own_cap hown
            obtain ⟨m4, hm4⟩ : ∃ m, ((L.take n).drop (k + 1)).length = m := ⟨_, rfl⟩
            rw [hm4] at hr4 hc4 haw ⊢
            have HA4 := Aside0.mk (haw g (by omega) HA1.out)
            have HX4 := Aside0.mk (blk_alloc (blk_below HX.out hb) (.cells #[.int .i64 n, .slice A4 m4 c4, .int .i64 (L.length : Int), .int .i64 lost] 37))
            have HY4 := Aside0.mk (blk_new w4 (.cells #[.int .i64 n, .slice A4 m4 c4, .int .i64 (L.length : Int), .int .i64 lost] 37))
            have hba := below_alloc (Below.refl w4.heap.size w4) (.cells #[.int .i64 n, .slice A4 m4 c4, .int .i64 (L.length : Int), .int .i64 lost] 37)
            have HRl := Aside0.mk ((HRl.out.below hb).below hba)
            have HRv := Aside0.mk (hrv.below hba)
            have HR4 := Aside0.mk (ReadsS_below hr4 hba)
            have HB := Aside0.mk (below_then HB.out hs hb)
            have hs := HB.out.size
            have HB := Aside0.mk (below_then HB.out hs hba)
            have hs := HB.out.size
            clear hb haw hr4 hown hrv hba p0 p1 p2 p3 hm4
            go_wp2_with (fail)
            refine (Same_n A' b.length c' b Av b.length cv b _ HRl.out hc' HRv.out hcv).mono ?_
            rintro e w5 ⟨rfl, hb⟩
            rw [decide_eq_true rfl]
            have HX := Aside0.mk (blk_below HX4.out hb)
            have HY := Aside0.mk (blk_below HY4.out hb)
            have HR4 := Aside0.mk (ReadsS_below HR4.out hb)
            have HB := Aside0.mk (below_then HB.out hs hb)
            have hgl := blk_lt HX.out
            have hgy := blk_lt HY.out
            clear hb
            have p0 := blk_cell HX.out 0
            have p1 := blk_cell HX.out 1
            have p2 := blk_cell HX.out 2
            have p3 := blk_cell HX.out 3
            have f0 := blk_frozen HX.out 0
            have f1 := blk_frozen HX.out 1
            have f2 := blk_frozen HX.out 2
            have f3 := blk_frozen HX.out 3
            have q0 := blk_cell HY.out 0
            have q1' := blk_cell HY.out 1
            have q2 := blk_cell HY.out 2
            have q3 := blk_cell HY.out 3
            have XF := Aside0.mk (set4_blk HX.out (.int .i64 n) (.slice A4 m4 c4) (.int .i64 (L.length : Int)) (.int .i64 lost))
            have RF := Aside0.mk (reads_set4 HX.out HR4.out HA4.out n (L.length : Int) lost A4 m4 c4)
            have BF := Aside0.mk (set4_below HB.out (g := g) hgg (.int .i64 n) (.slice A4 m4 c4) (.int .i64 (L.length : Int)) (.int .i64 lost))
            go_wp2_with (fail)
            go_roundg q1
            case measure => omega
            case rel => exact ⟨k + 1, by go_num, ⟨A4, m4, c4, XF.out, RF.out, hc4, HA4.out⟩, BF, ⟨by omega⟩⟩
      | succ q1 =>
        have hkl : k < L.length := by omega
        have hki : (k : Int) < (L.length : Int) := by omega
        obtain ⟨ad, rfl, A', c', hcell, hc', hrd⟩ := (ReadsS_below HR.out HB.out).2.2 k hkl
        have HN1 := Aside0.mk (put_next L n k hkl)
        have HN2 := Aside0.mk (putN_next L n k hkl)
        have HTL : Aside0 (((L.take k).take n).length ≤ 1000) := ⟨by rw [List.length_take]; omega⟩
        have HRl := Aside0.mk hrd
        have hml := hrd.2.1
        obtain ⟨b, hb⟩ : ∃ b, L.getD k [] = b := ⟨_, rfl⟩
        rw [hb] at hcell hc' HRl hml HN1
        have HBB := Aside0.mk hb
        clear hrd hb
        obtain ⟨A1, n1, c1, hx1, hr1, hc1, ha1⟩ := HH.out
        have hn1l : n1 = ((L.take k).take n).length := hr1.1.symm
        have hn1b : n1 ≤ 1000 := by rw [hn1l]; exact HTL.out
        have HX := Aside0.mk hx1
        have HR1 := Aside0.mk hr1
        have HA1 := Aside0.mk ha1
        have hgl := blk_lt hx1
        obtain ⟨lo, hlo⟩ : ∃ lo, k - n = lo := ⟨_, rfl⟩
        have hlo2 : lo ≤ 40 := by omega
        rw [hlo] at HX HN2
        clear hx1 hr1 ha1 HH hn1l
        have p0 := blk_cell HX.out 0
        have p1 := blk_cell HX.out 1
        have p2 := blk_cell HX.out 2
        have p3 := blk_cell HX.out 3
        by_cases hbl : 300 < b.length
        · have hbl' : (300 : Int) < (b.length : Int) := by omega
          go_wp2_with (fail)
          refine (alive_calls _).mono ?_
          rintro e w3 ⟨rfl, hb⟩
          have HB := Aside0.mk (below_then HB.out hs hb)
          clear hb
          go_wp2_with (fail)
          go_ret
          exact ⟨rfl, HB.out⟩
        · have hbl' : ¬ (300 : Int) < (b.length : Int) := by omega
          have HLN2 : Aside0 (∀ j, j < k + 1 → (L.getD j []).length ≤ 300) := ⟨fun j hj => by
            rcases Nat.lt_or_ge j k with h | h
            · exact HLN.out j h
            · obtain rfl : j = k := by omega
              rw [HBB.out]; omega⟩
          go_wp2_with (fail)
          refine (Send_zero n k lo A1 n1 c1 ((L.take k).take n) A' b.length c' b _ HR1.out hc1 HRl.out hc' (by omega) hn1b ⟨by omega, by omega⟩ ⟨by omega, by omega⟩).mono ?_
          rintro e w3 ⟨A3, c3, rfl, hr3, hc3, hb, haw⟩
          rw [HN1.out] at hr3 hc3 haw ⊢
          rw [HN2.out]
          have HA3 := Aside0.mk (haw g (by omega) HA1.out)
          have HX := Aside0.mk (blk_below HX.out hb)
          have HB := Aside0.mk (below_then HB.out hs hb)
          have HR3 := Aside0.mk hr3
          obtain ⟨m3, hm3⟩ : ∃ m, ((L.take (k + 1)).take n).length = m := ⟨_, rfl⟩
          rw [hm3] at HR3 hc3 HA3 ⊢
          have hg3 := blk_lt HX.out
          clear hb haw hr3 p0 p1 p2 p3 hm3 HTL HN1 HN2 HRl
          have p0 := blk_cell HX.out 0
          have p1 := blk_cell HX.out 1
          have p2 := blk_cell HX.out 2
          have p3 := blk_cell HX.out 3
          have f0 := blk_frozen HX.out 0
          have f1 := blk_frozen HX.out 1
          have f2 := blk_frozen HX.out 2
          have f3 := blk_frozen HX.out 3
          have XF := Aside0.mk (set4_blk HX.out (.int .i64 n) (.slice A3 m3 c3) (.int .i64 ((k : Int) + 1)) (.int .i64 ((k + 1 - n : Nat) : Int)))
          have RF := Aside0.mk (reads_set4 HX.out HR3.out HA3.out n ((k : Int) + 1) ((k + 1 - n : Nat) : Int) A3 m3 c3)
          have BF := Aside0.mk (set4_below HB.out (g := g) hgg (.int .i64 n) (.slice A3 m3 c3) (.int .i64 ((k : Int) + 1)) (.int .i64 ((k + 1 - n : Nat) : Int)))
          go_wp2_with (fail)
          go_roundg q1
          case measure => omega
          case rel => exact ⟨k + 1, by go_num, ⟨A3, m3, c3, XF.out, RF.out, hc3, HA3.out⟩, HLN2, BF, ⟨by omega⟩⟩

theorem LinkOrder_calls (A : Option Addr) (c : Nat) (L : List (List Int)) (r : Int) (W : World) (hr : ReadsS W A L.length L) (hB : ∀ j, Byt (L.getD j [])) (hc : L.length ≤ c) (h0 : (Lit.int .u8 r).wf = true) :
    Calls Try.prog 4 #[.slice A L.length c, .int .u8 r] W fun e W' => e = .returned (.bool true) ∧ Below W.heap.size W W' := by
  simp [Lit.wf, IntKind.min, IntKind.max, IntKind.bits, IntKind.signed] at h0
  obtain ⟨r, rfl⟩ := Int.eq_ofNat_of_zero_le (show 0 ≤ r by omega)
  exact LinkOrder_nat A c L r W hr hB hc (by omega)
end Go.Proofs.Ytnfgnafphfddhaa.LnkI
