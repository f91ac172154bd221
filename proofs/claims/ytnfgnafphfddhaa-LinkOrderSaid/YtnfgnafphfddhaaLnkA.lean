import Derived.Test.YtnfgnafphfddhaaBas
namespace Go.Proofs.Ytnfgnafphfddhaa.LnkA
open Go.RowKit Go.Proofs.YtnfgnafphfddhaaW.PrintWords Go.Proofs.YtnfgnafphfddhaaW.PrintMore Go.Proofs.Ytnfgnafphfddhaa.Bas
set_option linter.unusedVariables false
set_option linter.unusedSimpArgs false

/-- A sealed run, four of its bytes turned. -/
def T (s : List Int) (K : Nat) (y : Nat → Nat) : Nat → List Int
  | 0 => s
  | k + 1 => (T s K y k).set (K + k) (((((T s K y k).getD (K + k) 0).toNat ^^^ y k : Nat)) : Int)
theorem T_length (s : List Int) (K : Nat) (y : Nat → Nat) : ∀ k, (T s K y k).length = s.length
  | 0 => rfl
  | k + 1 => by rw [T, List.length_set, T_length s K y k]
theorem T_getD (s : List Int) (hB : Byt s) (K : Nat) (y : Nat → Nat) : ∀ k, K + k ≤ s.length → ∀ i, (T s K y k).getD i 0 = if K ≤ i ∧ i < K + k then (((s.getD i 0).toNat ^^^ y (i - K) : Nat) : Int) else s.getD i 0
  | 0, _, i => by rw [if_neg (by omega)]; rfl
  | k + 1, hk, i => by
    have ih := T_getD s hB K y k (by omega)
    rw [T, List.getD_eq_getElem?_getD, List.getElem?_set]
    by_cases h : K + k = i
    · subst h
      have h2 := ih (K + k)
      rw [if_neg (by omega)] at h2
      rw [if_pos rfl, if_pos (by rw [T_length]; omega), if_pos (by omega), h2, show K + k - K = k by omega]
      rfl
    · have h2 := ih i
      rw [if_neg h, ← List.getD_eq_getElem?_getD, h2]
      by_cases h3 : K ≤ i ∧ i < K + k
      · rw [if_pos h3, if_pos (by omega)]
      · rw [if_neg h3, if_neg (by omega)]
theorem T_byt (s : List Int) (hB : Byt s) (K : Nat) (y : Nat → Nat) (hy : ∀ i, y i < 256) (k : Nat) (hk : K + k ≤ s.length) : Byt (T s K y k) := by
  intro i
  rw [T_getD s hB K y k hk i]
  have := hB i
  split
  · have := Nat.xor_lt_two_pow (n := 8) (x := (s.getD i 0).toNat) (y := y (i - K)) (by omega) (hy _)
    omega
  · exact this
theorem ix (y : Nat → Nat) (i : Nat) (hi : i < 4) (j : Int) (hj : j = i) (W : World) : (Instr.index 24 (.agg #[.int .u8 (y 0), .int .u8 (y 1), .int .u8 (y 2), .int .u8 (y 3)]) (.int .i64 j)).run Try.prog W = .ok (.int .u8 (y i)) W := by
  subst hj
  rcases i with _ | _ | _ | _ | i
  all_goals first | omega | simp [Instr.index, run_underlying Try.underlying24, asIntOf, part, go_sem]

/-- Turned. -/
def turnL (l : List Int) (ax : Nat) (y : Nat → Nat) : List Int := if l.length < 4 then [] else T l (ax % (l.length - 3)) y 4

set_option maxHeartbeats 8000000 in
theorem Turn_calls (A : Option Addr) (n c : Nat) (l : List Int) (kd : Int) (ax : Nat) (y : Nat → Nat) (W : World) (hr : ReadsInt W .u8 A n l) (hB : Byt l) (hl : n ≤ 1000000) (hax : ax < 65536) (hy : ∀ i, y i < 256) :
    Calls Try.prog 15 #[.slice A n c, .agg #[.int .i64 kd, .int .u16 ax, .int .u8 (y 0), .int .u8 (y 1), .int .u8 (y 2), .int .u8 (y 3)]] W fun e W' => ∃ v, e = .returned (.tuple #[v, .bool (decide (4 ≤ n))]) ∧ W'.ownsRow W.heap.size 5 1 v (turnL l ax y).length (nums .u8 (turnL l ax y)) ∧ Below W.heap.size W W' := by
  have hmx := hr.2.1
  have hln := hr.1
  have HR := Aside0.mk hr
  have HYY := Aside0.mk hy
  have HBX := Aside0.mk (below_alloc (Below.refl W.heap.size W) (.cells #[.int .i64 kd, .int .u16 ax, .int .u8 (y 0), .int .u8 (y 1), .int .u8 (y 2), .int .u8 (y 3)] 30))
  by_cases hn4 : n < 4
  · have hT : turnL l ax y = [] := if_pos (by omega)
    have hn' : (n : Int) < 4 := by omega
    have HT := Aside0.mk hT
    have hd : decide (4 ≤ n) = false := decide_eq_false (by omega)
    rw [hd, hT]
    clear hr hy hT hB hd
    go_enter Try.func15, Try.ntmps15
    go_wp2_with (fail)
    go_ret2
    exact ⟨_, rfl, own_nil _ _ 5 1, HBX.out⟩
  · have hT : turnL l ax y = T l (ax % (n - 3)) y 4 := by unfold turnL; rw [if_neg (by omega), hln]
    have hn' : ¬ (n : Int) < 4 := by omega
    have hd : decide (4 ≤ n) = true := decide_eq_true (by omega)
    rw [hd, hT]
    have hm0 : ((n : Int) - 4) + 1 = ((n - 3 : Nat) : Int) := by omega
    have hK1 : ax % (n - 3) < n - 3 := Nat.mod_lt _ (by omega)
    have hK2 : Int.tmod (ax : Int) ((n - 3 : Nat) : Int) = ((ax % (n - 3) : Nat) : Int) := by
      rw [Int.tmod_eq_emod_of_nonneg (by omega)]; exact (Int.natCast_emod ax (n - 3)).symm
    have hm3 : n - 3 ≤ 1000000 := by omega
    have hm4 : n - 3 ≠ 0 := by omega
    generalize ax % (n - 3) = K at *
    have HTB : Aside0 (∀ k, K + k ≤ n → Byt (T l K y k)) := ⟨fun k hk => T_byt l hB K y hy k (by omega)⟩
    have hTL := T_length l K y 4
    rw [hTL, hln]
    generalize hMM : n - 3 = M at *
    clear hr hy hT hB hd
    go_enter Try.func15, Try.ntmps15
    go_wp2_with (fail)
    refine (Clone_n A n c l _ (by exact HR.out.allocS _) hl).mono ?_
    rintro e w1 ⟨v, rfl, hown, hb⟩
    have hgB := hb.size
    have c1 := pw_cell_below hb (blk_cell (blk_new W (.cells #[.int .i64 kd, .int .u16 ax, .int .u8 (y 0), .int .u8 (y 1), .int .u8 (y 2), .int .u8 (y 3)] 30)) 1)
    have c2 := pw_cell_below hb (blk_cell (blk_new W (.cells #[.int .i64 kd, .int .u16 ax, .int .u8 (y 0), .int .u8 (y 1), .int .u8 (y 2), .int .u8 (y 3)] 30)) 2)
    have c3 := pw_cell_below hb (blk_cell (blk_new W (.cells #[.int .i64 kd, .int .u16 ax, .int .u8 (y 0), .int .u8 (y 1), .int .u8 (y 2), .int .u8 (y 3)] 30)) 3)
    have c4 := pw_cell_below hb (blk_cell (blk_new W (.cells #[.int .i64 kd, .int .u16 ax, .int .u8 (y 0), .int .u8 (y 1), .int .u8 (y 2), .int .u8 (y 3)] 30)) 4)
    have c5 := pw_cell_below hb (blk_cell (blk_new W (.cells #[.int .i64 kd, .int .u16 ax, .int .u8 (y 0), .int .u8 (y 1), .int .u8 (y 2), .int .u8 (y 3)] 30)) 5)
    have HB := Aside0.mk (below_then HBX.out (by simp) hb)
    have hown := own_weaken (base' := W.heap.size) hown (by simp)
    rw [hln] at hown
    obtain ⟨g, cap, rfl, hgb, hgl⟩ := hown.form (by omega)
    have HO := Aside0.mk hown
    clear hb hown
    go_wp2_with (fail)
    go_loopg [25] 4 (fun q i w' => ∃ k : Nat, i = .int .i64 k ∧ Aside0 (w'.ownsRow W.heap.size 5 1 (.slice (some ⟨g, 0, none⟩) n cap) n (nums .u8 (T l K y k))) ∧ Aside0 (Below W.heap.size W w') ∧ Aside0 (q + k = 4))
    case atStart => exact ⟨0, rfl, HO, HB, ⟨rfl⟩⟩
    case round =>
      clear HO HB c1 c2 c3 c4 c5
      obtain ⟨k, rfl, HO, HB, HK⟩ := hrel
      have hk := HK.out
      have hgl := own_lt HO.out g rfl
      cases gk with
      | zero =>
        obtain rfl : k = 4 := by omega
        clear hk HK
        go_wp2_with (fail)
        go_ret2
        exact ⟨_, rfl, HO.out, HB.out⟩
      | succ q1 =>
        rcases k with _ | _ | _ | _ | k
        · have hix := ix y 0 (by omega) 0 rfl
          obtain ⟨h1, h2⟩ := own_at HO.out ((K + 0 : Nat) : Int) (by omega) (by omega)
          have hz := HYY.out 0
          obtain ⟨b, hb⟩ : ∃ b : Nat, (T l K y 0).getD (K + 0) 0 = (b : Int) := ⟨((T l K y 0).getD (K + 0) 0).toNat, by have := (HTB.out 0 (by omega)) (K + 0); omega⟩
          have hbb : b < 256 := by have := (HTB.out 0 (by omega)) (K + 0); omega
          rw [rd, Int.toNat_natCast, hb] at h1
          rw [Int.toNat_natCast] at h2
          have hst := (own_store HO.out ((K + 0 : Nat) : Int) ((b ^^^ y 0 : Nat) : Int)).1
          rw [Int.toNat_natCast] at hst
          have HST : Aside0 ((wr.setCell ⟨g, K + 0, none⟩ (.int .u8 ((b ^^^ y 0 : Nat) : Int))).ownsRow W.heap.size 5 1 (.slice (some ⟨g, 0, none⟩) n cap) n (nums .u8 (T l K y 1))) := ⟨by rw [T, hb, Int.toNat_natCast]; exact hst⟩
          have hx := xor_u8 b (y 0) hbb hz
          have hwr : (K : Int) < (n : Int) := by omega
          have HB2 : Aside0 (Below W.heap.size W (wr.setCell ⟨g, K + 0, none⟩ (.int .u8 ((b ^^^ y 0 : Nat) : Int)))) := ⟨below_set HB.out hgb⟩
          clear hst hb
          rw [Nat.add_zero] at h1 h2 HST HB2
          go_wp2_with (fail)
          go_roundg q1
          case measure => omega
          case rel => exact ⟨1, rfl, HST, HB2, ⟨by omega⟩⟩
        · have hix := ix y 1 (by omega) 1 rfl
          obtain ⟨h1, h2⟩ := own_at HO.out ((K + 1 : Nat) : Int) (by omega) (by omega)
          have hz := HYY.out 1
          obtain ⟨b, hb⟩ : ∃ b : Nat, (T l K y 1).getD (K + 1) 0 = (b : Int) := ⟨((T l K y 1).getD (K + 1) 0).toNat, by have := (HTB.out 1 (by omega)) (K + 1); omega⟩
          have hbb : b < 256 := by have := (HTB.out 1 (by omega)) (K + 1); omega
          rw [rd, Int.toNat_natCast, hb] at h1
          rw [Int.toNat_natCast] at h2
          have hst := (own_store HO.out ((K + 1 : Nat) : Int) ((b ^^^ y 1 : Nat) : Int)).1
          rw [Int.toNat_natCast] at hst
          have HST : Aside0 ((wr.setCell ⟨g, K + 1, none⟩ (.int .u8 ((b ^^^ y 1 : Nat) : Int))).ownsRow W.heap.size 5 1 (.slice (some ⟨g, 0, none⟩) n cap) n (nums .u8 (T l K y 2))) := ⟨by rw [T, hb, Int.toNat_natCast]; exact hst⟩
          have hx := xor_u8 b (y 1) hbb hz
          have hwr : (K : Int) + 1 < (n : Int) := by omega
          have HB2 : Aside0 (Below W.heap.size W (wr.setCell ⟨g, K + 1, none⟩ (.int .u8 ((b ^^^ y 1 : Nat) : Int)))) := ⟨below_set HB.out hgb⟩
          clear hst hb
          skip
          go_wp2_with (fail)
          go_roundg q1
          case measure => omega
          case rel => exact ⟨2, rfl, HST, HB2, ⟨by omega⟩⟩
        · have hix := ix y 2 (by omega) 2 rfl
          obtain ⟨h1, h2⟩ := own_at HO.out ((K + 2 : Nat) : Int) (by omega) (by omega)
          have hz := HYY.out 2
          obtain ⟨b, hb⟩ : ∃ b : Nat, (T l K y 2).getD (K + 2) 0 = (b : Int) := ⟨((T l K y 2).getD (K + 2) 0).toNat, by have := (HTB.out 2 (by omega)) (K + 2); omega⟩
          have hbb : b < 256 := by have := (HTB.out 2 (by omega)) (K + 2); omega
          rw [rd, Int.toNat_natCast, hb] at h1
          rw [Int.toNat_natCast] at h2
          have hst := (own_store HO.out ((K + 2 : Nat) : Int) ((b ^^^ y 2 : Nat) : Int)).1
          rw [Int.toNat_natCast] at hst
          have HST : Aside0 ((wr.setCell ⟨g, K + 2, none⟩ (.int .u8 ((b ^^^ y 2 : Nat) : Int))).ownsRow W.heap.size 5 1 (.slice (some ⟨g, 0, none⟩) n cap) n (nums .u8 (T l K y 3))) := ⟨by rw [T, hb, Int.toNat_natCast]; exact hst⟩
          have hx := xor_u8 b (y 2) hbb hz
          have hwr : (K : Int) + 2 < (n : Int) := by omega
          have HB2 : Aside0 (Below W.heap.size W (wr.setCell ⟨g, K + 2, none⟩ (.int .u8 ((b ^^^ y 2 : Nat) : Int)))) := ⟨below_set HB.out hgb⟩
          clear hst hb
          skip
          go_wp2_with (fail)
          go_roundg q1
          case measure => omega
          case rel => exact ⟨3, rfl, HST, HB2, ⟨by omega⟩⟩
        · have hix := ix y 3 (by omega) 3 rfl
          obtain ⟨h1, h2⟩ := own_at HO.out ((K + 3 : Nat) : Int) (by omega) (by omega)
          have hz := HYY.out 3
          obtain ⟨b, hb⟩ : ∃ b : Nat, (T l K y 3).getD (K + 3) 0 = (b : Int) := ⟨((T l K y 3).getD (K + 3) 0).toNat, by have := (HTB.out 3 (by omega)) (K + 3); omega⟩
          have hbb : b < 256 := by have := (HTB.out 3 (by omega)) (K + 3); omega
          rw [rd, Int.toNat_natCast, hb] at h1
          rw [Int.toNat_natCast] at h2
          have hst := (own_store HO.out ((K + 3 : Nat) : Int) ((b ^^^ y 3 : Nat) : Int)).1
          rw [Int.toNat_natCast] at hst
          have HST : Aside0 ((wr.setCell ⟨g, K + 3, none⟩ (.int .u8 ((b ^^^ y 3 : Nat) : Int))).ownsRow W.heap.size 5 1 (.slice (some ⟨g, 0, none⟩) n cap) n (nums .u8 (T l K y 4))) := ⟨by rw [T, hb, Int.toNat_natCast]; exact hst⟩
          have hx := xor_u8 b (y 3) hbb hz
          have hwr : (K : Int) + 3 < (n : Int) := by omega
          have HB2 : Aside0 (Below W.heap.size W (wr.setCell ⟨g, K + 3, none⟩ (.int .u8 ((b ^^^ y 3 : Nat) : Int)))) := ⟨below_set HB.out hgb⟩
          clear hst hb
          skip
          go_wp2_with (fail)
          go_roundg q1
          case measure => omega
          case rel => exact ⟨4, rfl, HST, HB2, ⟨by omega⟩⟩
        · omega

set_option maxHeartbeats 8000000 in
theorem RTurn_calls (A : Option Addr) (n c : Nat) (l : List Int) (kd : Int) (ax : Nat) (y : Nat → Nat) (W : World) (hr : ReadsInt W .u8 A n l) (hB : Byt l) (hl : n ≤ 1000000) (hax : ax < 65536) (hy : ∀ i, y i < 256) :
    Calls Try.prog 17 #[.slice A n c, .agg #[.int .i64 kd, .int .u16 ax, .int .u8 (y 0), .int .u8 (y 1), .int .u8 (y 2), .int .u8 (y 3)]] W fun e W' => ∃ v, e = .returned (.tuple #[v, .bool (decide (4 ≤ n))]) ∧ W'.ownsRow W.heap.size 5 1 v (turnL l ax y).length (nums .u8 (turnL l ax y)) ∧ Below W.heap.size W W' := by
  have hmx := hr.2.1
  have hln := hr.1
  have HR := Aside0.mk hr
  have HYY := Aside0.mk hy
  have HBX := Aside0.mk (below_alloc (Below.refl W.heap.size W) (.cells #[.int .i64 kd, .int .u16 ax, .int .u8 (y 0), .int .u8 (y 1), .int .u8 (y 2), .int .u8 (y 3)] 26))
  by_cases hn4 : n < 4
  · have hT : turnL l ax y = [] := if_pos (by omega)
    have hn' : (n : Int) < 4 := by omega
    have HT := Aside0.mk hT
    have hd : decide (4 ≤ n) = false := decide_eq_false (by omega)
    rw [hd, hT]
    clear hr hy hT hB hd
    go_enter Try.func17, Try.ntmps17
    go_wp2_with (fail)
    go_ret2
    exact ⟨_, rfl, own_nil _ _ 5 1, HBX.out⟩
  · have hT : turnL l ax y = T l (ax % (n - 3)) y 4 := by unfold turnL; rw [if_neg (by omega), hln]
    have hn' : ¬ (n : Int) < 4 := by omega
    have hd : decide (4 ≤ n) = true := decide_eq_true (by omega)
    rw [hd, hT]
    have hm0 : (n : Int) - 3 = ((n - 3 : Nat) : Int) := by omega
    have hK1 : ax % (n - 3) < n - 3 := Nat.mod_lt _ (by omega)
    have hK2 : Int.tmod (ax : Int) ((n - 3 : Nat) : Int) = ((ax % (n - 3) : Nat) : Int) := by
      rw [Int.tmod_eq_emod_of_nonneg (by omega)]; exact (Int.natCast_emod ax (n - 3)).symm
    have hm3 : n - 3 ≤ 1000000 := by omega
    have hm4 : n - 3 ≠ 0 := by omega
    generalize ax % (n - 3) = K at *
    have HTB : Aside0 (∀ k, K + k ≤ n → Byt (T l K y k)) := ⟨fun k hk => T_byt l hB K y hy k (by omega)⟩
    have hTL := T_length l K y 4
    rw [hTL, hln]
    generalize hMM : n - 3 = M at *
    clear hr hy hT hB hd
    go_enter Try.func17, Try.ntmps17
    go_wp2_with (at_builtin; refine print_append_row (w0 := W.alloc (.cells #[.int .i64 kd, .int .u16 ax, .int .u8 (y 0), .int .u8 (y 1), .int .u8 (y 2), .int .u8 (y 3)] 26)) (W.alloc (.cells #[.int .i64 kd, .int .u16 ax, .int .u8 (y 0), .int .u8 (y 1), .int .u8 (y 2), .int .u8 (y 3)] 26)).heap.size rfl (.const (.slice none 0 0)) (.tmp 12) 22 5 .u8 1 rfl Try.underlying22 info5 (by decide) (.slice none 0 0) [] l A n c rfl rfl ?aO ?aR ?aB ?aS ?aL ?_)
    case aO => exact own_nil _ _ 5 1
    case aR => exact HR.out.allocS _
    case aB => exact Below.refl _ _
    case aL => first | omega | (simp; omega)
    rintro v w1 hown hb hg hat
    clear hg hat
    replace hb : Below (W.alloc (.cells #[.int .i64 kd, .int .u16 ax, .int .u8 (y 0), .int .u8 (y 1), .int .u8 (y 2), .int .u8 (y 3)] 26)).heap.size (W.alloc (.cells #[.int .i64 kd, .int .u16 ax, .int .u8 (y 0), .int .u8 (y 1), .int .u8 (y 2), .int .u8 (y 3)] 26)) w1 := by simpa using hb
    have hgB := hb.size
    have HX := Aside0.mk (blk_below (blk_new W (.cells #[.int .i64 kd, .int .u16 ax, .int .u8 (y 0), .int .u8 (y 1), .int .u8 (y 2), .int .u8 (y 3)] 26)) hb)
    have c1 := blk_cell HX.out 1
    have HB := Aside0.mk (below_then HBX.out (by simp) hb)
    try simp only [List.nil_append, hln] at hown
    obtain ⟨g, cap, rfl, hgb1, hgl⟩ := hown.form (by omega)
    have hgb : W.heap.size ≤ g := by first | omega | (simp at hgb1; omega)
    have hgne : W.heap.size < g := by first | omega | (simp at hgb1; omega)
    have hown := own_weaken (base' := W.heap.size) hown (by simp)
    have HO := Aside0.mk hown
    clear hb hown hgb1
    go_wp2_with (fail)
    go_loopg [8] 4 (fun q i w' => ∃ k : Nat, i = .int .i64 k ∧ Aside0 (w'.ownsRow W.heap.size 5 1 (.slice (some ⟨g, 0, none⟩) n cap) n (nums .u8 (T l K y k))) ∧ Aside0 (Below W.heap.size W w') ∧ Aside0 (w'.heap[W.heap.size]? = some (.cells #[.int .i64 kd, .int .u16 ax, .int .u8 (y 0), .int .u8 (y 1), .int .u8 (y 2), .int .u8 (y 3)] 26)) ∧ Aside0 (q + k = 4))
    case atStart => exact ⟨0, rfl, HO, HB, HX, ⟨rfl⟩⟩
    case round =>
      clear HO HB c1 HX
      obtain ⟨k, rfl, HO, HB, HX, HK⟩ := hrel
      have hk := HK.out
      have hgl := own_lt HO.out g rfl
      cases gk with
      | zero =>
        obtain rfl : k = 4 := by omega
        clear hk HK
        go_wp2_with (fail)
        go_ret2
        exact ⟨_, rfl, HO.out, HB.out⟩
      | succ q1 =>
        rcases k with _ | _ | _ | _ | k
        · have hcy := blk_cell HX.out 2
          obtain ⟨h1, h2⟩ := own_at HO.out ((K + 0 : Nat) : Int) (by omega) (by omega)
          have hz := HYY.out 0
          obtain ⟨b, hb⟩ : ∃ b : Nat, (T l K y 0).getD (K + 0) 0 = (b : Int) := ⟨((T l K y 0).getD (K + 0) 0).toNat, by have := (HTB.out 0 (by omega)) (K + 0); omega⟩
          have hbb : b < 256 := by have := (HTB.out 0 (by omega)) (K + 0); omega
          rw [rd, Int.toNat_natCast, hb] at h1
          rw [Int.toNat_natCast] at h2
          have hst := (own_store HO.out ((K + 0 : Nat) : Int) ((b ^^^ y 0 : Nat) : Int)).1
          rw [Int.toNat_natCast] at hst
          have HST : Aside0 ((wr.setCell ⟨g, K + 0, none⟩ (.int .u8 ((b ^^^ y 0 : Nat) : Int))).ownsRow W.heap.size 5 1 (.slice (some ⟨g, 0, none⟩) n cap) n (nums .u8 (T l K y 1))) := ⟨by rw [T, hb, Int.toNat_natCast]; exact hst⟩
          have hx := xor_u8 b (y 0) hbb hz
          have hwr : (K : Int) < (n : Int) := by omega
          have HB2 : Aside0 (Below W.heap.size W (wr.setCell ⟨g, K + 0, none⟩ (.int .u8 ((b ^^^ y 0 : Nat) : Int)))) := ⟨below_set HB.out hgb⟩
          clear hst hb
          rw [Nat.add_zero] at h1 h2 HST HB2
          have HX2 := Aside0.mk (blk_far (p := ⟨g, K, none⟩) HX.out (by show W.heap.size ≠ g; omega) (.int .u8 ((b ^^^ y 0 : Nat) : Int)))
          go_wp2_with (fail)
          go_region
          all_goals (go_wp2_with (fail); go_roundg q1)
          all_goals first | omega | skip
          all_goals exact ⟨1, rfl, ⟨HST.out⟩, ⟨by first | exact HB2.out | exact below_drew HB2.out⟩, ⟨HX2.out⟩, ⟨by omega⟩⟩
        · have hcy := blk_cell HX.out 3
          obtain ⟨h1, h2⟩ := own_at HO.out ((K + 1 : Nat) : Int) (by omega) (by omega)
          have hz := HYY.out 1
          obtain ⟨b, hb⟩ : ∃ b : Nat, (T l K y 1).getD (K + 1) 0 = (b : Int) := ⟨((T l K y 1).getD (K + 1) 0).toNat, by have := (HTB.out 1 (by omega)) (K + 1); omega⟩
          have hbb : b < 256 := by have := (HTB.out 1 (by omega)) (K + 1); omega
          rw [rd, Int.toNat_natCast, hb] at h1
          rw [Int.toNat_natCast] at h2
          have hst := (own_store HO.out ((K + 1 : Nat) : Int) ((b ^^^ y 1 : Nat) : Int)).1
          rw [Int.toNat_natCast] at hst
          have HST : Aside0 ((wr.setCell ⟨g, K + 1, none⟩ (.int .u8 ((b ^^^ y 1 : Nat) : Int))).ownsRow W.heap.size 5 1 (.slice (some ⟨g, 0, none⟩) n cap) n (nums .u8 (T l K y 2))) := ⟨by rw [T, hb, Int.toNat_natCast]; exact hst⟩
          have hx := xor_u8 b (y 1) hbb hz
          have hwr : (K : Int) + 1 < (n : Int) := by omega
          have HB2 : Aside0 (Below W.heap.size W (wr.setCell ⟨g, K + 1, none⟩ (.int .u8 ((b ^^^ y 1 : Nat) : Int)))) := ⟨below_set HB.out hgb⟩
          clear hst hb
          skip
          have HX2 := Aside0.mk (blk_far (p := ⟨g, K + 1, none⟩) HX.out (by show W.heap.size ≠ g; omega) (.int .u8 ((b ^^^ y 1 : Nat) : Int)))
          go_wp2_with (fail)
          go_region
          all_goals (go_wp2_with (fail); go_roundg q1)
          all_goals first | omega | skip
          all_goals exact ⟨2, rfl, ⟨HST.out⟩, ⟨by first | exact HB2.out | exact below_drew HB2.out⟩, ⟨HX2.out⟩, ⟨by omega⟩⟩
        · have hcy := blk_cell HX.out 4
          obtain ⟨h1, h2⟩ := own_at HO.out ((K + 2 : Nat) : Int) (by omega) (by omega)
          have hz := HYY.out 2
          obtain ⟨b, hb⟩ : ∃ b : Nat, (T l K y 2).getD (K + 2) 0 = (b : Int) := ⟨((T l K y 2).getD (K + 2) 0).toNat, by have := (HTB.out 2 (by omega)) (K + 2); omega⟩
          have hbb : b < 256 := by have := (HTB.out 2 (by omega)) (K + 2); omega
          rw [rd, Int.toNat_natCast, hb] at h1
          rw [Int.toNat_natCast] at h2
          have hst := (own_store HO.out ((K + 2 : Nat) : Int) ((b ^^^ y 2 : Nat) : Int)).1
          rw [Int.toNat_natCast] at hst
          have HST : Aside0 ((wr.setCell ⟨g, K + 2, none⟩ (.int .u8 ((b ^^^ y 2 : Nat) : Int))).ownsRow W.heap.size 5 1 (.slice (some ⟨g, 0, none⟩) n cap) n (nums .u8 (T l K y 3))) := ⟨by rw [T, hb, Int.toNat_natCast]; exact hst⟩
          have hx := xor_u8 b (y 2) hbb hz
          have hwr : (K : Int) + 2 < (n : Int) := by omega
          have HB2 : Aside0 (Below W.heap.size W (wr.setCell ⟨g, K + 2, none⟩ (.int .u8 ((b ^^^ y 2 : Nat) : Int)))) := ⟨below_set HB.out hgb⟩
          clear hst hb
          skip
          have HX2 := Aside0.mk (blk_far (p := ⟨g, K + 2, none⟩) HX.out (by show W.heap.size ≠ g; omega) (.int .u8 ((b ^^^ y 2 : Nat) : Int)))
          go_wp2_with (fail)
          go_region
          all_goals (go_wp2_with (fail); go_roundg q1)
          all_goals first | omega | skip
          all_goals exact ⟨3, rfl, ⟨HST.out⟩, ⟨by first | exact HB2.out | exact below_drew HB2.out⟩, ⟨HX2.out⟩, ⟨by omega⟩⟩
        · have hcy := blk_cell HX.out 5
          obtain ⟨h1, h2⟩ := own_at HO.out ((K + 3 : Nat) : Int) (by omega) (by omega)
          have hz := HYY.out 3
          obtain ⟨b, hb⟩ : ∃ b : Nat, (T l K y 3).getD (K + 3) 0 = (b : Int) := ⟨((T l K y 3).getD (K + 3) 0).toNat, by have := (HTB.out 3 (by omega)) (K + 3); omega⟩
          have hbb : b < 256 := by have := (HTB.out 3 (by omega)) (K + 3); omega
          rw [rd, Int.toNat_natCast, hb] at h1
          rw [Int.toNat_natCast] at h2
          have hst := (own_store HO.out ((K + 3 : Nat) : Int) ((b ^^^ y 3 : Nat) : Int)).1
          rw [Int.toNat_natCast] at hst
          have HST : Aside0 ((wr.setCell ⟨g, K + 3, none⟩ (.int .u8 ((b ^^^ y 3 : Nat) : Int))).ownsRow W.heap.size 5 1 (.slice (some ⟨g, 0, none⟩) n cap) n (nums .u8 (T l K y 4))) := ⟨by rw [T, hb, Int.toNat_natCast]; exact hst⟩
          have hx := xor_u8 b (y 3) hbb hz
          have hwr : (K : Int) + 3 < (n : Int) := by omega
          have HB2 : Aside0 (Below W.heap.size W (wr.setCell ⟨g, K + 3, none⟩ (.int .u8 ((b ^^^ y 3 : Nat) : Int)))) := ⟨below_set HB.out hgb⟩
          clear hst hb
          skip
          have HX2 := Aside0.mk (blk_far (p := ⟨g, K + 3, none⟩) HX.out (by show W.heap.size ≠ g; omega) (.int .u8 ((b ^^^ y 3 : Nat) : Int)))
          go_wp2_with (fail)
          go_region
          all_goals (go_wp2_with (fail); go_roundg q1)
          all_goals first | omega | skip
          all_goals exact ⟨4, rfl, ⟨HST.out⟩, ⟨by first | exact HB2.out | exact below_drew HB2.out⟩, ⟨HX2.out⟩, ⟨by omega⟩⟩
        · omega
end Go.Proofs.Ytnfgnafphfddhaa.LnkA
