import Derived.Test.YtnfgnafphfddhaaLnkD
namespace Go.Proofs.Ytnfgnafphfddhaa.LnkE
open Go.RowKit Go.Proofs.YtnfgnafphfddhaaW.PrintWords Go.Proofs.YtnfgnafphfddhaaW.PrintMore Go.Proofs.Ytnfgnafphfddhaa.Bas Go.Proofs.Ytnfgnafphfddhaa.LnkA Go.Proofs.Ytnfgnafphfddhaa.LnkB Go.Proofs.Ytnfgnafphfddhaa.LnkC Go.Proofs.Ytnfgnafphfddhaa.LnkD
set_option linter.unusedVariables false
set_option linter.unusedSimpArgs false

theorem cut_one (A : Option Addr) (n c : Nat) (hn : 1 ≤ n) (hc : n ≤ c) : ∃ A' : Option Addr, (∀ W : World, (Instr.slice 35 (.slice A n c) (some (.int .i64 1)) none none).run Try.prog W = .ok (.slice A' (n - 1) (c - 1)) W) ∧
    (∀ (w : World) (L : List (List Int)), ReadsS w A n L → ReadsS w A' (n - 1) (L.drop 1)) ∧ (∀ g, Away A n g → Away A' (n - 1) g) := by
  refine ⟨if c = 1 then A else A.map (·.add 1), fun W => ?_, fun w L h => ?_, fun g h => ?_⟩
  · have hel : Try.prog.elem 35 = 22 := by simp [Program.elem, Try.underlying35]
    have hu : Try.prog.underlying 35 = some (.slice (Try.prog.elem 35)) := by rw [hel]; exact Try.underlying35
    have hi : Try.prog.info? 22 = some Try.t22 := by kernel_rfl
    rw [run_slice_l W 35 A n c hu .i64 1 (by decide) (by omega), hel]
    simp [sizeOf, typeInfo, hi, show Try.t22.size = 1 from rfl, sliced, Result.andThen]
  · refine ⟨by rw [List.length_drop, h.1], by have := h.2.1; omega, fun j hj => ?_⟩
    obtain ⟨ad, rfl, A', c', h1, h2, h3⟩ := h.2.2 (j + 1) (by omega)
    rw [if_neg (by omega)]
    have e : (L.drop 1).getD j [] = L.getD (j + 1) [] := by simp [List.getD_eq_getElem?_getD, Nat.add_comm]
    have ha : (ad.add 1).add j = ad.add (j + 1) := by
      unfold Addr.add
      by_cases h2 : j = 0 <;> simp [h2]
      omega
    rw [e]
    exact ⟨ad.add 1, rfl, A', c', by rw [ha]; exact h1, h2, h3⟩
  · intro ad e hp
    by_cases h1 : c = 1
    · omega
    · rw [if_neg h1] at e
      rcases A with _ | a
      · cases e
      · injection e with e
        have := h a rfl (by omega)
        rw [← e]
        have hb : (a.add 1).block = a.block := by unfold Addr.add; split <;> rfl
        rw [hb]; exact this
set_option maxHeartbeats 8000000 in
theorem Next_none (room sent lost : Int) (A : Option Addr) (c : Nat) (W : World) :
    Calls Try.prog 22 #[lv room sent lost A 0 c] W fun e W' => e = .returned (.tuple #[lv room sent lost A 0 c, .slice none 0 0, .bool false]) ∧ Below W.heap.size W W' := by
  go_enter Try.func22, Try.ntmps22
  go_wp2_with (fail)
  exact bodyPost_ret (results_ctt rfl _ _ (W.heap.size + 1) 37 #[.int .i64 room, .slice A 0 c, .int .i64 sent, .int .i64 lost] (0, 0) _ rfl (blk_second W _ _) Try.underlying37 rfl (by kernel_rfl)) rfl ⟨rfl, below_alloc (below_alloc (Below.refl _ _) _) _⟩

set_option maxHeartbeats 8000000 in
theorem Next_some (room sent lost : Int) (A : Option Addr) (n c : Nat) (b : List Int) (L : List (List Int)) (W : World) (hr : ReadsS W A n (b :: L)) (hc : n ≤ c) (hbl : b.length ≤ 1000000) :
    Calls Try.prog 22 #[lv room sent lost A n c] W fun e W' => ∃ A' c' v, e = .returned (.tuple #[lv room sent lost A' L.length c', v, .bool true]) ∧ ReadsS W' A' L.length L ∧ L.length ≤ c' ∧ W'.ownsRow W.heap.size 5 1 v b.length (nums .u8 b) ∧ Below W.heap.size W W' ∧ (∀ g, g < W.heap.size → Away A n g → Away A' L.length g) := by
  have hln := hr.1
  have hmx := hr.2.1
  have hn : L.length + 1 = n := by simpa using hln
  have HR := Aside0.mk hr
  have HBW := Aside0.mk (below_alloc (below_alloc (Below.refl W.heap.size W) (.cells #[.int .i64 room, .slice A n c, .int .i64 sent, .int .i64 lost] 37)) (.cells #[.int .i64 0, .slice none 0 0, .int .i64 0, .int .i64 0] 37))
  have HRW := Aside0.mk (ReadsS_below hr HBW.out)
  have HX0 := Aside0.mk (blk_alloc (blk_new W (.cells #[.int .i64 room, .slice A n c, .int .i64 sent, .int .i64 lost] 37)) (.cells #[.int .i64 0, .slice none 0 0, .int .i64 0, .int .i64 0] 37))
  have HX1 := Aside0.mk (blk_second W (.cells #[.int .i64 room, .slice A n c, .int .i64 sent, .int .i64 lost] 37) (.cells #[.int .i64 0, .slice none 0 0, .int .i64 0, .int .i64 0] 37))
  have hsz : ((W.alloc (.cells #[.int .i64 room, .slice A n c, .int .i64 sent, .int .i64 lost] 37)).alloc (.cells #[.int .i64 0, .slice none 0 0, .int .i64 0, .int .i64 0] 37)).heap.size = W.heap.size + 2 := by simp
  obtain ⟨A2, hcut, hA2, hAw⟩ := cut_one A n c (by omega) hc
  rw [show n - 1 = L.length by omega] at hcut hA2 hAw
  obtain ⟨ad, rfl, Ab, cb, hcell, hcb, hrb⟩ := HRW.out.2.2 0 (by omega)
  simp only [List.getD_cons_zero] at hcell hcb hrb
  have ha0 : ad.add 0 = ad := by simp [Addr.add]
  have hcell2 := hcell
  rw [ha0] at hcell2
  have HRB := Aside0.mk hrb
  have HA2 := Aside0.mk hA2
  have HAW := Aside0.mk hAw
  have hnz : ¬ ((n : Int) = 0) := by omega
  have hnz2 : ¬ (n = 0) := by omega
  have hnp : (0 : Int) < (n : Int) := by omega
  clear hr hrb hA2 hAw
  go_enter Try.func22, Try.ntmps22
  go_wp2_with (fail)
  refine (Clone_n Ab b.length cb b _ (by exact HRB.out) hbl).mono ?_
  rintro e w1 ⟨v, rfl, hown, hb⟩
  obtain ⟨Av, cv, rfl, hcv, _⟩ := Bas.own_cap hown
  have HX0 := Aside0.mk (blk_below HX0.out hb)
  have HX1 := Aside0.mk (blk_below HX1.out hb)
  have HO := Aside0.mk hown
  have HB1 := Aside0.mk (below_then HBW.out (by omega) hb)
  have HR2 := Aside0.mk (HA2.out w1 _ (ReadsS_below HRW.out hb))
  have hs1 := blk_lt HX1.out
  have HAB := Aside0.mk (HAW.out W.heap.size (reads_away HR.out (Nat.le_refl _)))
  have HAB2 := Aside0.mk (HAW.out (W.heap.size + 1) (reads_away HR.out (by omega)))
  clear hcell hcell2 hb hown HRW
  have p0 := blk_cell HX0.out 0
  have p1 := blk_cell HX0.out 1
  have p2 := blk_cell HX0.out 2
  have p3 := blk_cell HX0.out 3
  have g1 := blk_frozen HX0.out 1
  have q0 := blk_cell HX1.out 0
  have q1 := blk_cell HX1.out 1
  have q2 := blk_cell HX1.out 2
  have q3 := blk_cell HX1.out 3
  have f0 := blk_frozen HX1.out 0
  have f1 := blk_frozen HX1.out 1
  have f2 := blk_frozen HX1.out 2
  have f3 := blk_frozen HX1.out 3
  go_wp2_with (fail)
  have X1 := blk_far (p := ⟨W.heap.size, 1, none⟩) HX1.out (by show W.heap.size + 1 ≠ W.heap.size; omega) (.slice A2 L.length (c - 1))
  have R1 := reads_far HR2.out HX0.out (by intro j x; rcases j with _ | _ | _ | _ | j <;> simp) HAB.out 1 (.slice A2 L.length (c - 1))
  have O1 := own_far HO.out (g := W.heap.size) (by rw [hsz]; omega) 1 (.slice A2 L.length (c - 1))
  have B1 := below_set (j := 1) (v := .slice A2 L.length (c - 1)) HB1.out (Nat.le_refl W.heap.size)
  have HF := set4_blk X1 (.int .i64 room) (.slice A2 L.length (c - 1)) (.int .i64 sent) (.int .i64 lost)
  have R2 := reads_set4 X1 R1 HAB2.out room sent lost A2 L.length (c - 1)
  have O2 := set4_own O1 (g := W.heap.size + 1) (by rw [hsz]; omega) (.int .i64 room) (.slice A2 L.length (c - 1)) (.int .i64 sent) (.int .i64 lost)
  have B2 := set4_below B1 (g := W.heap.size + 1) (by omega) (.int .i64 room) (.slice A2 L.length (c - 1)) (.int .i64 sent) (.int .i64 lost)
  exact bodyPost_ret (results_ctt rfl _ _ (W.heap.size + 1) 37 _ (0, 0) _ rfl HF Try.underlying37 rfl (by kernel_rfl)) rfl ⟨A2, c - 1, _, rfl, R2, by omega, own_weaken O2 (by rw [hsz]; omega), B2, fun g _ h => HAW.out g h⟩
end Go.Proofs.Ytnfgnafphfddhaa.LnkE
