import Derived.Test.YtnfgnafphfddhaaLnkE
namespace Go.Proofs.Ytnfgnafphfddhaa.LnkF
open Go.RowKit Go.Proofs.YtnfgnafphfddhaaW.PrintWords Go.Proofs.YtnfgnafphfddhaaW.PrintMore Go.Proofs.Ytnfgnafphfddhaa.Bas Go.Proofs.Ytnfgnafphfddhaa.LnkA Go.Proofs.Ytnfgnafphfddhaa.LnkB Go.Proofs.Ytnfgnafphfddhaa.LnkC Go.Proofs.Ytnfgnafphfddhaa.LnkD Go.Proofs.Ytnfgnafphfddhaa.LnkE
set_option linter.unusedVariables false
set_option linter.unusedSimpArgs false

def z : Nat → Nat := fun _ => 0
def one : Nat → Nat := fun i => if i = 0 then 1 else 0
theorem putL_ok {room : Int} {L : List (List Int)} (h : (L.length : Int) < room) (b : List Int) : putL room L b = L ++ [b] := if_neg (by omega)
theorem putN_ok {room lost : Int} {L : List (List Int)} (h : (L.length : Int) < room) : putN room lost L = lost := if_neg (by omega)
theorem Send_zero (room sent lost : Int) (A : Option Addr) (n c : Nat) (L : List (List Int)) (B : Option Addr) (m d : Nat) (b : List Int) (W : World) (hr : ReadsS W A n L) (hc : n ≤ c) (hb : ReadsInt W .u8 B m b) (hd : m ≤ d) (hm : m ≤ 100000) (hn : n ≤ 1000) (hlo : 0 ≤ lost ∧ lost ≤ 10000) (hse : 0 ≤ sent ∧ sent ≤ 10000) :
    Calls Try.prog 20 #[lv room sent lost A n c, .slice B m d, .agg #[.int .i64 0, .int .u16 0, .int .u8 0, .int .u8 0, .int .u8 0, .int .u8 0]] W fun e W' => ∃ A' c', e = .returned (lv room (sent + 1) (putN room lost L) A' (putL room L b).length c') ∧ ReadsS W' A' (putL room L b).length (putL room L b) ∧ (putL room L b).length ≤ c' ∧ Below W.heap.size W W' ∧ (∀ g, g < W.heap.size → Away A n g → Away A' (putL room L b).length g) :=
  Send_usual room sent lost A n c L B m d b 0 0 z W hr hc hb hd hm hn hlo hse (by decide)
theorem Send_three (room sent lost : Int) (A : Option Addr) (n c : Nat) (L : List (List Int)) (B : Option Addr) (m d : Nat) (b : List Int) (W : World) (hr : ReadsS W A n L) (hc : n ≤ c) (hb : ReadsInt W .u8 B m b) (hd : m ≤ d) (hm : m ≤ 100000) (hn : n ≤ 1000) (hlo : 0 ≤ lost ∧ lost ≤ 10000) (hse : 0 ≤ sent ∧ sent ≤ 10000) :
    Calls Try.prog 20 #[lv room sent lost A n c, .slice B m d, .agg #[.int .i64 3, .int .u16 0, .int .u8 0, .int .u8 0, .int .u8 0, .int .u8 0]] W fun e W' => ∃ A' c', e = .returned (lv room (sent + 1) (putN room lost L) A' (firstL room L b).length c') ∧ ReadsS W' A' (firstL room L b).length (firstL room L b) ∧ (firstL room L b).length ≤ c' ∧ Below W.heap.size W W' ∧ (∀ g, g < W.heap.size → Away A n g → Away A' (firstL room L b).length g) :=
  Send_ahead room sent lost A n c L B m d b 0 z W hr hc hb hd hm hn hlo hse
theorem Turn_one (A : Option Addr) (c : Nat) (W : World) (hr : ReadsInt W .u8 A 4 [97, 98, 99, 100]) :
    Calls Try.prog 15 #[.slice A 4 c, .agg #[.int .i64 0, .int .u16 0, .int .u8 1, .int .u8 0, .int .u8 0, .int .u8 0]] W fun e W' => ∃ v, e = .returned (.tuple #[v, .bool true]) ∧ W'.ownsRow W.heap.size 5 1 v 4 (nums .u8 [96, 98, 99, 100]) ∧ Below W.heap.size W W' := by
  have h := Turn_calls A 4 c [97, 98, 99, 100] 0 0 one W hr (by intro i; rcases i with _ | _ | _ | _ | i <;> simp) (by decide) (by decide) (by intro i; unfold one; split <;> decide)
  rw [show turnL [97, 98, 99, 100] 0 one = [96, 98, 99, 100] by decide] at h
  exact h

def litBlk (a b c d : Int) : Obj := .cells #[.int .u8 a, .int .u8 b, .int .u8 c, .int .u8 d] 5 (4, 5)
theorem conv4 (a b c d : Int) (W : World) : (convert 22 22 (.slice (some ⟨W.heap.size, 0, none⟩) 4 4)).run Try.prog (W.alloc (.cells #[.int .u8 a, .int .u8 b, .int .u8 c, .int .u8 d] 5)) = .ok (.slice (some ⟨W.heap.size, 0, none⟩) 4 4) (W.alloc (litBlk a b c d)) :=
  Lib.run_convert_bytes_const W 22 5 _ 4 4 Try.underlying22 Try.underlying5
theorem conv4s (a b c d : Int) (W : World) (o : Obj) : (convert 22 22 (.slice (some ⟨W.heap.size + 1, 0, none⟩) 4 4)).run Try.prog ((W.alloc o).alloc (.cells #[.int .u8 a, .int .u8 b, .int .u8 c, .int .u8 d] 5)) = .ok (.slice (some ⟨W.heap.size + 1, 0, none⟩) 4 4) ((W.alloc o).alloc (litBlk a b c d)) := by
  have h := conv4 a b c d (W.alloc o)
  simpa using h
theorem reads_lit4 (a b c d : Int) (W : World) : ReadsInt (W.alloc (litBlk a b c d)) .u8 (some ⟨W.heap.size, 0, none⟩) 4 [a, b, c, d] := by
  refine ⟨rfl, by decide, fun _ => ⟨_, rfl, fun j hj => ?_⟩⟩
  rw [add_plain, cell_of_row _ W.heap.size j _ 5 (4, 5) (blk_new W (litBlk a b c d))]
  rcases j with _ | _ | _ | _ | j <;> first | rfl | omega
theorem str1 : strOfNums [101, 102, 103, 104] = ⟨#[101, 102, 103, 104]⟩ := by kernel_rfl
theorem str2 : strOfNums [96, 98, 99, 100] = ⟨#[96, 98, 99, 100]⟩ := by kernel_rfl
theorem reads_none (W : World) : ReadsS W none 0 [] := ⟨rfl, by decide, fun j hj => absurd hj (Nat.not_lt_zero _)⟩

set_option maxHeartbeats 8000000 in
set_option maxRecDepth 100000 in
theorem alive_calls (W : World) : Calls Try.prog 14 #[] W fun e W' => e = .returned (.bool true) ∧ Below W.heap.size W W' := by
  have cv1 := conv4 97 98 99 100
  have cv2 := conv4 101 102 103 104
  have cv3 := conv4s 97 98 99 100
  go_enter Try.func14, Try.ntmps14
  go_wp2_with (fail)
  refine (New_calls 9 (by decide) (by decide) _).mono ?_
  rintro e w1 ⟨rfl, hb⟩
  have HB := Aside0.mk hb
  have hs := hb.size
  clear hb
  go_wp2_with (fail)
  have X := Aside0.mk (blk_alloc (blk_new w1 (.cells #[.int .i64 9, .slice none 0 0, .int .i64 0, .int .i64 0] 37)) (litBlk 97 98 99 100))
  have HB := Aside0.mk (below_then HB.out hs (below_alloc (below_alloc (Below.refl w1.heap.size w1) (.cells #[.int .i64 9, .slice none 0 0, .int .i64 0, .int .i64 0] 37)) (litBlk 97 98 99 100)))
  have RA := Aside0.mk (reads_lit4 97 98 99 100 (w1.alloc (.cells #[.int .i64 9, .slice none 0 0, .int .i64 0, .int .i64 0] 37)))
  obtain ⟨g1, hg1⟩ : ∃ g, w1.heap.size = g := ⟨_, rfl⟩
  have hsz : ((w1.alloc (.cells #[.int .i64 9, .slice none 0 0, .int .i64 0, .int .i64 0] 37)).alloc (litBlk 97 98 99 100)).heap.size = g1 + 2 := by simp [hg1]
  rw [show (w1.alloc (.cells #[.int .i64 9, .slice none 0 0, .int .i64 0, .int .i64 0] 37)).heap.size = g1 + 1 by simp [hg1]] at RA
  rw [hg1] at X hs ⊢
  generalize (w1.alloc (.cells #[.int .i64 9, .slice none 0 0, .int .i64 0, .int .i64 0] 37)).alloc (litBlk 97 98 99 100) = w2 at *
  refine (Send_zero 9 0 0 none 0 0 [] (some ⟨g1 + 1, 0, none⟩) 4 4 [97, 98, 99, 100] _ (reads_none _) (by decide) RA.out (by decide) (by decide) (by decide) (by decide) (by decide)).mono ?_
  rintro e w3 ⟨A1, c1, rfl, hr1, hc1, hb, haw⟩
  rw [show putL 9 [] [97, 98, 99, 100] = [[97, 98, 99, 100]] by decide] at *
  rw [show putN 9 0 [] = 0 by decide] at *
  rw [show ([[97, 98, 99, 100]] : List (List Int)).length = 1 from rfl] at hr1 hc1 haw ⊢
  rw [show (0 : Int) + 1 = 1 from rfl]
  have HA1 := Aside0.mk (haw g1 (by omega) (by intro ad e; cases e))
  have X := Aside0.mk (blk_below X.out hb)
  have HB := Aside0.mk (below_then HB.out (by omega) hb)
  have hs := HB.out.size
  have HR := Aside0.mk (ReadsS_below hr1 (below_alloc (Below.refl w3.heap.size w3) (litBlk 101 102 103 104)))
  have RA2 := Aside0.mk (reads_lit4 101 102 103 104 w3)
  have hg3 := blk_lt X.out
  clear hb haw hr1 RA hsz
  go_wp2_with (fail)
  have X := Aside0.mk (blk_alloc X.out (litBlk 101 102 103 104))
  have HB := Aside0.mk (below_then HB.out hs (below_alloc (Below.refl w3.heap.size w3) (litBlk 101 102 103 104)))
  obtain ⟨g3, hgg⟩ : ∃ g, w3.heap.size = g := ⟨_, rfl⟩
  have hsz : (w3.alloc (litBlk 101 102 103 104)).heap.size = g3 + 1 := by simp [hgg]
  rw [hgg] at RA2 hg3 hs ⊢
  generalize w3.alloc (litBlk 101 102 103 104) = w4 at *
  refine (Send_three 9 1 0 A1 1 c1 [[97, 98, 99, 100]] (some ⟨g3, 0, none⟩) 4 4 [101, 102, 103, 104] _ HR.out hc1 RA2.out (by decide) (by decide) (by decide) (by decide) (by decide)).mono ?_
  rintro e w5 ⟨A2, c2, rfl, hr2, hc2, hb, haw⟩
  rw [show firstL 9 [[97, 98, 99, 100]] [101, 102, 103, 104] = [[101, 102, 103, 104], [97, 98, 99, 100]] by decide] at *
  rw [show putN 9 0 [[97, 98, 99, 100]] = 0 by decide] at *
  rw [show ([[101, 102, 103, 104], [97, 98, 99, 100]] : List (List Int)).length = 2 from rfl] at hr2 hc2 haw ⊢
  rw [show (1 : Int) + 1 = 2 from rfl]
  have HA2 := Aside0.mk (haw g1 (by omega) HA1.out)
  have X := Aside0.mk (blk_below X.out hb)
  have HB := Aside0.mk (below_then HB.out (by omega) hb)
  have hs := HB.out.size
  have HR := Aside0.mk hr2
  have hg5 := blk_lt X.out
  clear hb haw hr2 RA2 hsz HA1
  have p0 := blk_cell X.out 0
  have p1 := blk_cell X.out 1
  have p2 := blk_cell X.out 2
  have p3 := blk_cell X.out 3
  have f0 := blk_frozen X.out 0
  have f1 := blk_frozen X.out 1
  have f2 := blk_frozen X.out 2
  have f3 := blk_frozen X.out 3
  go_wp2_with (fail)
  have HXX := X.out
  have hs1 : W.heap.size ≤ g1 := by assumption
  have X := Aside0.mk (set4_blk HXX (.int .i64 9) (.slice A2 2 c2) (.int .i64 2) (.int .i64 0))
  have HR := Aside0.mk (reads_set4 HXX HR.out HA2.out 9 2 0 A2 2 c2)
  have HB := Aside0.mk (set4_below HB.out (g := g1) hs1 (.int .i64 9) (.slice A2 2 c2) (.int .i64 2) (.int .i64 0))
  change Calls _ _ _ (set4 w5 g1 (.int .i64 9) (.slice A2 2 c2) (.int .i64 2) (.int .i64 0)) _
  clear p0 p1 p2 p3 f0 f1 f2 f3 hg5 hs
  generalize set4 w5 g1 (.int .i64 9) (.slice A2 2 c2) (.int .i64 2) (.int .i64 0) = w6 at *
  have hs := HB.out.size
  have hg6 := blk_lt X.out
  refine (Next_some 9 2 0 A2 2 c2 [101, 102, 103, 104] [[97, 98, 99, 100]] _ HR.out hc2 (by decide)).mono ?_
  rintro e w7 ⟨A3, c3, v, rfl, hr3, hc3, hown, hb, haw⟩
  rw [show ([[97, 98, 99, 100]] : List (List Int)).length = 1 from rfl] at hr3 hc3 haw ⊢
  rw [show ([101, 102, 103, 104] : List Int).length = 4 from rfl] at hown
  obtain ⟨Av, cv, rfl, hcv, hrv⟩ := Bas.own_cap hown
  have X := Aside0.mk (blk_below X.out hb)
  have HB := Aside0.mk (below_then HB.out hs hb)
  have hs := HB.out.size
  have hg7 := blk_lt X.out
  have HV := Aside0.mk hrv
  clear hb haw hown hrv hr3 hg6
  go_wp2_with (fail)
  have Y := Aside0.mk (blk_alloc (blk_new w7 (.cells #[.int .i64 9, .slice A3 1 c3, .int .i64 2, .int .i64 0] 37)) (litBlk 97 98 99 100))
  have X := Aside0.mk (blk_alloc (blk_alloc X.out (.cells #[.int .i64 9, .slice A3 1 c3, .int .i64 2, .int .i64 0] 37)) (litBlk 97 98 99 100))
  have HBB := below_alloc (below_alloc (Below.refl w7.heap.size w7) (.cells #[.int .i64 9, .slice A3 1 c3, .int .i64 2, .int .i64 0] 37)) (litBlk 97 98 99 100)
  have HB := Aside0.mk (below_then HB.out hs HBB)
  have HV := Aside0.mk (HV.out.below HBB)
  have RA := Aside0.mk (reads_lit4 97 98 99 100 (w7.alloc (.cells #[.int .i64 9, .slice A3 1 c3, .int .i64 2, .int .i64 0] 37)))
  obtain ⟨g7, hgg7⟩ : ∃ g, w7.heap.size = g := ⟨_, rfl⟩
  have hsz : ((w7.alloc (.cells #[.int .i64 9, .slice A3 1 c3, .int .i64 2, .int .i64 0] 37)).alloc (litBlk 97 98 99 100)).heap.size = g7 + 2 := by simp [hgg7]
  rw [show (w7.alloc (.cells #[.int .i64 9, .slice A3 1 c3, .int .i64 2, .int .i64 0] 37)).heap.size = g7 + 1 by simp [hgg7]] at RA
  clear HBB
  rw [hgg7] at Y hs hg7 ⊢
  generalize (w7.alloc (.cells #[.int .i64 9, .slice A3 1 c3, .int .i64 2, .int .i64 0] 37)).alloc (litBlk 97 98 99 100) = w8 at *
  refine (Turn_one _ 4 _ RA.out).mono ?_
  rintro e w9 ⟨v9, rfl, hown, hb⟩
  obtain ⟨A9, c9, rfl, hc9, hr9⟩ := Bas.own_cap hown
  have X := Aside0.mk (blk_below X.out hb)
  have Y := Aside0.mk (blk_below Y.out hb)
  have hs8 : W.heap.size ≤ w8.heap.size := by omega
  have HB := Aside0.mk (below_then HB.out hs8 hb)
  have HV := Aside0.mk (HV.out.below hb)
  have hgx := blk_lt X.out
  have hgy := blk_lt Y.out
  have t1 : (convert 22 9 (.slice Av 4 cv)).run Try.prog w9 = .ok (.string (strOfNums [101, 102, 103, 104])) w9 := reads_string (c := cv) (l := [101, 102, 103, 104]) HV.out
  have t2 : (convert 22 9 (.slice A9 4 c9)).run Try.prog w9 = .ok (.string (strOfNums [96, 98, 99, 100])) w9 := reads_string (c := c9) (l := [96, 98, 99, 100]) hr9
  rw [str1] at t1
  rw [str2] at t2
  have hr10 := Aside0.mk hr9
  have hsw9 := HB.out.size
  clear hown hr9 hb RA hsz hs8
  have p0 := blk_cell X.out 0
  have p1 := blk_cell X.out 1
  have p2 := blk_cell X.out 2
  have p3 := blk_cell X.out 3
  have r0 := blk_cell Y.out 0
  have r1 := blk_cell Y.out 1
  have r2 := blk_cell Y.out 2
  have r3 := blk_cell Y.out 3
  go_wp2_with (fail)
  refine (Len_calls 9 2 0 A3 1 c3 _).mono ?_
  rintro e w10 ⟨rfl, hb⟩
  have HB := Aside0.mk (below_then HB.out (by omega) hb)
  have X := Aside0.mk (blk_below X.out hb)
  clear p0 p1 p2 p3 r0 r1 r2 r3 t2 t1
  have HR9 := Aside0.mk (hr10.out.below hb)
  have hs := HB.out.size
  have hgz := blk_lt X.out
  clear hb
  have p0 := blk_cell X.out 0
  have p1 := blk_cell X.out 1
  have p2 := blk_cell X.out 2
  have p3 := blk_cell X.out 3
  go_wp2_with (fail)
  refine (Len_calls 9 2 0 A2 2 c2 _).mono ?_
  rintro e w11 ⟨rfl, hb⟩
  have HB := Aside0.mk (below_then HB.out (by omega) hb)
  have HR9 := Aside0.mk (HR9.out.below hb)
  have t2 : (convert 22 9 (.slice A9 4 c9)).run Try.prog w11 = .ok (.string (strOfNums [96, 98, 99, 100])) w11 := reads_string (c := c9) (l := [96, 98, 99, 100]) HR9.out
  rw [str2] at t2
  clear hb p0 p1 p2 p3
  go_wp2_with (fail)
  go_ret
  exact ⟨rfl, HB.out⟩
end Go.Proofs.Ytnfgnafphfddhaa.LnkF
