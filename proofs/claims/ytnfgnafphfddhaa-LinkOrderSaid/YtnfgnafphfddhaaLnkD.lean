import Derived.Test.YtnfgnafphfddhaaLnkC
namespace Go.Proofs.Ytnfgnafphfddhaa.LnkD
open Go.RowKit Go.Proofs.YtnfgnafphfddhaaW.PrintWords Go.Proofs.YtnfgnafphfddhaaW.PrintMore Go.Proofs.Ytnfgnafphfddhaa.Bas Go.Proofs.Ytnfgnafphfddhaa.LnkA Go.Proofs.Ytnfgnafphfddhaa.LnkB Go.Proofs.Ytnfgnafphfddhaa.LnkC
set_option linter.unusedVariables false
set_option linter.unusedSimpArgs false

/-- What a link holds behind a sending. -/
def sendL (room lost : Int) (L : List (List Int)) (b : List Int) (kd : Int) (ax : Nat) (y : Nat → Nat) : List (List Int) × Int :=
  if kd = 1 then (L, lost + 1) else
  if kd = 2 then (putL room (putL room L b) b, putN room (putN room lost L) (putL room L b)) else
  if kd = 3 then (firstL room L b, putN room lost L) else
  if kd = 4 then (if b.length < 4 then (L, lost + 1) else (putL room L (turnL b ax y), putN room lost L)) else
  (putL room L b, putN room lost L)

abbrev fv (kd : Int) (ax : Nat) (y : Nat → Nat) : Value := .agg #[.int .i64 kd, .int .u16 ax, .int .u8 (y 0), .int .u8 (y 1), .int .u8 (y 2), .int .u8 (y 3)]

set_option maxHeartbeats 8000000 in
theorem Send_usual (room sent lost : Int) (A : Option Addr) (n c : Nat) (L : List (List Int)) (B : Option Addr) (m d : Nat) (b : List Int) (kd : Int) (ax : Nat) (y : Nat → Nat) (W : World) (hr : ReadsS W A n L) (hc : n ≤ c) (hb : ReadsInt W .u8 B m b) (hd : m ≤ d) (hm : m ≤ 100000) (hn : n ≤ 1000) (hlo : 0 ≤ lost ∧ lost ≤ 10000) (hse : 0 ≤ sent ∧ sent ≤ 10000) (hk : ¬ kd = 1 ∧ ¬ kd = 2 ∧ ¬ kd = 3 ∧ ¬ kd = 4) :
    Calls Try.prog 20 #[lv room sent lost A n c, .slice B m d, fv kd ax y] W fun e W' => ∃ A' c', e = .returned (lv room (sent + 1) (sendL room lost L b kd ax y).2 A' (sendL room lost L b kd ax y).1.length c') ∧ ReadsS W' A' (sendL room lost L b kd ax y).1.length (sendL room lost L b kd ax y).1 ∧ (sendL room lost L b kd ax y).1.length ≤ c' ∧ Below W.heap.size W W' ∧ (∀ g, g < W.heap.size → Away A n g → Away A' (sendL room lost L b kd ax y).1.length g) := by
  have hln := hr.1
  have HR := Aside0.mk hr
  have HRB := Aside0.mk hb
  obtain ⟨k1, k2, k3, k4⟩ := hk
  have hS : sendL room lost L b kd ax y = (putL room L b, putN room lost L) := by unfold sendL; rw [if_neg k1, if_neg k2, if_neg k3, if_neg k4]
  rw [hS]
  clear hS hr hb
  go_enter Try.func20, Try.ntmps20
  go_wp2_with (fail)
  have HBW := Aside0.mk (below_alloc (below_alloc (below_alloc (Below.refl W.heap.size W) (.cells #[.int .i64 room, .slice A n c, .int .i64 (sent + 1), .int .i64 lost] 37)) (.cells #[.int .i64 kd, .int .u16 ax, .int .u8 (y 0), .int .u8 (y 1), .int .u8 (y 2), .int .u8 (y 3)] 30)) (.cells #[.int .i64 0, .slice none 0 0, .int .i64 0, .int .i64 0] 37))
  have HX0 := Aside0.mk (blk_alloc (blk_alloc (blk_new W (.cells #[.int .i64 room, .slice A n c, .int .i64 (sent + 1), .int .i64 lost] 37)) (.cells #[.int .i64 kd, .int .u16 ax, .int .u8 (y 0), .int .u8 (y 1), .int .u8 (y 2), .int .u8 (y 3)] 30)) (.cells #[.int .i64 0, .slice none 0 0, .int .i64 0, .int .i64 0] 37))
  have HX2 := Aside0.mk (show (((W.alloc (.cells #[.int .i64 room, .slice A n c, .int .i64 (sent + 1), .int .i64 lost] 37)).alloc (.cells #[.int .i64 kd, .int .u16 ax, .int .u8 (y 0), .int .u8 (y 1), .int .u8 (y 2), .int .u8 (y 3)] 30)).alloc (.cells #[.int .i64 0, .slice none 0 0, .int .i64 0, .int .i64 0] 37)).heap[W.heap.size + 2]? = some (.cells #[.int .i64 0, .slice none 0 0, .int .i64 0, .int .i64 0] 37) from by have h := blk_new ((W.alloc (.cells #[.int .i64 room, .slice A n c, .int .i64 (sent + 1), .int .i64 lost] 37)).alloc (.cells #[.int .i64 kd, .int .u16 ax, .int .u8 (y 0), .int .u8 (y 1), .int .u8 (y 2), .int .u8 (y 3)] 30)) (.cells #[.int .i64 0, .slice none 0 0, .int .i64 0, .int .i64 0] 37); simpa using h)
  have hsz : (((W.alloc (.cells #[.int .i64 room, .slice A n c, .int .i64 (sent + 1), .int .i64 lost] 37)).alloc (.cells #[.int .i64 kd, .int .u16 ax, .int .u8 (y 0), .int .u8 (y 1), .int .u8 (y 2), .int .u8 (y 3)] 30)).alloc (.cells #[.int .i64 0, .slice none 0 0, .int .i64 0, .int .i64 0] 37)).heap.size = W.heap.size + 3 := by simp
  generalize ((W.alloc (.cells #[.int .i64 room, .slice A n c, .int .i64 (sent + 1), .int .i64 lost] 37)).alloc (.cells #[.int .i64 kd, .int .u16 ax, .int .u8 (y 0), .int .u8 (y 1), .int .u8 (y 2), .int .u8 (y 3)] 30)).alloc (.cells #[.int .i64 0, .slice none 0 0, .int .i64 0, .int .i64 0] 37) = W3 at *
  refine (put_calls room (sent + 1) lost A n c L B m d b _ (ReadsS_below HR.out HBW.out) hc (HRB.out.below HBW.out) hd hm (by omega) ⟨by omega, by omega⟩).mono ?_
  rintro e w1 ⟨A1, c1, rfl, hr1, hc1, hb1, haw⟩
  have HX2 := Aside0.mk (blk_below HX2.out hb1)
  have HA1 := Aside0.mk (haw (W.heap.size + 2) (by omega) (reads_away HR.out (by omega)))
  have HAW := Aside0.mk (fun g (hg : g < W.heap.size) h => haw g (by omega) h)
  have HB1 := Aside0.mk (below_then HBW.out (by omega) hb1)
  have HR1 := Aside0.mk hr1
  have hs2 := blk_lt HX2.out
  clear HX0 haw hb1 hr1
  have q0 := blk_cell HX2.out 0
  have q1 := blk_cell HX2.out 1
  have q2 := blk_cell HX2.out 2
  have q3 := blk_cell HX2.out 3
  have f0 := blk_frozen HX2.out 0
  have f1 := blk_frozen HX2.out 1
  have f2 := blk_frozen HX2.out 2
  have f3 := blk_frozen HX2.out 3
  go_wp2_with (fail)
  have HF := set4_blk HX2.out (.int .i64 room) (.slice A1 (putL room L b).length c1) (.int .i64 (sent + 1)) (.int .i64 (putN room lost L))
  have HRS := reads_set4 HX2.out HR1.out HA1.out room (sent + 1) (putN room lost L) A1 (putL room L b).length c1
  have HBF := set4_below HB1.out (g := W.heap.size + 2) (by omega) (.int .i64 room) (.slice A1 (putL room L b).length c1) (.int .i64 (sent + 1)) (.int .i64 (putN room lost L))
  exact bodyPost_ret (results_cell_row rfl _ _ (W.heap.size + 2) 37 _ (0, 0) _ rfl HF Try.underlying37 rfl (by kernel_rfl)) rfl ⟨A1, c1, rfl, HRS, hc1, HBF, HAW.out⟩
set_option maxHeartbeats 8000000 in
theorem Send_ahead (room sent lost : Int) (A : Option Addr) (n c : Nat) (L : List (List Int)) (B : Option Addr) (m d : Nat) (b : List Int) (ax : Nat) (y : Nat → Nat) (W : World) (hr : ReadsS W A n L) (hc : n ≤ c) (hb : ReadsInt W .u8 B m b) (hd : m ≤ d) (hm : m ≤ 100000) (hn : n ≤ 1000) (hlo : 0 ≤ lost ∧ lost ≤ 10000) (hse : 0 ≤ sent ∧ sent ≤ 10000) :
    Calls Try.prog 20 #[lv room sent lost A n c, .slice B m d, fv 3 ax y] W fun e W' => ∃ A' c', e = .returned (lv room (sent + 1) (sendL room lost L b 3 ax y).2 A' (sendL room lost L b 3 ax y).1.length c') ∧ ReadsS W' A' (sendL room lost L b 3 ax y).1.length (sendL room lost L b 3 ax y).1 ∧ (sendL room lost L b 3 ax y).1.length ≤ c' ∧ Below W.heap.size W W' ∧ (∀ g, g < W.heap.size → Away A n g → Away A' (sendL room lost L b 3 ax y).1.length g) := by
  have hln := hr.1
  have HR := Aside0.mk hr
  have HRB := Aside0.mk hb
  have hS : sendL room lost L b 3 ax y = (firstL room L b, putN room lost L) := by unfold sendL; rw [if_neg (by decide), if_neg (by decide), if_pos rfl]
  rw [hS]
  clear hS hr hb
  go_enter Try.func20, Try.ntmps20
  go_wp2_with (fail)
  have HBW := Aside0.mk (below_alloc (below_alloc (below_alloc (Below.refl W.heap.size W) (.cells #[.int .i64 room, .slice A n c, .int .i64 (sent + 1), .int .i64 lost] 37)) (.cells #[.int .i64 3, .int .u16 ax, .int .u8 (y 0), .int .u8 (y 1), .int .u8 (y 2), .int .u8 (y 3)] 30)) (.cells #[.int .i64 0, .slice none 0 0, .int .i64 0, .int .i64 0] 37))
  have HX0 := Aside0.mk (blk_alloc (blk_alloc (blk_new W (.cells #[.int .i64 room, .slice A n c, .int .i64 (sent + 1), .int .i64 lost] 37)) (.cells #[.int .i64 3, .int .u16 ax, .int .u8 (y 0), .int .u8 (y 1), .int .u8 (y 2), .int .u8 (y 3)] 30)) (.cells #[.int .i64 0, .slice none 0 0, .int .i64 0, .int .i64 0] 37))
  have HX2 := Aside0.mk (show (((W.alloc (.cells #[.int .i64 room, .slice A n c, .int .i64 (sent + 1), .int .i64 lost] 37)).alloc (.cells #[.int .i64 3, .int .u16 ax, .int .u8 (y 0), .int .u8 (y 1), .int .u8 (y 2), .int .u8 (y 3)] 30)).alloc (.cells #[.int .i64 0, .slice none 0 0, .int .i64 0, .int .i64 0] 37)).heap[W.heap.size + 2]? = some (.cells #[.int .i64 0, .slice none 0 0, .int .i64 0, .int .i64 0] 37) from by have h := blk_new ((W.alloc (.cells #[.int .i64 room, .slice A n c, .int .i64 (sent + 1), .int .i64 lost] 37)).alloc (.cells #[.int .i64 3, .int .u16 ax, .int .u8 (y 0), .int .u8 (y 1), .int .u8 (y 2), .int .u8 (y 3)] 30)) (.cells #[.int .i64 0, .slice none 0 0, .int .i64 0, .int .i64 0] 37); simpa using h)
  have hsz : (((W.alloc (.cells #[.int .i64 room, .slice A n c, .int .i64 (sent + 1), .int .i64 lost] 37)).alloc (.cells #[.int .i64 3, .int .u16 ax, .int .u8 (y 0), .int .u8 (y 1), .int .u8 (y 2), .int .u8 (y 3)] 30)).alloc (.cells #[.int .i64 0, .slice none 0 0, .int .i64 0, .int .i64 0] 37)).heap.size = W.heap.size + 3 := by simp
  generalize ((W.alloc (.cells #[.int .i64 room, .slice A n c, .int .i64 (sent + 1), .int .i64 lost] 37)).alloc (.cells #[.int .i64 3, .int .u16 ax, .int .u8 (y 0), .int .u8 (y 1), .int .u8 (y 2), .int .u8 (y 3)] 30)).alloc (.cells #[.int .i64 0, .slice none 0 0, .int .i64 0, .int .i64 0] 37) = W3 at *
  refine (first_calls room (sent + 1) lost A n c L B m d b _ (ReadsS_below HR.out HBW.out) hc (HRB.out.below HBW.out) hd hm (by omega) ⟨by omega, by omega⟩).mono ?_
  rintro e w1 ⟨A1, c1, rfl, hr1, hc1, hb1, haw⟩
  have HX2 := Aside0.mk (blk_below HX2.out hb1)
  have HA1 := Aside0.mk (haw (W.heap.size + 2) (by omega) (reads_away HR.out (by omega)))
  have HAW := Aside0.mk (fun g (hg : g < W.heap.size) h => haw g (by omega) h)
  have HB1 := Aside0.mk (below_then HBW.out (by omega) hb1)
  have HR1 := Aside0.mk hr1
  have hs2 := blk_lt HX2.out
  clear HX0 haw hb1 hr1
  have q0 := blk_cell HX2.out 0
  have q1 := blk_cell HX2.out 1
  have q2 := blk_cell HX2.out 2
  have q3 := blk_cell HX2.out 3
  have f0 := blk_frozen HX2.out 0
  have f1 := blk_frozen HX2.out 1
  have f2 := blk_frozen HX2.out 2
  have f3 := blk_frozen HX2.out 3
  go_wp2_with (fail)
  have HF := set4_blk HX2.out (.int .i64 room) (.slice A1 (firstL room L b).length c1) (.int .i64 (sent + 1)) (.int .i64 (putN room lost L))
  have HRS := reads_set4 HX2.out HR1.out HA1.out room (sent + 1) (putN room lost L) A1 (firstL room L b).length c1
  have HBF := set4_below HB1.out (g := W.heap.size + 2) (by omega) (.int .i64 room) (.slice A1 (firstL room L b).length c1) (.int .i64 (sent + 1)) (.int .i64 (putN room lost L))
  exact bodyPost_ret (results_cell_row rfl _ _ (W.heap.size + 2) 37 _ (0, 0) _ rfl HF Try.underlying37 rfl (by kernel_rfl)) rfl ⟨A1, c1, rfl, HRS, hc1, HBF, HAW.out⟩
set_option maxHeartbeats 8000000 in
theorem Send_lost (room sent lost : Int) (A : Option Addr) (n c : Nat) (L : List (List Int)) (B : Option Addr) (m d : Nat) (b : List Int) (ax : Nat) (y : Nat → Nat) (W : World) (hr : ReadsS W A n L) (hc : n ≤ c) (hlo : 0 ≤ lost ∧ lost ≤ 10000) (hse : 0 ≤ sent ∧ sent ≤ 10000) :
    Calls Try.prog 20 #[lv room sent lost A n c, .slice B m d, fv 1 ax y] W fun e W' => ∃ A' c', e = .returned (lv room (sent + 1) (sendL room lost L b 1 ax y).2 A' (sendL room lost L b 1 ax y).1.length c') ∧ ReadsS W' A' (sendL room lost L b 1 ax y).1.length (sendL room lost L b 1 ax y).1 ∧ (sendL room lost L b 1 ax y).1.length ≤ c' ∧ Below W.heap.size W W' ∧ (∀ g, g < W.heap.size → Away A n g → Away A' (sendL room lost L b 1 ax y).1.length g) := by
  have hln := hr.1
  have HR := Aside0.mk hr
  have hS : sendL room lost L b 1 ax y = (L, lost + 1) := by unfold sendL; rw [if_pos rfl]
  rw [hS]
  simp only [hln]
  clear hS hr
  go_enter Try.func20, Try.ntmps20
  go_wp2_with (fail)
  have HBW := (below_alloc (below_alloc (below_alloc (Below.refl W.heap.size W) (.cells #[.int .i64 room, .slice A n c, .int .i64 (sent + 1), .int .i64 (lost + 1)] 37)) (.cells #[.int .i64 1, .int .u16 ax, .int .u8 (y 0), .int .u8 (y 1), .int .u8 (y 2), .int .u8 (y 3)] 30)) (.cells #[.int .i64 room, .slice A n c, .int .i64 (sent + 1), .int .i64 (lost + 1)] 37))
  have HX2 := (show (((W.alloc (.cells #[.int .i64 room, .slice A n c, .int .i64 (sent + 1), .int .i64 (lost + 1)] 37)).alloc (.cells #[.int .i64 1, .int .u16 ax, .int .u8 (y 0), .int .u8 (y 1), .int .u8 (y 2), .int .u8 (y 3)] 30)).alloc (.cells #[.int .i64 room, .slice A n c, .int .i64 (sent + 1), .int .i64 (lost + 1)] 37)).heap[W.heap.size + 2]? = some (.cells #[.int .i64 room, .slice A n c, .int .i64 (sent + 1), .int .i64 (lost + 1)] 37) from by have h := blk_new ((W.alloc (.cells #[.int .i64 room, .slice A n c, .int .i64 (sent + 1), .int .i64 (lost + 1)] 37)).alloc (.cells #[.int .i64 1, .int .u16 ax, .int .u8 (y 0), .int .u8 (y 1), .int .u8 (y 2), .int .u8 (y 3)] 30)) (.cells #[.int .i64 room, .slice A n c, .int .i64 (sent + 1), .int .i64 (lost + 1)] 37); simpa using h)
  exact bodyPost_ret (results_cell_row rfl _ _ (W.heap.size + 2) 37 #[.int .i64 room, .slice A n c, .int .i64 (sent + 1), .int .i64 (lost + 1)] (0, 0) _ rfl HX2 Try.underlying37 rfl (by kernel_rfl)) rfl ⟨A, c, rfl, ReadsS_below HR.out HBW, hc, HBW, fun _ _ h => h⟩

end Go.Proofs.Ytnfgnafphfddhaa.LnkD
