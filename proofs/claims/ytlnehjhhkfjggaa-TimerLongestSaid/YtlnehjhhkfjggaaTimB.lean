import Derived.Test.YtlnehjhhkfjggaaPTimerFiresx2
import Derived.Outline
import Derived.Deep.RegionHeld3
namespace Go.Proofs.Ytlnehjhhkfjggaa.TimB
open Go.RowKit Go.Proofs.Ytlnehjhhkfjggaa.PTimerFires Go.Proofs.YtlnehjhhkfjggaaW.PrintWords Go.Proofs.YtlnehjhhkfjggaaW.PrintLast Go.Proofs.YtlnehjhhkfjggaaW.PrintMore
set_option linter.unusedVariables false
set_option linter.unusedSimpArgs false
attribute [local go_sem high] eqA50
attribute [local go_sem] max2_int min2_int max_two min_two

/-- What is known of a block: its cells; that they may be written. -/
def Blk (W : World) (B : Nat) (cs : Array Value) (t : TypeId) : Prop := W.heap[B]? = some (.cells cs t (0, 0))
theorem Blk.lt {W : World} {B : Nat} {cs : Array Value} {t : TypeId} (h : Blk W B cs t) : B < W.heap.size := (Array.getElem?_eq_some_iff.1 h).1
theorem Blk.below {W W' : World} {B : Nat} {cs : Array Value} {t : TypeId} (h : Blk W B cs t) (hb : Below W.heap.size W W') : Blk W' B cs t := (hb.block B h.lt).trans h
theorem Blk.new (W : World) (cs : Array Value) (t : TypeId) : Blk (W.alloc (.cells cs t)) W.heap.size cs t := by
  show (W.heap.push _)[W.heap.size]? = _
  simp
theorem Blk.alloc {W : World} {B : Nat} {cs : Array Value} {t : TypeId} (h : Blk W B cs t) (o : Obj) : Blk (W.alloc o) B cs t := (Below.heap_alloc W o B h.lt).trans h
theorem Blk.set {W : World} {B : Nat} {cs : Array Value} {t : TypeId} (h : Blk W B cs t) (i : Nat) (v : Value) : Blk (W.setCell ⟨B, i, none⟩ v) B (cs.setIfInBounds i v) t := by
  unfold Blk World.setCell at *
  simp [Array.getElem?_modify, h]
theorem Blk.cell {W : World} {B : Nat} {cs : Array Value} {t : TypeId} (h : Blk W B cs t) (i : Nat) : W.cell? ⟨B, i, none⟩ = cs[i]? := by
  unfold Blk at h; simp [World.cell?, h]
theorem Blk.free {W : World} {B : Nat} {cs : Array Value} {t : TypeId} (h : Blk W B cs t) (i : Nat) : W.frozen? ⟨B, i, none⟩ = false := by
  unfold Blk at h; simp [World.frozen?, h]
theorem Blk.other {W : World} {B g : Nat} {cs : Array Value} {t : TypeId} (h : Blk W B cs t) (hne : B ≠ g) (i : Nat) (v : Value) : Blk (W.setCell ⟨g, i, none⟩ v) B cs t :=
  (Below.heap_setCell W ⟨g, i, none⟩ v B hne).trans h
/-- The three cells of a box, as the walk asks. -/
theorem Blk.three {W : World} {B : Nat} {x y z : Value} {t : TypeId} (h : Blk W B #[x, y, z] t) :
    (W.cell? ⟨B, 0, none⟩ = some x ∧ W.cell? ⟨B, 1, none⟩ = some y ∧ W.cell? ⟨B, 2, none⟩ = some z) ∧ (W.frozen? ⟨B, 0, none⟩ = false ∧ W.frozen? ⟨B, 1, none⟩ = false ∧ W.frozen? ⟨B, 2, none⟩ = false) :=
  ⟨⟨h.cell 0, h.cell 1, h.cell 2⟩, h.free 0, h.free 1, h.free 2⟩
/-- One tick, plainly. -/
def tk (b : Bool) (w l : Int) : Bool × Int × Int × Bool :=
  if b = true ∧ 1 ≤ l ∧ l ≤ w ∧ w ≤ 16 then (if 1 < l then (true, w, l - 1, false) else (true, mn (w + w) 16, mn (w + w) 16, true)) else (b, w, l, false)
/-- So many ticks. -/
def tks : Nat → Int → Bool → Int → Int → Bool × Int × Int × Int
  | 0, f, b, w, l => (b, w, l, f)
  | d + 1, f, b, w, l => tks d (if (tk b w l).2.2.2 = true then f + 1 else f) (tk b w l).1 (tk b w l).2.1 (tk b w l).2.2.1

theorem wrap_id {x : Int} (h1 : -9223372036854775808 ≤ x) (h2 : x ≤ 9223372036854775807) : wrap64 x = x := by
  unfold wrap64; omega

theorem tick_prog (k : Nat) (b : Bool) (w l : Int) : timer_Tick.f (k + 1) b w l = some (tk b w l) := by
  unfold timer_Tick.f tk
  cases b with
  | false => rw [if_neg Bool.false_ne_true, if_neg (by simp)]; rfl
  | true =>
    rw [if_pos rfl]
    unfold timer_May.f
    rw [if_pos rfl]
    by_cases h1 : l ≥ 1
    · rw [if_pos h1]
      by_cases h2 : l ≤ w
      · rw [if_pos h2, Option.bind_some]
        by_cases h3 : w ≤ 16
        · rw [decide_eq_true h3, if_pos ⟨rfl, h1, h2, h3⟩]
          simp only [timer_Tick.j0, Bool.not_true]
          rw [if_neg Bool.false_ne_true, wrap_id (by omega) (by omega), wrap_id (by omega) (by omega)]
          by_cases h4 : 1 < l
          · rw [if_pos (by omega), if_pos h4]
          · rw [if_neg (by omega), if_neg h4]
        · rw [decide_eq_false h3, if_neg (by omega)]; rfl
      · rw [if_neg h2, if_neg (by omega)]; rfl
    · rw [if_neg h1, if_neg (by omega)]; rfl

theorem Tick_calls (b : Bool) (w l : Int) (W : World) : Calls Try.prog 29 #[.agg #[.bool b, .int .i64 w, .int .i64 l]] W fun e W' =>
    e = .returned (.tuple #[.agg #[.bool (tk b w l).1, .int .i64 (tk b w l).2.1, .int .i64 (tk b w l).2.2.1], .bool (tk b w l).2.2.2]) ∧ Below W.heap.size W W' := by
  exact timer_Tick.calls 1 b w l _ _ _ _ W (tick_prog 0 b w l)

/-- Where the rounds stand: behind i rounds f times fired, the timer (b, w, l): what is to come is r. -/
def Left (N : Int) (r : Bool × Int × Int × Int) (k : Nat) (f i : Int) (b : Bool) (w l : Int) : Prop := N - i = k ∧ 0 ≤ i ∧ 0 ≤ f ∧ f ≤ i ∧ tks k f b w l = r

set_option maxHeartbeats 2000000 in
set_option maxRecDepth 100000 in
theorem Ticks_calls (b : Bool) (w l n : Int) (W : World) (r : Bool × Int × Int × Int) (hr0 : r = tks (mn (mx n 0) 10000).toNat 0 b w l) : Calls Try.prog 43 #[.agg #[.bool b, .int .i64 w, .int .i64 l], .int .i64 n] W fun e W' =>
    e = .returned (.tuple #[.agg #[.bool r.1, .int .i64 r.2.1, .int .i64 r.2.2.1], .int .i64 r.2.2.2]) ∧ Below W.heap.size W W' := by
  obtain ⟨M, hM⟩ : ∃ M, (if n < 0 then 0 else n) = M := ⟨_, rfl⟩
  obtain ⟨N, hN⟩ : ∃ N, (if 10000 < M then 10000 else M) = N := ⟨_, rfl⟩
  have hN' : mn (mx n 0) 10000 = N := by rw [← hN, ← hM]; rfl
  have hr : 0 ≤ N ∧ N ≤ 10000 := by split at hM <;> split at hN <;> omega
  rw [hN'] at hr0
  have HR := Aside0.mk hr0
  clear hr0 hN'
  go_enter Try.func43, Try.ntmps43
  go_wp2
  have hk1 := Aside0.mk ((Blk.new W #[.bool b, .int .i64 w, .int .i64 l] 50).alloc (.cells #[.bool false, .int .i64 0, .int .i64 0] 50))
  have hk2 := Aside0.mk (Blk.new (W.alloc (.cells #[.bool b, .int .i64 w, .int .i64 l] 50)) #[.bool false, .int .i64 0, .int .i64 0] 50)
  go_loopg [6, 12] N.toNat (fun k f i wr => ∃ (f' i' : Int) (b' : Bool) (w' l' : Int), f = .int .i64 f' ∧ i = .int .i64 i' ∧ Aside0 (Left N r k f' i' b' w' l') ∧ Aside0 (Blk wr W.heap.size #[.bool b', .int .i64 w', .int .i64 l'] 50) ∧ Aside0 (Blk wr (W.heap.size + 1) #[.bool false, .int .i64 0, .int .i64 0] 50) ∧ Aside0 (Below W.heap.size W wr))
  case atStart => exact ⟨0, 0, b, w, l, rfl, rfl, ⟨⟨by omega, by omega, by omega, by omega, HR.out.symm⟩⟩, hk1, ⟨by simpa using hk2.out⟩, ⟨below_alloc (below_alloc (Below.refl _ _) _) _⟩⟩
  case round =>
    clear hk1 hk2
    obtain ⟨f, i, b', w', l', rfl, rfl, HL, K1, K2, HB⟩ := hrel
    obtain ⟨⟨c0, c1, c2⟩, f0, f1, f2⟩ := K1.out.three
    have hlt := K2.out.lt
    obtain ⟨⟨d0, d1, d2⟩, g0, g1, g2⟩ := K2.out.three
    by_cases hi : i < N
    · go_wp2_with (fail)
      refine (Tick_calls b' w' l' _).mono ?_
      rintro e w1 ⟨rfl, hb⟩
      have K1' := K1.out.below hb
      have K2' := Aside0.mk (K2.out.below hb)
      have HB' := Aside0.mk (below_then HB.out HB.out.size hb)
      obtain ⟨⟨c0', c1', c2'⟩, f0', f1', f2'⟩ := K1'.three
      have K1'' := Aside0.mk K1'
      have hz := K1'.lt
      obtain ⟨k, rfl, hL⟩ : ∃ k, gk = k + 1 ∧ Aside0 (Left N r k (if (tk b' w' l').2.2.2 = true then f + 1 else f) (i + 1) (tk b' w' l').1 (tk b' w' l').2.1 (tk b' w' l').2.2.1 ∧ f ≤ 10000 ∧ i ≤ 10000 ∧ 0 ≤ f ∧ 0 ≤ i) := by
        obtain ⟨h1, h2, h3, h4, h5⟩ := HL.out
        refine ⟨gk - 1, by omega, ⟨⟨by omega, by omega, by split <;> omega, by split <;> omega, ?_⟩, by omega, by omega, h3, h2⟩⟩
        rw [show gk = gk - 1 + 1 by omega] at h5
        exact h5
      obtain ⟨⟨tb, tw, tl, tf⟩, ht⟩ : ∃ q, tk b' w' l' = q := ⟨_, rfl⟩
      rw [ht] at hL ⊢
      clear ht K1' hb HL
      have hf1 := hL.out.2.1
      have hf2 := hL.out.2.2.1
      have hf3 := hL.out.2.2.2.1
      have hf4 := hL.out.2.2.2.2
      cases tf
      · go_wp2_with (fail)
        go_roundg k
        case measure => omega
        case rel =>
          refine ⟨_, _, _, _, _, rfl, rfl, ⟨hL.out.1⟩, ?_, ?_, ?_⟩
          · exact ⟨((((K1''.out.set 0 _).set 1 _).set 2 _).alloc _)⟩
          · exact ⟨((((K2'.out.other (by omega) 0 _).other (by omega) 1 _).other (by omega) 2 _).alloc _)⟩
          · exact ⟨below_alloc (((HB'.out.setCell (Nat.le_refl _) _).setCell (Nat.le_refl _) _).setCell (Nat.le_refl _) _) _⟩
      · go_wp2_with (fail)
        go_roundg k
        case measure => omega
        case rel =>
          refine ⟨_, _, _, _, _, rfl, rfl, ⟨hL.out.1⟩, ?_, ?_, ?_⟩
          · exact ⟨((((K1''.out.set 0 _).set 1 _).set 2 _).alloc _)⟩
          · exact ⟨((((K2'.out.other (by omega) 0 _).other (by omega) 1 _).other (by omega) 2 _).alloc _)⟩
          · exact ⟨below_alloc (((HB'.out.setCell (Nat.le_refl _) _).setCell (Nat.le_refl _) _).setCell (Nat.le_refl _) _) _⟩
    · have hres : r = (b', w', l', f) := by
        obtain ⟨h1, h2, h3, h4, h5⟩ := HL.out
        obtain rfl : gk = 0 := by omega
        exact h5.symm
      subst hres
      go_wp2_with (fail)
      refine bodyPost_ret (results_ct rfl _ _ (W.heap.size + 1) 50 #[.bool b', .int .i64 w', .int .i64 l'] (0, 0) _ rfl (((K2.out.set 0 _).set 1 _).set 2 _) Try.underlying50 rfl (by kernel_rfl)) rfl ⟨rfl, ?_⟩
      exact (((HB.out.setCell (by simp) _).setCell (by simp) _).setCell (by simp) _)

/-- May a timer be? -/
def may (b : Bool) (w l : Int) : Bool := if b = true then decide (1 ≤ l ∧ l ≤ w ∧ w ≤ 16) else decide (w = 0 ∧ l = 0)
theorem may_yes {w l : Int} (h : 1 ≤ l ∧ l ≤ w ∧ w ≤ 16) : may true w l = true := by unfold may; rw [if_pos rfl]; exact decide_eq_true h
theorem may_no {w l : Int} (h : ¬ (1 ≤ l ∧ l ≤ w ∧ w ≤ 16)) : may true w l = false := by unfold may; rw [if_pos rfl]; exact decide_eq_false h

set_option maxHeartbeats 2000000 in
set_option maxRecDepth 100000 in
theorem RMay_on (w l : Int) (W : World) (m : Bool) (hm : may true w l = m) : Calls Try.prog 52 #[.agg #[.bool true, .int .i64 w, .int .i64 l]] W fun e W' =>
    e = .returned (.bool m) ∧ Below W.heap.size W W' := by
  by_cases h1 : 1 ≤ w
  · by_cases h2 : w ≤ 16
    · by_cases h3 : 1 ≤ l
      · obtain rfl : decide (l ≤ w) = m := by rw [← hm]; simp [may, h2, h3]
        clear hm
        go_enter Try.func52, Try.ntmps52
        go_wp2
        go_ret
        exact ⟨rfl, below_alloc (Below.refl _ _) _⟩
      · obtain rfl : false = m := by rw [← hm, may_no (by omega)]
        clear hm
        go_enter Try.func52, Try.ntmps52
        go_wp2
        go_ret
        exact ⟨rfl, below_alloc (Below.refl _ _) _⟩
    · obtain rfl : false = m := by rw [← hm, may_no (by omega)]
      clear hm
      go_enter Try.func52, Try.ntmps52
      go_wp2
      go_ret
      exact ⟨rfl, below_alloc (Below.refl _ _) _⟩
  · obtain rfl : false = m := by rw [← hm, may_no (by omega)]
    clear hm
    go_enter Try.func52, Try.ntmps52
    go_wp2
    go_ret
    exact ⟨rfl, below_alloc (Below.refl _ _) _⟩

set_option maxHeartbeats 2000000 in
set_option maxRecDepth 100000 in
theorem RTick_calls (b : Bool) (w l : Int) (W : World) : Calls Try.prog 42 #[.agg #[.bool b, .int .i64 w, .int .i64 l]] W fun e W' =>
    e = .returned (.tuple #[.agg #[.bool (tk b w l).1, .int .i64 (tk b w l).2.1, .int .i64 (tk b w l).2.2.1], .bool (tk b w l).2.2.2]) ∧ Below W.heap.size W W' := by
  have HB : Below W.heap.size W ((W.alloc (.cells #[.bool b, .int .i64 w, .int .i64 l] 74)).alloc (.cells #[.bool false, .int .i64 0, .int .i64 0] 74)) := below_alloc (below_alloc (Below.refl _ _) _) _
  have J1 : Blk ((W.alloc (.cells #[.bool b, .int .i64 w, .int .i64 l] 74)).alloc (.cells #[.bool false, .int .i64 0, .int .i64 0] 74)) W.heap.size #[.bool b, .int .i64 w, .int .i64 l] 74 := (Blk.new W _ _).alloc _
  have J2 : Blk ((W.alloc (.cells #[.bool b, .int .i64 w, .int .i64 l] 74)).alloc (.cells #[.bool false, .int .i64 0, .int .i64 0] 74)) (W.heap.size + 1) #[.bool false, .int .i64 0, .int .i64 0] 74 := by
    have := Blk.new (W.alloc (.cells #[.bool b, .int .i64 w, .int .i64 l] 74)) #[.bool false, .int .i64 0, .int .i64 0] 74
    simpa using this
  cases b
  · have ht : tk false w l = (false, w, l, false) := by simp [tk]
    rw [ht]
    clear ht
    have HB' := Aside0.mk HB
    have J2' := Aside0.mk J2
    clear HB J1 J2
    go_enter Try.func42, Try.ntmps42
    go_wp2_with (fail)
    refine bodyPost_ret (results_ct rfl _ _ (W.heap.size + 1) 74 #[.bool false, .int .i64 w, .int .i64 l] (0, 0) _ rfl (show Blk _ _ _ 74 from by simpa using Blk.new (W.alloc (.cells #[.bool false, .int .i64 w, .int .i64 l] 74)) #[.bool false, .int .i64 w, .int .i64 l] 74) Try.underlying74 rfl (by kernel_rfl)) rfl ⟨rfl, ?_⟩
    exact below_alloc (below_alloc (Below.refl _ _) _) _
  · by_cases hm : 1 ≤ l ∧ l ≤ w ∧ w ≤ 16
    · have HM := Aside0.mk (may_yes hm)
      obtain ⟨h1, h2, h3⟩ := hm
      obtain ⟨M, hM⟩ : ∃ M, (if 16 < 2 * w then 16 else 2 * w) = M := ⟨_, rfl⟩
      have ht : tk true w l = if 1 < l then (true, w, l - 1, false) else (true, M, M, true) := by
        unfold tk; rw [if_pos ⟨rfl, h1, h2, h3⟩, ← hM]
        unfold mn; rw [show w + w = 2 * w by omega]
      have HT := Aside0.mk ht
      rw [ht]
      clear ht
      by_cases hl : 1 < l
      · rw [if_pos hl]
        have HB' := Aside0.mk HB
        have J1' := Aside0.mk J1
        have J2' := Aside0.mk J2
        clear HB J1 J2 hM
        go_enter Try.func42, Try.ntmps42
        go_wp2_with (fail)
        refine (RMay_on w l _ true HM.out).mono ?_
        rintro e w1 ⟨rfl, hb⟩
        have K1 := J1'.out.below hb
        have K2 := J2'.out.below hb
        have HB'' := Aside0.mk (below_then HB'.out HB'.out.size hb)
        obtain ⟨⟨c0, c1, c2⟩, -, -, -⟩ := K1.three
        obtain ⟨⟨d0, d1, d2⟩, e0, e1, e2⟩ := K2.three
        have K2' := Aside0.mk K2
        clear K1 K2 hb HB' J1' J2'
        go_wp2_with (fail)
        refine bodyPost_ret (results_ct rfl _ _ (W.heap.size + 1) 74 #[.bool true, .int .i64 w, .int .i64 (l - 1)] (0, 0) _ rfl (((K2'.out.set 0 _).set 1 _).set 2 _) Try.underlying74 rfl (by kernel_rfl)) rfl ⟨rfl, ?_⟩
        exact (((HB''.out.setCell (by simp) _).setCell (by simp) _).setCell (by simp) _)
      · rw [if_neg hl]
        have HB' := Aside0.mk HB
        have J1' := Aside0.mk J1
        have J2' := Aside0.mk J2
        clear HB J1 J2
        go_enter Try.func42, Try.ntmps42
        go_wp2_with (fail)
        refine (RMay_on w l _ true HM.out).mono ?_
        rintro e w1 ⟨rfl, hb⟩
        have K1 := J1'.out.below hb
        have K2 := J2'.out.below hb
        have HB'' := Aside0.mk (below_then HB'.out HB'.out.size hb)
        obtain ⟨⟨c0, c1, c2⟩, -, -, -⟩ := K1.three
        obtain ⟨⟨d0, d1, d2⟩, e0, e1, e2⟩ := K2.three
        have K2' := Aside0.mk K2
        clear K1 K2 hb HB' J1' J2'
        go_wp2_with (fail)
        refine bodyPost_ret (results_ct rfl _ _ (W.heap.size + 1) 74 #[.bool true, .int .i64 M, .int .i64 M] (0, 0) _ rfl (((K2'.out.set 0 _).set 1 _).set 2 _) Try.underlying74 rfl (by kernel_rfl)) rfl ⟨rfl, ?_⟩
        exact (((HB''.out.setCell (by simp) _).setCell (by simp) _).setCell (by simp) _)
    · have HM := Aside0.mk (may_no hm)
      have ht : tk true w l = (true, w, l, false) := by unfold tk; rw [if_neg (by omega)]
      rw [ht]
      clear ht
      have HB' := Aside0.mk HB
      have J1' := Aside0.mk J1
      have J2' := Aside0.mk J2
      clear HB J1 J2 hm
      go_enter Try.func42, Try.ntmps42
      go_wp2_with (fail)
      refine (RMay_on w l _ false HM.out).mono ?_
      rintro e w1 ⟨rfl, hb⟩
      have K1 := J1'.out.below hb
      have K2 := J2'.out.below hb
      have HB'' := Aside0.mk (below_then HB'.out HB'.out.size hb)
      obtain ⟨⟨c0, c1, c2⟩, -, -, -⟩ := K1.three
      obtain ⟨⟨d0, d1, d2⟩, e0, e1, e2⟩ := K2.three
      have K2' := Aside0.mk K2
      clear K1 K2 hb HB' J1' J2'
      go_wp2_with (fail)
      refine bodyPost_ret (results_ct rfl _ _ (W.heap.size + 1) 74 #[.bool true, .int .i64 w, .int .i64 l] (0, 0) _ rfl (((K2'.out.set 0 _).set 1 _).set 2 _) Try.underlying74 rfl (by kernel_rfl)) rfl ⟨rfl, ?_⟩
      exact (((HB''.out.setCell (by simp) _).setCell (by simp) _).setCell (by simp) _)

set_option maxHeartbeats 2000000 in
set_option maxRecDepth 100000 in
theorem RTicks_calls (b : Bool) (w l n : Int) (W : World) (r : Bool × Int × Int × Int) (hr0 : r = tks (mn (mx n 0) 10000).toNat 0 b w l) : Calls Try.prog 44 #[.agg #[.bool b, .int .i64 w, .int .i64 l], .int .i64 n] W fun e W' =>
    e = .returned (.tuple #[.agg #[.bool r.1, .int .i64 r.2.1, .int .i64 r.2.2.1], .int .i64 r.2.2.2]) ∧ Below W.heap.size W W' := by
  obtain ⟨N, hN⟩ : ∃ N, N = mn (mx n 0) 10000 := ⟨_, rfl⟩
  rw [← hN] at hr0
  have hr : 0 ≤ N ∧ N ≤ 10000 ∧ (∀ i, 0 ≤ i → i < N → i < n ∧ i < 10000) ∧ (∀ i, 0 ≤ i → i ≤ N → ¬ i < N → i < n → ¬ i < 10000) := by
    unfold mn mx at hN
    refine ⟨?_, ?_, fun i h0 h => ?_, fun i h0 h1 h2 => ?_⟩ <;> split at hN <;> split at hN <;> omega
  obtain ⟨hr1, hr2, hr3, hr4⟩ := hr
  have HR := Aside0.mk hr0
  have HR3 := Aside0.mk hr3
  have HR4 := Aside0.mk hr4
  clear hr0 hr3 hr4 hN
  go_enter Try.func44, Try.ntmps44
  go_wp2
  have hk1 := Aside0.mk ((Blk.new W #[.bool b, .int .i64 w, .int .i64 l] 74).alloc (.cells #[.bool false, .int .i64 0, .int .i64 0] 74))
  have hk2 := Aside0.mk (Blk.new (W.alloc (.cells #[.bool b, .int .i64 w, .int .i64 l] 74)) #[.bool false, .int .i64 0, .int .i64 0] 74)
  go_loopg [6, 7] N.toNat (fun k f i wr => ∃ (f' i' : Int) (b' : Bool) (w' l' : Int), f = .int .i64 f' ∧ i = .int .i64 i' ∧ Aside0 (Left N r k f' i' b' w' l') ∧ Aside0 (Blk wr W.heap.size #[.bool b', .int .i64 w', .int .i64 l'] 74) ∧ Aside0 (Blk wr (W.heap.size + 1) #[.bool false, .int .i64 0, .int .i64 0] 74) ∧ Aside0 (Below W.heap.size W wr))
  case atStart => exact ⟨0, 0, b, w, l, rfl, rfl, ⟨⟨by omega, by omega, by omega, by omega, HR.out.symm⟩⟩, hk1, ⟨by simpa using hk2.out⟩, ⟨below_alloc (below_alloc (Below.refl _ _) _) _⟩⟩
  case round =>
    clear hk1 hk2
    obtain ⟨f, i, b', w', l', rfl, rfl, HL, K1, K2, HB⟩ := hrel
    obtain ⟨⟨c0, c1, c2⟩, f0, f1, f2⟩ := K1.out.three
    have hlt := K2.out.lt
    obtain ⟨⟨d0, d1, d2⟩, g0, g1, g2⟩ := K2.out.three
    by_cases hi : i < N
    · obtain ⟨hi1, hi2⟩ := HR3.out i HL.out.2.1 hi
      go_wp2_with (fail)
      refine (RTick_calls b' w' l' _).mono ?_
      rintro e w1 ⟨rfl, hb⟩
      have K1' := K1.out.below hb
      have K2' := Aside0.mk (K2.out.below hb)
      have HB' := Aside0.mk (below_then HB.out HB.out.size hb)
      obtain ⟨⟨c0', c1', c2'⟩, f0', f1', f2'⟩ := K1'.three
      have K1'' := Aside0.mk K1'
      have hz := K1'.lt
      obtain ⟨k, rfl, hL⟩ : ∃ k, gk = k + 1 ∧ Aside0 (Left N r k (if (tk b' w' l').2.2.2 = true then f + 1 else f) (i + 1) (tk b' w' l').1 (tk b' w' l').2.1 (tk b' w' l').2.2.1 ∧ f ≤ 10000 ∧ i ≤ 10000 ∧ 0 ≤ f ∧ 0 ≤ i) := by
        obtain ⟨h1, h2, h3, h4, h5⟩ := HL.out
        refine ⟨gk - 1, by omega, ⟨⟨by omega, by omega, by split <;> omega, by split <;> omega, ?_⟩, by omega, by omega, h3, h2⟩⟩
        rw [show gk = gk - 1 + 1 by omega] at h5
        exact h5
      obtain ⟨⟨tb, tw, tl, tf⟩, ht⟩ : ∃ q, tk b' w' l' = q := ⟨_, rfl⟩
      rw [ht] at hL ⊢
      clear ht K1' hb HL
      have hf1 := hL.out.2.1
      have hf2 := hL.out.2.2.1
      have hf3 := hL.out.2.2.2.1
      have hf4 := hL.out.2.2.2.2
      cases tf
      all_goals
        go_wp2_with (fail)
        go_roundg k
        case measure => omega
        case rel =>
          refine ⟨_, _, _, _, _, rfl, rfl, ⟨hL.out.1⟩, ?_, ?_, ?_⟩
          · exact ⟨((((K1''.out.set 0 _).set 1 _).set 2 _).alloc _)⟩
          · exact ⟨((((K2'.out.other (by omega) 0 _).other (by omega) 1 _).other (by omega) 2 _).alloc _)⟩
          · exact ⟨below_alloc (((HB'.out.setCell (Nat.le_refl _) _).setCell (Nat.le_refl _) _).setCell (Nat.le_refl _) _) _⟩
    · have hres : r = (b', w', l', f) := by
        obtain ⟨h1, h2, h3, h4, h5⟩ := HL.out
        obtain rfl : gk = 0 := by omega
        exact h5.symm
      have hin : i ≤ N ∧ 0 ≤ i := by
        obtain ⟨h1, h2, h3, h4, h5⟩ := HL.out
        omega
      subst hres
      by_cases hi1 : i < n
      · have hi2 := HR4.out i hin.2 hin.1 (by omega) hi1
        go_wp2_with (fail)
        refine bodyPost_ret (results_ct rfl _ _ (W.heap.size + 1) 74 #[.bool b', .int .i64 w', .int .i64 l'] (0, 0) _ rfl (((K2.out.set 0 _).set 1 _).set 2 _) Try.underlying74 rfl (by kernel_rfl)) rfl ⟨rfl, ?_⟩
        exact (((HB.out.setCell (by simp) _).setCell (by simp) _).setCell (by simp) _)
      · go_wp2_with (fail)
        refine bodyPost_ret (results_ct rfl _ _ (W.heap.size + 1) 74 #[.bool b', .int .i64 w', .int .i64 l'] (0, 0) _ rfl (((K2.out.set 0 _).set 1 _).set 2 _) Try.underlying74 rfl (by kernel_rfl)) rfl ⟨rfl, ?_⟩
        exact (((HB.out.setCell (by simp) _).setCell (by simp) _).setCell (by simp) _)
end Go.Proofs.Ytlnehjhhkfjggaa.TimB
