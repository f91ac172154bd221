import Derived.Test.YtlnehjhhkfjggaaChkC
import Derived.Deep.DeepCutAuto
namespace Go.Proofs.Ytlnehjhhkfjggaa.ChkD
open Go.RowKit Go.Proofs.YtlnehjhhkfjggaaW.PrintWords Go.Proofs.YtlnehjhhkfjggaaW.PrintMore Go.Proofs.Ytlnehjhhkfjggaa.ChkA Go.Proofs.Ytlnehjhhkfjggaa.ChkB Go.Proofs.Ytlnehjhhkfjggaa.ChkC
set_option linter.unusedVariables false
set_option linter.unusedSimpArgs false

/-- What opening gives: the bytes ahead of the tail, and the code. -/
def opened (l : List Int) : List Int × Nat :=
  if l.length < 4 then ([], 4) else if le (sum (l.take (l.length - 4))) = l.drop (l.length - 4) then (l.take (l.length - 4), 0) else ([], 9)
theorem opened_short {l : List Int} (h : l.length < 4) : opened l = ([], 4) := if_pos h
theorem opened_ok {l : List Int} (h : ¬ l.length < 4) (h2 : le (sum (l.take (l.length - 4))) = l.drop (l.length - 4)) : opened l = (l.take (l.length - 4), 0) := by unfold opened; rw [if_neg h, if_pos h2]
theorem opened_bad {l : List Int} (h : ¬ l.length < 4) (h2 : ¬ le (sum (l.take (l.length - 4))) = l.drop (l.length - 4)) : opened l = ([], 9) := by unfold opened; rw [if_neg h, if_neg h2]
theorem Byt_drop {l : List Int} (h : Byt l) (n : Nat) : Byt (l.drop n) := by
  intro i
  rw [show (l.drop n).getD i 0 = l.getD (n + i) 0 by simp [List.getD_eq_getElem?_getD, List.getElem?_drop]]
  exact h _
theorem Byt_le (n : Nat) : Byt (le n) := by
  intro i
  rcases i with _ | _ | _ | _ | i <;> simp [ChkC.le] <;> omega

set_option maxHeartbeats 8000000 in
theorem Open_calls (A : Option Addr) (c : Nat) (l : List Int) (W : World) (hr : ReadsInt W .u8 A l.length l) (hB : Byt l) (hc : l.length ≤ c) (hl : l.length ≤ 100000) :
    Calls Try.prog 36 #[.slice A l.length c] W fun e W' => ∃ v, e = .returned (.tuple #[v, .int .i64 ((opened l).2 : Nat)]) ∧ W'.ownsRow W.heap.size 5 1 v (opened l).1.length (nums .u8 (opened l).1) ∧ Below W.heap.size W W' := by
  by_cases hs : l.length < 4
  · rw [opened_short hs]
    have hs' : (l.length : Int) - 4 < 0 := by omega
    clear hr hB
    go_enter Try.func36, Try.ntmps36
    go_wp2_with (fail)
    go_ret2
    exact ⟨_, rfl, own_nil W _ 5 1, Below.refl _ _⟩
  · obtain ⟨m, hm⟩ : ∃ m, l.length - 4 = m := ⟨_, rfl⟩
    have hlen : l.length = m + 4 := by omega
    obtain ⟨A1, hcut, hA1⟩ := print_cut (P := Try.prog) 57 5 .i64 Try.underlying57 (i := Try.t5) (by kernel_rfl) rfl A (m + 4) c m (by omega)
    have hR1 := hr.take_ m (by omega)
    rw [hlen] at hr
    have hR2 := hA1 W .u8 l (by omega) hr
    rw [Nat.add_sub_cancel_left] at hR2
    have HR := Aside0.mk hr
    have HR1 := Aside0.mk hR1
    have HR2 := Aside0.mk hR2
    have HB1 := Aside0.mk (hB.take m)
    have HB2 := Aside0.mk (Byt_drop hB m)
    have HL : Aside0 ((l.take m).length = m) := ⟨by rw [List.length_take]; omega⟩
    have HL2 : Aside0 ((l.drop m).length = m + 4 - m) := ⟨by rw [List.length_drop]; omega⟩
    have HSL := Aside0.mk (sum_lt (l.take m))
    have hmb : m ≤ 100000 := by omega
    have hmc1 : m ≤ c := by omega
    have hm0 : ((m : Int) + 4) - 4 = m := by omega
    rw [hlen]
    rw [Nat.add_sub_cancel_left] at hcut
    have hok : opened l = if le (sum (l.take m)) = l.drop m then (l.take m, 0) else ([], 9) := by unfold opened; rw [if_neg hs, hm]
    have HOP := Aside0.mk hok
    clear hr hB hR1 hR2 hA1 hs hlen hm hok
    generalize l.take m = a at *
    generalize l.drop m = t at *
    go_enter Try.func36, Try.ntmps36
    go_upto_region 4 with fail
    go_cut [11] (fun v wx => v = .bool (!decide (le (sum a) = t)) ∧ Aside0 (Below W.heap.size W wx))
    case first =>
      go_region_with (first
        | (go_at_call 32; refine (Sum_n A m c a _ (by exact HR1.out) HB1.out hmc1).mono ?_; rintro e w1 ⟨rfl, hb1⟩)
        | (go_at_call 50; refine (lay_calls (sum a) HSL.out _).mono ?_; rintro e w2 ⟨rfl, hg, hb2⟩)
        | (go_at_call 49; refine (Equal_n _ 4 4 (le (sum a)) A1 4 (c - m) t _ (by exact reads_lay hg) (by first | exact (HR2.out.below hb1).below hb2 | exact ((ReadsInt.drewN HR2.out 1).below hb1).below hb2) (Byt_le _) HB2.out).mono ?_; rintro e w3 ⟨rfl, rfl⟩))
      all_goals (go_wp2_with (fail); go_meet; exact ⟨rfl, ⟨below_then (below_then (below_drew (Below.refl _ W)) (Nat.le_refl _) hb1) (by have := hb1.size; exact this) hb2⟩⟩)
    case rest =>
      obtain ⟨rfl, HB⟩ := hcut
      by_cases hok : le (sum a) = t
      · have HO := HOP.out
        rw [if_pos hok] at HO
        rw [decide_eq_true hok, Bool.not_true]
        have HOP := Aside0.mk HO
        clear hok HO
        have hs := HB.out.size
        go_wp2_with (fail)
        refine (Clone_n A m c a _ (HR1.out.below HB.out) (by omega)).mono ?_
        rintro e w1 ⟨v, rfl, hown, hb1⟩
        have HW := Aside0.mk hown
        have HB2 := Aside0.mk (below_then HB.out hs hb1)
        clear hown hb1
        go_wp2_with (fail)
        go_ret2
        rw [HOP.out]
        exact ⟨_, rfl, own_weaken HW.out hs, HB2.out⟩
      · have HO := HOP.out
        rw [if_neg hok] at HO
        rw [decide_eq_false hok, Bool.not_false]
        have HOP := Aside0.mk HO
        clear hok HO
        go_wp2_with (fail)
        go_ret2
        rw [HOP.out]
        exact ⟨_, rfl, own_nil _ _ 5 1, HB.out⟩

theorem le_eq (n b0 b1 b2 b3 : Nat) (hn : n < 4294967296) (h0 : b0 < 256) (h1 : b1 < 256) (h2 : b2 < 256) (h3 : b3 < 256) :
    le n = [(b0 : Int), b1, b2, b3] ↔ n = b0 + 256 * b1 + 65536 * b2 + 16777216 * b3 := by
  simp only [le, List.cons.injEq, and_true]
  omega
theorem four {t : List Int} (ht : t.length = 4) (hB : Byt t) : ∃ b0 b1 b2 b3 : Nat, t = [(b0 : Int), b1, b2, b3] ∧ b0 < 256 ∧ b1 < 256 ∧ b2 < 256 ∧ b3 < 256 := by
  match t, ht with
  | [a, b, c, d], _ =>
    have h0 := hB 0
    have h1 := hB 1
    have h2 := hB 2
    have h3 := hB 3
    simp at h0 h1 h2 h3
    exact ⟨a.toNat, b.toNat, c.toNat, d.toNat, by simp; omega, by omega, by omega, by omega, by omega⟩

set_option maxHeartbeats 8000000 in
theorem ROpen_calls (A : Option Addr) (c : Nat) (l : List Int) (W : World) (hr : ReadsInt W .u8 A l.length l) (hB : Byt l) (hc : l.length ≤ c) (hl : l.length ≤ 100000) :
    Calls Try.prog 37 #[.slice A l.length c] W fun e W' => ∃ A' c', e = .returned (.tuple #[.slice A' (opened l).1.length c', .int .i64 ((opened l).2 : Nat)]) ∧ ReadsInt W .u8 A' (opened l).1.length (opened l).1 ∧ (opened l).1.length ≤ c' ∧ Below W.heap.size W W' := by
  by_cases hs : l.length < 4
  · rw [opened_short hs]
    have hs' : (l.length : Int) < 4 := by omega
    clear hr hB
    go_enter Try.func37, Try.ntmps37
    go_wp2_with (fail)
    go_ret2
    exact ⟨none, 0, rfl, ReadsInt.nil W .u8, Nat.le_refl _, Below.refl _ _⟩
  · obtain ⟨m, hm⟩ : ∃ m, l.length - 4 = m := ⟨_, rfl⟩
    have hlen : l.length = m + 4 := by omega
    have hR1 := hr.take_ m (by omega)
    have hok : opened l = if le (sum (l.take m)) = l.drop m then (l.take m, 0) else ([], 9) := by unfold opened; rw [if_neg hs, hm]
    obtain ⟨b0, b1, b2, b3, ht, h0, h1, h2, h3⟩ := four (t := l.drop m) (by rw [List.length_drop]; omega) (Byt_drop hB m)
    have hl1 : (l.take m).length = m := by rw [List.length_take]; omega
    have hSL := sum_lt (l.take m)
    have hB1 := hB.take m
    have hat : ∀ (j : Nat) (b : Nat), [(b0 : Int), b1, b2, b3].getD j 0 = b → j < 4 → rd l ((m + j : Nat) : Int) = b := by
      intro j b hj hj4
      rw [← ht] at hj
      rw [rd, Int.toNat_natCast]
      simpa [List.getD_eq_getElem?_getD, List.getElem?_drop] using hj
    obtain ⟨ad, rfl, c0⟩ := hr.at_ ((m + 0 : Nat) : Int) (by omega) (by omega)
    obtain ⟨ad', e, c1⟩ := hr.at_ ((m + 1 : Nat) : Int) (by omega) (by omega)
    cases e
    obtain ⟨ad', e, c2⟩ := hr.at_ ((m + 2 : Nat) : Int) (by omega) (by omega)
    cases e
    obtain ⟨ad', e, c3⟩ := hr.at_ ((m + 3 : Nat) : Int) (by omega) (by omega)
    cases e
    rw [hat 0 b0 rfl (by omega), Int.toNat_natCast] at c0
    rw [hat 1 b1 rfl (by omega), Int.toNat_natCast] at c1
    rw [hat 2 b2 rfl (by omega), Int.toNat_natCast] at c2
    rw [hat 3 b3 rfl (by omega), Int.toNat_natCast] at c3
    rw [Nat.add_zero] at c0
    rw [ht] at hok
    have hmb : m ≤ 100000 := by omega
    have hmc1 : m ≤ c := by omega
    have hm0 : ((m : Int) + 4) - 4 = m := by omega
    have HOP := Aside0.mk hok
    have HR1 := Aside0.mk hR1
    have HB1 := Aside0.mk hB1
    have HL1 := Aside0.mk hl1
    have HLE := Aside0.mk (le_eq (sum (l.take m)) b0 b1 b2 b3 hSL h0 h1 h2 h3)
    rw [hlen]
    clear hr hB hR1 hB1 hl1 hok hm hs ht hat hlen
    generalize l.take m = a at *
    go_enter Try.func37, Try.ntmps37
    go_wp2_with (fail)
    refine (RSum_n (some ad) m c a _ HR1.out HB1.out hmc1).mono ?_
    rintro e w1 ⟨rfl, rfl⟩
    generalize sum a = n at *
    go_wp2_with (fail)
    have i0 : (m : Int) < (m : Int) + 4 := by omega
    have j0 : (0 : Int) ≤ (m : Int) := by omega
    obtain ⟨m1, e1⟩ : ∃ x : Nat, m + 1 = x := ⟨_, rfl⟩
    rw [e1] at c1
    have i1 : (m1 : Int) < (m : Int) + 4 := by omega
    have w1 : IntKind.i64.wrap ((m : Int) + 1) = (m1 : Int) := by rw [IntKind.wrap_i64]; omega
    clear e1
    obtain ⟨m2, e2⟩ : ∃ x : Nat, m + 2 = x := ⟨_, rfl⟩
    rw [e2] at c2
    have i2 : (m2 : Int) < (m : Int) + 4 := by omega
    have w2 : IntKind.i64.wrap ((m : Int) + 2) = (m2 : Int) := by rw [IntKind.wrap_i64]; omega
    clear e2
    obtain ⟨m3, e3⟩ : ∃ x : Nat, m + 3 = x := ⟨_, rfl⟩
    rw [e3] at c3
    have i3 : (m3 : Int) < (m : Int) + 4 := by omega
    have w3 : IntKind.i64.wrap ((m : Int) + 3) = (m3 : Int) := by rw [IntKind.wrap_i64]; omega
    clear e3
    have u0 : IntKind.u32.wrap ((b0 : Int)) = (b0 : Int) := by rw [IntKind.wrap_u32]; omega
    have u1 : IntKind.u32.wrap ((b1 : Int)) = (b1 : Int) := by rw [IntKind.wrap_u32]; omega
    have u2 : IntKind.u32.wrap ((b2 : Int)) = (b2 : Int) := by rw [IntKind.wrap_u32]; omega
    have u3 : IntKind.u32.wrap ((b3 : Int)) = (b3 : Int) := by rw [IntKind.wrap_u32]; omega
    have p1 : IntKind.u32.wrap (256 * (b1 : Int)) = 256 * (b1 : Int) := by rw [IntKind.wrap_u32]; omega
    have p2 : IntKind.u32.wrap (65536 * (b2 : Int)) = 65536 * (b2 : Int) := by rw [IntKind.wrap_u32]; omega
    have p3 : IntKind.u32.wrap (16777216 * (b3 : Int)) = 16777216 * (b3 : Int) := by rw [IntKind.wrap_u32]; omega
    have q1 : IntKind.u32.wrap ((b0 : Int) + 256 * (b1 : Int)) = (b0 : Int) + 256 * (b1 : Int) := by rw [IntKind.wrap_u32]; omega
    have q2 : IntKind.u32.wrap ((b0 : Int) + 256 * (b1 : Int) + 65536 * (b2 : Int)) = (b0 : Int) + 256 * (b1 : Int) + 65536 * (b2 : Int) := by rw [IntKind.wrap_u32]; omega
    have q3 : IntKind.u32.wrap ((b0 : Int) + 256 * (b1 : Int) + 65536 * (b2 : Int) + 16777216 * (b3 : Int)) = (b0 : Int) + 256 * (b1 : Int) + 65536 * (b2 : Int) + 16777216 * (b3 : Int) := by rw [IntKind.wrap_u32]; omega
    by_cases hq : n = b0 + 256 * b1 + 65536 * b2 + 16777216 * b3
    · have HO := HOP.out
      rw [if_pos (HLE.out.2 hq)] at HO
      have HOP := Aside0.mk HO
      have hq' : (b0 : Int) + 256 * (b1 : Int) + 65536 * (b2 : Int) + 16777216 * (b3 : Int) = (n : Int) := by omega
      have hn' : ((n : Int) != (n : Int)) = false := bne_eq_false_iff_eq.2 rfl
      rw [hq'] at q3
      clear HO hq HLE h0 h1 h2 h3
      go_quiet (fail)
      go_wp2_with (fail)
      go_ret2
      rw [HOP.out]
      have hl := HL1.out
      clear HL1
      subst hl
      exact ⟨some ad, c, rfl, HR1.out, hmc1, pw_below_drewN (Below.refl _ _) _⟩
    · have HO := HOP.out
      rw [if_neg (fun h => hq (HLE.out.1 h))] at HO
      have HOP := Aside0.mk HO
      obtain ⟨v, hv⟩ : ∃ v : Int, (b0 : Int) + 256 * (b1 : Int) + 65536 * (b2 : Int) + 16777216 * (b3 : Int) = v := ⟨_, rfl⟩
      have hn' : ((n : Int) != v) = true := bne_iff_ne.2 (by omega)
      have hn2 : ¬ ((n : Int) = v) := by omega
      rw [hv] at q3
      clear HO hq HLE h0 h1 h2 h3
      go_quiet (fail)
      go_wp2_with (fail)
      go_ret2
      rw [HOP.out]
      exact ⟨none, 0, rfl, ReadsInt.nil W .u8, Nat.le_refl _, pw_below_drewN (Below.refl _ _) _⟩

theorem Open_n (A : Option Addr) (n c : Nat) (l : List Int) (W : World) (hr : ReadsInt W .u8 A n l) (hB : Byt l) (hc : n ≤ c) (hl : n ≤ 100000) :
    Calls Try.prog 36 #[.slice A n c] W fun e W' => ∃ v, e = .returned (.tuple #[v, .int .i64 ((opened l).2 : Nat)]) ∧ W'.ownsRow W.heap.size 5 1 v (opened l).1.length (nums .u8 (opened l).1) ∧ Below W.heap.size W W' := by
  obtain rfl := hr.1
  exact Open_calls A c l W hr hB hc hl
theorem ROpen_n (A : Option Addr) (n c : Nat) (l : List Int) (W : World) (hr : ReadsInt W .u8 A n l) (hB : Byt l) (hc : n ≤ c) (hl : n ≤ 100000) :
    Calls Try.prog 37 #[.slice A n c] W fun e W' => ∃ A' c', e = .returned (.tuple #[.slice A' (opened l).1.length c', .int .i64 ((opened l).2 : Nat)]) ∧ ReadsInt W .u8 A' (opened l).1.length (opened l).1 ∧ (opened l).1.length ≤ c' ∧ Below W.heap.size W W' := by
  obtain rfl := hr.1
  exact ROpen_calls A c l W hr hB hc hl
theorem Seal_n (A : Option Addr) (n c : Nat) (l : List Int) (W : World) (hr : ReadsInt W .u8 A n l) (hB : Byt l) (hc : n ≤ c) (hl : n ≤ 100000) :
    Calls Try.prog 39 #[.slice A n c] W fun e W' => ∃ v, e = .returned v ∧ W'.ownsRow W.heap.size 5 1 v (sealed l).length (nums .u8 (sealed l)) ∧ Below W.heap.size W W' := by
  obtain rfl := hr.1
  exact Seal_calls A c l W hr hB hc hl
theorem RSeal_n (A : Option Addr) (n c : Nat) (l : List Int) (W : World) (hr : ReadsInt W .u8 A n l) (hB : Byt l) (hc : n ≤ c) (hl : n ≤ 100000) :
    Calls Try.prog 40 #[.slice A n c] W fun e W' => ∃ v, e = .returned v ∧ W'.ownsRow W.heap.size 5 1 v (sealed l).length (nums .u8 (sealed l)) ∧ Below W.heap.size W W' := by
  obtain rfl := hr.1
  exact RSeal_calls A c l W hr hB hc hl
end Go.Proofs.Ytlnehjhhkfjggaa.ChkD
