import Derived.Test.YtlnehjhhkfjggaaChkE
namespace Go.Proofs.Ytlnehjhhkfjggaa.ChkF
open Go.RowKit Go.Proofs.YtlnehjhhkfjggaaW.PrintWords Go.Proofs.YtlnehjhhkfjggaaW.PrintMore Go.Proofs.Ytlnehjhhkfjggaa.ChkA Go.Proofs.Ytlnehjhhkfjggaa.ChkB Go.Proofs.Ytlnehjhhkfjggaa.ChkC Go.Proofs.Ytlnehjhhkfjggaa.ChkD Go.Proofs.Ytlnehjhhkfjggaa.ChkE
set_option linter.unusedVariables false
set_option linter.unusedSimpArgs false

theorem opened_le (l : List Int) : (opened l).2 ≤ 9 := by
  unfold opened
  split
  · simp
  · split <;> simp
set_option maxHeartbeats 8000000 in
theorem CheckSums_nat (A : Option Addr) (n c : Nat) (l : List Int) (r b : Nat) (W : World) (hr : ReadsInt W .u8 A n l) (hB : Byt l) (hc : n ≤ c) (h0 : r < 4294967296) (h1 : b < 256) :
    Calls Try.prog 7 #[.slice A n c, .int .u32 r, .int .u8 b] W fun e W' => e = .returned (.bool true) ∧ Below W.heap.size W W' := by
  have hmx := hr.2.1
  have HR := Aside0.mk hr
  have HY := Aside0.mk hB
  clear hr hB
  by_cases hl : 1000 < n
  · have hl' : (1000 : Int) < (n : Int) := by omega
    go_enter Try.func7, Try.ntmps7
    go_wp2_with (fail)
    refine (alive_calls _).mono ?_
    rintro e w1 ⟨rfl, hb⟩
    have HB := Aside0.mk hb
    clear hb
    go_wp2_with (fail)
    go_ret
    exact ⟨rfl, HB.out⟩
  · have hl' : ¬ (1000 : Int) < (n : Int) := by omega
    go_enter Try.func7, Try.ntmps7
    go_wp2_with (fail)
    refine (Sum_n A n c l _ HR.out HY.out hc).mono ?_
    rintro e w1 ⟨rfl, hb⟩
    have HR := Aside0.mk (HR.out.below hb)
    have HB := Aside0.mk hb
    have hs := hb.size
    clear hb
    go_wp2_with (fail)
    refine (RSum_n A n c l _ HR.out HY.out hc).mono ?_
    rintro e w2 ⟨rfl, rfl⟩
    generalize sum l = s at *
    go_wp2_with (fail)
    refine (Step_calls r b h0 h1 _).mono ?_
    rintro e w2 ⟨rfl, rfl⟩
    go_wp2_with (fail)
    refine (RStep_calls r b h0 h1 _).mono ?_
    rintro e w2 ⟨rfl, rfl⟩
    generalize crc r b = s2 at *
    go_wp2_with (fail)
    refine (alive_calls _).mono ?_
    rintro e w2 ⟨rfl, hb⟩
    have HB := Aside0.mk (below_then HB.out hs hb)
    clear hb
    go_wp2_with (fail)
    go_ret
    exact ⟨rfl, HB.out⟩

set_option maxHeartbeats 8000000 in
theorem CheckOpens_n (A : Option Addr) (n c : Nat) (l : List Int) (W : World) (hr : ReadsInt W .u8 A n l) (hB : Byt l) (hc : n ≤ c) :
    Calls Try.prog 8 #[.slice A n c] W fun e W' => e = .returned (.bool true) ∧ Below W.heap.size W W' := by
  have hmx := hr.2.1
  have HR := Aside0.mk hr
  have HY := Aside0.mk hB
  clear hr hB
  by_cases hl : 1000 < n
  · have hl' : (1000 : Int) < (n : Int) := by omega
    go_enter Try.func8, Try.ntmps8
    go_wp2_with (fail)
    refine (alive_calls _).mono ?_
    rintro e w1 ⟨rfl, hb⟩
    have HB := Aside0.mk hb
    clear hb
    go_wp2_with (fail)
    go_ret
    exact ⟨rfl, HB.out⟩
  · have hl' : ¬ (1000 : Int) < (n : Int) := by omega
    go_enter Try.func8, Try.ntmps8
    go_wp2_with (fail)
    refine (Open_n A n c l _ HR.out HY.out hc (by omega)).mono ?_
    rintro e w1 ⟨v, rfl, hown, hb⟩
    have HR := Aside0.mk (HR.out.below hb)
    have HB := Aside0.mk hb
    have hs := hb.size
    obtain ⟨A1, c1, rfl, hc1, hr1⟩ := own_cap hown
    have HR1 := Aside0.mk hr1
    clear hb hown hr1
    have hcode : Aside0 ((opened l).2 ≤ 9) := ⟨opened_le l⟩
    obtain ⟨o, ho⟩ : ∃ o, (opened l).1 = o := ⟨_, rfl⟩
    obtain ⟨k, hk⟩ : ∃ k, (opened l).2 = k := ⟨_, rfl⟩
    have HO := Aside0.mk ho
    have HK := Aside0.mk hk
    rw [ho] at hc1 HR1
    rw [ho, hk]
    rw [hk] at hcode
    have hk9 := hcode.out
    clear ho hk
    go_wp2_with (fail)
    refine (ROpen_n A n c l _ HR.out HY.out hc (by omega)).mono ?_
    rintro e w2 ⟨A2, c2, rfl, hr2, hc2, hb⟩
    rw [HO.out] at hr2 hc2 ⊢
    rw [HK.out]
    have HR2 := Aside0.mk (hr2.below hb)
    have HR1 := Aside0.mk (HR1.out.below hb)
    have HR := Aside0.mk (HR.out.below hb)
    have HB := Aside0.mk (below_then HB.out hs hb)
    have hs := HB.out.size
    clear hb hr2
    go_wp2_with (fail)
    refine (Seal_n A n c l _ HR.out HY.out hc (by omega)).mono ?_
    rintro e w3 ⟨v3, rfl, hown, hb⟩
    obtain ⟨A3, c3, rfl, hc3, hr3⟩ := own_cap hown
    have HR3 := Aside0.mk hr3
    have HR2 := Aside0.mk (HR2.out.below hb)
    have HR1 := Aside0.mk (HR1.out.below hb)
    have HR := Aside0.mk (HR.out.below hb)
    have HB := Aside0.mk (below_then HB.out hs hb)
    have hs := HB.out.size
    clear hb hr3 hown
    go_wp2_with (fail)
    refine (RSeal_n A n c l _ HR.out HY.out hc (by omega)).mono ?_
    rintro e w4 ⟨v4, rfl, hown, hb⟩
    obtain ⟨A4, c4, rfl, hc4, hr4⟩ := own_cap hown
    have HR4 := Aside0.mk hr4
    have HR3 := Aside0.mk (HR3.out.below hb)
    have HR2 := Aside0.mk (HR2.out.below hb)
    have HR1 := Aside0.mk (HR1.out.below hb)
    have HB := Aside0.mk (below_then HB.out hs hb)
    have hs := HB.out.size
    clear hb hr4 hown
    go_wp2_with (fail)
    refine (Same_n A3 _ c3 _ A4 _ c4 _ _ HR3.out hc3 HR4.out hc4).mono ?_
    rintro e w5 ⟨rfl, hb⟩
    rw [decide_eq_true rfl]
    have HR2 := Aside0.mk (HR2.out.below hb)
    have HR1 := Aside0.mk (HR1.out.below hb)
    have HB := Aside0.mk (below_then HB.out hs hb)
    have hs := HB.out.size
    clear hb
    go_wp2_with (fail)
    refine (Same_n A1 _ c1 _ A2 _ c2 _ _ HR1.out hc1 HR2.out hc2).mono ?_
    rintro e w6 ⟨rfl, hb⟩
    rw [decide_eq_true rfl]
    have HB := Aside0.mk (below_then HB.out hs hb)
    have hs := HB.out.size
    clear hb
    go_wp2_with (fail)
    refine (alive_calls _).mono ?_
    rintro e w7 ⟨rfl, hb⟩
    have HB := Aside0.mk (below_then HB.out hs hb)
    clear hb
    go_wp2_with (fail)
    go_ret
    exact ⟨rfl, HB.out⟩

theorem byt_of_wf {l : List Int} (h : ∀ x ∈ l, (Lit.int .u8 x).wf = true) : Byt l := by
  intro i
  by_cases hi : i < l.length
  · have := h _ (List.getElem_mem hi)
    simp [Lit.wf, IntKind.min, IntKind.max, IntKind.bits, IntKind.signed] at this
    rw [List.getD_eq_getElem?_getD, List.getElem?_eq_getElem hi]
    simp
    omega
  · rw [List.getD_eq_getElem?_getD, List.getElem?_eq_none (by omega)]
    simp
theorem CheckSums_calls (A : Option Addr) (c : Nat) (l : List Int) (r b : Int) (W : World) (hr : ReadsInt W .u8 A l.length l) (hw : ∀ x ∈ l, (Lit.int .u8 x).wf = true) (hc : l.length ≤ c) (h0 : (Lit.int .u32 r).wf = true) (h1 : (Lit.int .u8 b).wf = true) :
    Calls Try.prog 7 #[.slice A l.length c, .int .u32 r, .int .u8 b] W fun e W' => e = .returned (.bool true) ∧ Below W.heap.size W W' := by
  simp [Lit.wf, IntKind.min, IntKind.max, IntKind.bits, IntKind.signed] at h0 h1
  obtain ⟨r, rfl⟩ := Int.eq_ofNat_of_zero_le (show 0 ≤ r by omega)
  obtain ⟨b, rfl⟩ := Int.eq_ofNat_of_zero_le (show 0 ≤ b by omega)
  exact CheckSums_nat A _ c l r b W hr (byt_of_wf hw) hc (by omega) (by omega)
theorem CheckOpens_calls (A : Option Addr) (c : Nat) (l : List Int) (W : World) (hr : ReadsInt W .u8 A l.length l) (hw : ∀ x ∈ l, (Lit.int .u8 x).wf = true) (hc : l.length ≤ c) :
    Calls Try.prog 8 #[.slice A l.length c] W fun e W' => e = .returned (.bool true) ∧ Below W.heap.size W W' := CheckOpens_n A _ c l W hr (byt_of_wf hw) hc
end Go.Proofs.Ytlnehjhhkfjggaa.ChkF
