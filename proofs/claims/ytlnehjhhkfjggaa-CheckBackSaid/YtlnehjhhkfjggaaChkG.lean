import Derived.Test.YtlnehjhhkfjggaaChkF
import Derived.Deep.Matrix
namespace Go.Proofs.Ytlnehjhhkfjggaa.ChkG
open Go.RowKit Go.Proofs.YtlnehjhhkfjggaaW.PrintWords Go.Proofs.YtlnehjhhkfjggaaW.PrintMore Go.Proofs.Ytlnehjhhkfjggaa.ChkA Go.Proofs.Ytlnehjhhkfjggaa.ChkB Go.Proofs.Ytlnehjhhkfjggaa.ChkC Go.Proofs.Ytlnehjhhkfjggaa.ChkD Go.Proofs.Ytlnehjhhkfjggaa.ChkE Go.Proofs.Ytlnehjhhkfjggaa.ChkF
open Go.Deep Go.ChangeShapes Go.WideShapes
set_option linter.unusedVariables false
set_option linter.unusedSimpArgs false

/-- A slice of byte slices among the arguments. -/
theorem open_rows {H : Type} {enc : TypeId × Value → H} {w : World} {fuel : Nat} {a : Option Addr} {n c : Nat} {x : DataW H × List MemPlace}
    (h : DataW.trod enc Try.prog w 0 (fun _ => true) true fuel 68 [.slice a n c] = some x) :
    ∃ L : List (List Int), n = L.length ∧ ReadsS w a L.length L ∧ (∀ j, Byt (L.getD j [])) ∧ L.length ≤ c := by
  rcases open_int_rows Try.underlying68 Try.underlying57 Try.underlying5 (by kernel_rfl) (by kernel_rfl) h with ⟨hcs, _⟩ | ⟨ad, len, cap, A, L, C, Z, hcs, _, hl, hm, _, hx⟩
  · simp at hcs
    obtain ⟨rfl, rfl, rfl⟩ := hcs
    exact ⟨[], rfl, ⟨rfl, by simp, fun j hj => absurd hj (Nat.not_lt_zero _)⟩, fun j i => by simp, Nat.le_refl _⟩
  · simp at hcs
    obtain ⟨rfl, rfl, rfl⟩ := hcs
    have hlen : ((List.range n).map fun r => (Z r).take (L r)).length = n := by simp
    have hget : ∀ j, j < n → ((List.range n).map fun r => (Z r).take (L r)).getD j [] = (Z j).take (L j) := by
      intro j hj
      rw [List.getD_eq_getElem?_getD, List.getElem?_map, List.getElem?_range hj]
      rfl
    have hll : ∀ j, j < n → ((Z j).take (L j)).length = L j := by
      intro j hj
      obtain ⟨_, h1, _, h3, _⟩ := hx j (by omega)
      rw [List.length_take]
      omega
    refine ⟨(List.range n).map fun r => (Z r).take (L r), hlen.symm, ⟨rfl, ?_, ?_⟩, ?_, by rw [hlen]; exact hl⟩
    · rw [hlen]; simp only [maxLen] at hm; omega
    · intro j hj
      rw [hlen] at hj
      obtain ⟨h0, h1, h2, h3, h4, h5, h6⟩ := hx j (by omega)
      refine ⟨ad, rfl, A j, C j, ?_, ?_, ?_⟩
      · rw [hget j hj, hll j hj]; exact h0
      · rw [hget j hj, hll j hj]; exact h1
      · rw [hget j hj]
        refine ⟨rfl, by rw [hll j hj]; simp only [maxLen] at h2; omega, ?_⟩
        intro hp
        rw [hll j hj] at hp
        rcases hA : A j with _ | a'
        · have := h5 hA; omega
        · obtain ⟨_, hc⟩ := h6 a' hA
          refine ⟨a', rfl, fun i hi => ?_⟩
          rw [hll j hj] at hi
          rw [hc i (by omega)]
          simp [List.getD_eq_getElem?_getD, List.getElem?_take, hi]
    · intro j
      by_cases hj : j < n
      · rw [hget j hj]
        obtain ⟨_, _, _, _, h4, _⟩ := hx j (by omega)
        exact (byt_of_wf h4).take _
      · rw [List.getD_eq_getElem?_getD, List.getElem?_eq_none (by rw [hlen]; omega)]
        intro i; simp
theorem ReadsS_below {w w1 : World} {A : Option Addr} {n : Nat} {L : List (List Int)} (h : ReadsS w A n L) (hb : Below w.heap.size w w1) : ReadsS w1 A n L := by
  refine ⟨h.1, h.2.1, fun j hj => ?_⟩
  obtain ⟨ad, e, A', c', h1, h2, h3⟩ := h.2.2 j hj
  exact ⟨ad, e, A', c', pw_cell_below hb h1, h2, h3.below hb⟩
theorem take_succ_flat (L : List (List Int)) (k : Nat) (hk : k < L.length) : (L.take (k + 1)).flatten = (L.take k).flatten ++ L.getD k [] := by
  rw [List.take_add_one, List.flatten_append]
  simp [List.getD_eq_getElem?_getD, List.getElem?_eq_getElem hk]
theorem Byt_flat {L : List (List Int)} (h : ∀ j, Byt (L.getD j [])) : ∀ k, k ≤ L.length → Byt (L.take k).flatten
  | 0, _ => by intro i; simp
  | k + 1, hk => by
    rw [take_succ_flat L k (by omega)]
    exact Byt_append (Byt_flat h k (by omega)) (h k)

set_option maxHeartbeats 8000000 in
theorem CheckBack_calls (A : Option Addr) (c : Nat) (L : List (List Int)) (W : World) (hr : ReadsS W A L.length L) (hB : ∀ j, Byt (L.getD j [])) (hc : L.length ≤ c) :
    Calls Try.prog 9 #[.slice A L.length c] W fun e W' => e = .returned (.bool true) ∧ Below W.heap.size W W' := by
  have hmx := hr.2.1
  have HR := Aside0.mk hr
  have HY := Aside0.mk hB
  clear hr hB
  by_cases hl : 20 < L.length
  · have hl' : (20 : Int) < (L.length : Int) := by omega
    go_enter Try.func9, Try.ntmps9
    go_wp2_with (fail)
    refine (alive_calls _).mono ?_
    rintro e w1 ⟨rfl, hb⟩
    have HB := Aside0.mk hb
    clear hb
    go_wp2_with (fail)
    go_ret
    exact ⟨rfl, HB.out⟩
  · have hl' : ¬ (20 : Int) < (L.length : Int) := by omega
    go_enter Try.func9, Try.ntmps9
    go_wp2_with (fail)
    go_loopg [3, 14] L.length (fun q v i w' => ∃ k : Nat, i = .int .i64 k ∧ Aside0 (w'.ownsRow W.heap.size 5 1 v (L.take k).flatten.length (nums .u8 (L.take k).flatten)) ∧ Aside0 ((L.take k).flatten.length ≤ 200 * k) ∧ Aside0 (Below W.heap.size W w') ∧ Aside0 (q + k = L.length))
    case atStart => exact ⟨0, rfl, ⟨own_nil W _ 5 1⟩, ⟨by simp⟩, ⟨Below.refl _ _⟩, ⟨by omega⟩⟩
    case round =>
      obtain ⟨k, rfl, HO, HL, HB, HK⟩ := hrel
      have hk := HK.out
      have hs := HB.out.size
      cases gk with
      | succ q1 =>
        have hkl : k < L.length := by omega
        have hki : (k : Int) < (L.length : Int) := by omega
        obtain ⟨ad, rfl, A', c', hcell, hc', hrd⟩ := (ReadsS_below HR.out HB.out).2.2 k hkl
        have HRl := Aside0.mk hrd
        have hml := hrd.2.1
        have HFL := Aside0.mk (take_succ_flat L k hkl)
        obtain ⟨b, hb⟩ : ∃ b, L.getD k [] = b := ⟨_, rfl⟩
        rw [hb] at hcell hc' HRl HFL hml
        clear hrd hb
        by_cases hbl : 200 < b.length
        · have hbl' : (200 : Int) < (b.length : Int) := by omega
          go_wp2_with (fail)
          refine (alive_calls _).mono ?_
          rintro e w1 ⟨rfl, hb⟩
          have HB := Aside0.mk (below_then HB.out hs hb)
          clear hb
          go_wp2_with (fail)
          go_ret
          exact ⟨rfl, HB.out⟩
        · have hbl' : ¬ (200 : Int) < (b.length : Int) := by omega
          have hfl := HL.out
          have HL2 : Aside0 ((L.take (k + 1)).flatten.length ≤ 200 * (k + 1)) := ⟨by rw [HFL.out, List.length_append]; omega⟩
          obtain ⟨f, hf⟩ : ∃ f, (L.take k).flatten = f := ⟨_, rfl⟩
          rw [hf] at HO HFL hfl
          clear HL hf
          go_wp2_with (at_builtin; refine print_append_row (w0 := W) W.heap.size rfl (.tmp 22) (.tmp 23) 57 5 .u8 1 rfl Try.underlying57 info5 (by decide) u3 f b A' b.length c' rfl rfl ?aO ?aR ?aB ?aS ?aL ?_)
          case aO => exact HO.out
          case aR => exact HRl.out
          case aB => exact HB.out
          case aL => omega
          rintro v1 w1 hown hb hg hat
          clear hg hat
          have HO : Aside0 (w1.ownsRow W.heap.size 5 1 v1 (L.take (k + 1)).flatten.length (nums .u8 (L.take (k + 1)).flatten)) := ⟨by rw [HFL.out]; simp only [List.length_append]; exact hown⟩
          have HB := Aside0.mk hb
          clear hown hb hfl
          go_wp2_with (fail)
          go_roundg q1
          case measure => omega
          case rel => exact ⟨k + 1, by go_num, HO, HL2, HB, ⟨by omega⟩⟩
      | zero =>
        have hkl : ¬ (k : Int) < (L.length : Int) := by omega
        obtain rfl : k = L.length := by omega
        have hfl := HL.out
        rw [List.take_length] at HO HL hfl
        have HF := Aside0.mk (Byt_flat HY.out L.length (Nat.le_refl _))
        rw [List.take_length] at HF
        obtain ⟨A1, c1, rfl, hc1, hr1⟩ := own_cap HO.out
        have HR1 := Aside0.mk hr1
        have hOf := fun (w : World) (h : Below W.heap.size W w) => Of_calls A c L w (ReadsS_below HR.out h) HY.out hc
        have HOF := Aside0.mk hOf
        have hfm : L.flatten.length ≤ 4000 := by omega
        clear hOf hr1 HO HL hfl
        generalize L.flatten = f at *
        go_wp2_with (fail)
        refine (Seal_n A1 _ c1 f _ HR1.out HF.out hc1 (by omega)).mono ?_
        rintro e w1 ⟨v, rfl, hown, hb⟩
        obtain ⟨A2, c2, rfl, hc2, hr2⟩ := own_cap hown
        have HR2 := Aside0.mk hr2
        have HR1 := Aside0.mk (HR1.out.below hb)
        have HB := Aside0.mk (below_then HB.out hs hb)
        have hs := HB.out.size
        clear hown hr2 hb
        have HSL := Aside0.mk (sealed_length f)
        go_wp2_with (fail)
        refine (Open_n A2 _ c2 (sealed f) _ HR2.out (Byt_sealed HF.out) hc2 (by rw [HSL.out]; omega)).mono ?_
        rintro e w2 ⟨v2, rfl, hown, hb⟩
        rw [opened_sealed] at hown ⊢
        obtain ⟨A3, c3, rfl, hc3, hr3⟩ := own_cap hown
        have HR3 := Aside0.mk hr3
        have HR1 := Aside0.mk (HR1.out.below hb)
        have HB := Aside0.mk (below_then HB.out hs hb)
        have hs := HB.out.size
        clear hown hr3 hb
        go_wp2_with (fail)
        refine (HOF.out _ HB.out).mono ?_
        rintro e w3 ⟨rfl, rfl⟩
        go_wp2_with (fail)
        refine (Sum_n A1 _ c1 f _ HR1.out HF.out hc1).mono ?_
        rintro e w3 ⟨rfl, hb⟩
        have HR3 := Aside0.mk (HR3.out.below hb)
        have HR1 := Aside0.mk (HR1.out.below hb)
        have HB := Aside0.mk (below_then HB.out hs hb)
        have hs := HB.out.size
        clear hb
        go_wp2_with (fail)
        refine (Same_n A3 _ c3 f A1 _ c1 f _ HR3.out hc3 HR1.out hc1).mono ?_
        rintro e w4 ⟨rfl, hb⟩
        rw [decide_eq_true rfl]
        have HB := Aside0.mk (below_then HB.out hs hb)
        have hs := HB.out.size
        clear hb
        go_wp2_with (fail)
        refine (alive_calls _).mono ?_
        rintro e w5 ⟨rfl, hb⟩
        have HB := Aside0.mk (below_then HB.out hs hb)
        clear hb
        go_wp2_with (fail)
        go_ret
        exact ⟨rfl, HB.out⟩
end Go.Proofs.Ytlnehjhhkfjggaa.ChkG
