import Derived.Test.YtlnehjhhkfjggaaChkD
import Derived.Lib.SlBytesConst
namespace Go.Proofs.Ytlnehjhhkfjggaa.ChkE
open Go.RowKit Go.Proofs.YtlnehjhhkfjggaaW.PrintWords Go.Proofs.YtlnehjhhkfjggaaW.PrintMore Go.Proofs.Ytlnehjhhkfjggaa.ChkA Go.Proofs.Ytlnehjhhkfjggaa.ChkB Go.Proofs.Ytlnehjhhkfjggaa.ChkC Go.Proofs.Ytlnehjhhkfjggaa.ChkD
set_option linter.unusedVariables false
set_option linter.unusedSimpArgs false

theorem own_cap {w : World} {base n : Nat} {v : Value} {xs : List Int} (h : w.ownsRow base 5 1 v n (nums .u8 xs)) : ∃ A c, v = .slice A n c ∧ n ≤ c ∧ ReadsInt w .u8 A n xs := by
  rcases h.2 with ⟨rfl, h0⟩ | ⟨g, cap, cur, rfl, _, _, h1, _⟩
  · obtain ⟨A, c, he, hr⟩ := own_reads h
    exact ⟨A, c, he, by omega, hr⟩
  · exact ⟨_, cap, rfl, h1, own_reads' h⟩
theorem le_length (n : Nat) : (le n).length = 4 := rfl
theorem sealed_length (l : List Int) : (sealed l).length = l.length + 4 := by simp [sealed, le_length]
theorem Byt_append {a b : List Int} (ha : Byt a) (hb : Byt b) : Byt (a ++ b) := by
  intro i
  rcases Nat.lt_or_ge i a.length with h | h
  · rw [show (a ++ b).getD i 0 = a.getD i 0 by simp [List.getD_eq_getElem?_getD, List.getElem?_append_left h]]; exact ha i
  · rw [show (a ++ b).getD i 0 = b.getD (i - a.length) 0 by simp [List.getD_eq_getElem?_getD, List.getElem?_append_right h]]; exact hb _
theorem Byt_sealed {l : List Int} (h : Byt l) : Byt (sealed l) := Byt_append h (Byt_le _)
theorem opened_sealed (l : List Int) : opened (sealed l) = (l, 0) := by
  have h : (sealed l).length - 4 = l.length := by rw [sealed_length]; omega
  have h1 : (sealed l).take l.length = l := by simp [sealed]
  have h2 : (sealed l).drop l.length = le (sum l) := by simp [sealed]
  have h3 := opened_ok (l := sealed l) (by rw [sealed_length]; omega) (by rw [h, h1, h2])
  rw [h, h1] at h3
  exact h3

def nine : List Int := [49, 50, 51, 52, 53, 54, 55, 56, 57]
theorem nine_byt : Byt nine := by
  intro i
  rcases i with _ | _ | _ | _ | _ | _ | _ | _ | _ | i <;> simp [nine]
theorem nine_sum : sum nine = 3421780262 := by kernel_rfl
theorem nine_sealed : sealed nine = [49, 50, 51, 52, 53, 54, 55, 56, 57, 38, 57, 244, 203] := by kernel_rfl

/-- The literal's block. -/
def nineBlk : Obj := .cells #[.int .u8 49, .int .u8 50, .int .u8 51, .int .u8 52, .int .u8 53, .int .u8 54, .int .u8 55, .int .u8 56, .int .u8 57] 5 (9, 10)
theorem conv9 (W : World) : (convert 57 57 (.slice (some ⟨W.heap.size, 0, none⟩) 9 9)).run Try.prog (W.alloc (.cells #[.int .u8 49, .int .u8 50, .int .u8 51, .int .u8 52, .int .u8 53, .int .u8 54, .int .u8 55, .int .u8 56, .int .u8 57] 5)) = .ok (.slice (some ⟨W.heap.size, 0, none⟩) 9 9) (W.alloc nineBlk) :=
  Lib.run_convert_bytes_const W 57 5 _ 9 9 Try.underlying57 Try.underlying5
theorem reads_nine (W : World) : ReadsInt (W.alloc nineBlk) .u8 (some ⟨W.heap.size, 0, none⟩) 9 nine := by
  refine ⟨rfl, by decide, fun _ => ⟨_, rfl, fun j hj => ?_⟩⟩
  rw [add_plain, cell_of_row _ W.heap.size j _ 5 (9, 10) (blk_new W nineBlk)]
  rcases j with _ | _ | _ | _ | _ | _ | _ | _ | _ | j <;> first | rfl | omega

set_option maxHeartbeats 8000000 in
theorem alive_calls (W : World) : Calls Try.prog 31 #[] W fun e W' => e = .returned (.bool true) ∧ Below W.heap.size W W' := by
  have hcv := conv9
  have HR9 := Aside0.mk (reads_nine W)
  have HB := Aside0.mk (below_alloc (Below.refl W.heap.size W) nineBlk)
  go_enter Try.func31, Try.ntmps31
  go_wp2_with (fail)
  refine (Seal_n _ 9 9 nine _ HR9.out nine_byt (by decide) (by decide)).mono ?_
  rintro e w1 ⟨v, rfl, hown, hb⟩
  rw [nine_sealed] at hown
  obtain ⟨A, c, rfl, hc, hr⟩ := own_cap hown
  have hs := HB.out.size
  have HB := Aside0.mk (below_then HB.out hs hb)
  have HR := Aside0.mk hr
  have hs := HB.out.size
  have HY : Byt [49, 50, 51, 52, 53, 54, 55, 56, 57, 38, 57, 244, 203] := by rw [← nine_sealed]; exact Byt_sealed nine_byt
  have HY := Aside0.mk HY
  have hl13 : ([49, 50, 51, 52, 53, 54, 55, 56, 57, 38, 57, 244, 203] : List Int).length = 13 := rfl
  rw [hl13] at hc
  rw [hl13] at HR
  clear hb hr hown HR9
  go_wp2_with (fail)
  refine (Open_n A 13 c _ _ HR.out HY.out hc (by decide)).mono ?_
  rintro e w2 ⟨v2, rfl, hown, hb⟩
  rw [show opened [49, 50, 51, 52, 53, 54, 55, 56, 57, 38, 57, 244, 203] = (nine, 0) by rw [← nine_sealed]; exact opened_sealed nine] at hown ⊢
  obtain ⟨A2, c2, rfl, hc2, hr2⟩ := own_cap hown
  have HR := Aside0.mk (HR.out.below hb)
  have HB := Aside0.mk (below_then HB.out hs hb)
  have hs := HB.out.size
  have hn9 : nine.length = 9 := rfl
  have hr9 := Aside0.mk (reads_nine w2)
  obtain ⟨ad, rfl, hcell⟩ := (HR.out.below (below_alloc (Below.refl _ _) nineBlk)).at_ 9 (by decide) (by decide)
  have HCELL := Aside0.mk hcell
  have HB := Aside0.mk (below_then HB.out hs (below_alloc (Below.refl _ _) nineBlk))
  clear hown hc2 hr2 hb hcell
  simp only [hn9]
  clear hn9
  go_wp2_with (fail)
  refine (Sum_n _ 9 9 nine _ hr9.out nine_byt (by decide)).mono ?_
  rintro e w3 ⟨rfl, hb⟩
  rw [nine_sum]
  have hcell : w3.cell? (ad.add 9) = some (.int .u8 38) := pw_cell_below hb HCELL.out
  simp [Addr.add] at hcell
  have HB := Aside0.mk (below_then HB.out (by have := hs; simp; omega) hb)
  clear hb
  go_wp2_with (fail)
  go_ret
  exact ⟨rfl, HB.out⟩
end Go.Proofs.Ytlnehjhhkfjggaa.ChkE
