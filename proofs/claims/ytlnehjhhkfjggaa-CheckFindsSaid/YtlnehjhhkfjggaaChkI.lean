import Derived.Test.YtlnehjhhkfjggaaChkH
import Derived.Laws.IdiomArrays
import Derived.Lib.SmallJoins
namespace Go.Proofs.Ytlnehjhhkfjggaa.ChkI
open Go.RowKit Go.Proofs.YtlnehjhhkfjggaaW.PrintWords Go.Proofs.YtlnehjhhkfjggaaW.PrintMore Go.Proofs.Ytlnehjhhkfjggaa.ChkA Go.Proofs.Ytlnehjhhkfjggaa.ChkB Go.Proofs.Ytlnehjhhkfjggaa.ChkC Go.Proofs.Ytlnehjhhkfjggaa.ChkD Go.Proofs.Ytlnehjhhkfjggaa.ChkE Go.Proofs.Ytlnehjhhkfjggaa.ChkF Go.Proofs.Ytlnehjhhkfjggaa.ChkH
set_option linter.unusedVariables false
set_option linter.unusedSimpArgs false

theorem xor_u8 (a b : Nat) (ha : a < 256) (hb : b < 256) : bits .xor .u8 (a : Int) (b : Int) = ((a ^^^ b : Nat) : Int) := by
  have h : a ^^^ b < 256 := Nat.xor_lt_two_pow (n := 8) ha hb
  have ha' : a % 2 ^ IntKind.u8.bits = a := Nat.mod_eq_of_lt ha
  have hb' : b % 2 ^ IntKind.u8.bits = b := Nat.mod_eq_of_lt hb
  simp only [bits, BitVec.ofInt_natCast, BitVec.toNat_xor, BitVec.toNat_ofNat, ha', hb']
  rw [IntKind.wrap_u8]
  omega

theorem ix (y : Nat → Nat) (i : Nat) (hi : i < 4) (j : Int) (hj : j = i) (W : World) : (Instr.index 72 (.agg #[.int .u8 (y 0), .int .u8 (y 1), .int .u8 (y 2), .int .u8 (y 3)]) (.int .i64 j)).run Try.prog W = .ok (.int .u8 (y i)) W := by
  subst hj
  rcases i with _ | _ | _ | _ | i
  all_goals first | omega | simp [Instr.index, run_underlying Try.underlying72, asIntOf, part, go_sem]

set_option maxHeartbeats 8000000 in
theorem CheckFinds_nat (A : Option Addr) (n c : Nat) (l : List Int) (ax : Nat) (y : Nat → Nat) (W : World) (hr : ReadsInt W .u8 A n l) (hB : Byt l) (hc : n ≤ c) (hax : ax < 65536) (hy : ∀ i, y i < 256) :
    Calls Try.prog 10 #[.slice A n c, .int .u16 ax, .agg #[.int .u8 (y 0), .int .u8 (y 1), .int .u8 (y 2), .int .u8 (y 3)]] W fun e W' => e = .returned (.bool true) ∧ Below W.heap.size W W' := by
  have hmx := hr.2.1
  have hln := hr.1
  have HR := Aside0.mk hr
  have HY := Aside0.mk hB
  have HYY := Aside0.mk hy
  clear hr hB hy
  by_cases hl : 1000 < n
  · have hl' : (1000 : Int) < (n : Int) := by omega
    go_enter Try.func10, Try.ntmps10
    go_wp2_with (fail)
    refine (alive_calls _).mono ?_
    rintro e w1 ⟨rfl, hb⟩
    have HB := Aside0.mk (below_then (below_alloc (Below.refl W.heap.size W) _) (by simp) hb)
    clear hb
    go_wp2_with (fail)
    go_ret
    exact ⟨rfl, HB.out⟩
  · have hl' : ¬ (1000 : Int) < (n : Int) := by omega
    go_enter Try.func10, Try.ntmps10
    go_wp2_with (fail)
    have HB0 := Aside0.mk (below_alloc (Below.refl W.heap.size W) (.cells #[.int .u8 (y 0), .int .u8 (y 1), .int .u8 (y 2), .int .u8 (y 3)] 72))
    refine (Seal_n A n c l _ (by exact HR.out.allocS _) HY.out hc (by omega)).mono ?_
    rintro e w1 ⟨v, rfl, hown, hb⟩
    have hN : (sealed l).length = n + 4 := by rw [sealed_length, hln]
    have hgB := hb.size
    have c0 := pw_cell_below hb (blk_cell (blk_new W (.cells #[.int .u8 (y 0), .int .u8 (y 1), .int .u8 (y 2), .int .u8 (y 3)] 72)) 0)
    have c1 := pw_cell_below hb (blk_cell (blk_new W (.cells #[.int .u8 (y 0), .int .u8 (y 1), .int .u8 (y 2), .int .u8 (y 3)] 72)) 1)
    have c2 := pw_cell_below hb (blk_cell (blk_new W (.cells #[.int .u8 (y 0), .int .u8 (y 1), .int .u8 (y 2), .int .u8 (y 3)] 72)) 2)
    have c3 := pw_cell_below hb (blk_cell (blk_new W (.cells #[.int .u8 (y 0), .int .u8 (y 1), .int .u8 (y 2), .int .u8 (y 3)] 72)) 3)
    have HB := Aside0.mk (below_then HB0.out (by simp) hb)
    have hown := own_weaken (base' := W.heap.size) hown (by simp)
    rw [hN] at hown
    obtain ⟨g, cap, rfl, hgb, hgl⟩ := hown.form (by omega)
    have HO := Aside0.mk hown
    have HSS := Aside0.mk (feed_sealed l HY.out)
    have HSB := Aside0.mk (Byt_sealed HY.out)
    have HSN := Aside0.mk hN
    have hcap : n + 4 ≤ cap := Go.Proofs.YtlnehjhhkfjggaaW.PrintWords.own_cap hown
    have hK1 : ax % (n + 1) < n + 1 := Nat.mod_lt _ (by omega)
    have hK2 : Int.tmod (ax : Int) ((n : Int) + 1) = ((ax % (n + 1) : Nat) : Int) := by
      rw [Int.tmod_eq_emod_of_nonneg (by omega)]; exact (Int.natCast_emod ax (n + 1)).symm
    have hm0 : ((n : Int) + 4) - 3 = (n : Int) + 1 := by omega
    generalize ax % (n + 1) = K at *
    generalize sealed l = s at *
    clear hb hown hN HB0
    have HTB : Aside0 (∀ k, K + k ≤ n + 4 → Byt (T s K y k)) := ⟨fun k hk => T_byt s HSB.out K y HYY.out k (by rw [HSN.out]; exact hk)⟩
    go_wp2_with (fail)
    go_loopg [9, 33] 4 (fun q v i w' => ∃ k : Nat, v = .bool (fl y k) ∧ i = .int .i64 k ∧ Aside0 (w'.ownsRow W.heap.size 5 1 (.slice (some ⟨g, 0, none⟩) (n + 4) cap) (n + 4) (nums .u8 (T s K y k))) ∧ Aside0 (Below W.heap.size W w') ∧ Aside0 (q + k = 4))
    case atStart => exact ⟨0, rfl, rfl, HO, HB, ⟨rfl⟩⟩
    case round =>
      clear HO HB c0 c1 c2 c3
      obtain ⟨k, rfl, rfl, HO, HB, HK⟩ := hrel
      have hk := HK.out
      have hgl := own_lt HO.out g rfl
      cases gk with
      | zero =>
        obtain rfl : k = 4 := by omega
        obtain ⟨A1, c1, he, hc1, hr1⟩ := ChkE.own_cap HO.out
        have he2 := he
        injection he2 with h1 h2 h3
        subst h1 h3
        have HR1 := Aside0.mk hr1
        have HTB4 := Aside0.mk (HTB.out 4 (by omega))
        have HF := Aside0.mk (finds s (by rw [HSN.out]; omega) HSB.out HSS.out K (by rw [HSN.out]; omega) y HYY.out)
        have hs := HB.out.size
        clear he hr1 h2 hk HK
        go_wp2_with (fail)
        refine (Open_n _ (n + 4) cap (T s K y 4) _ HR1.out HTB4.out hc1 (by omega)).mono ?_
        rintro e w2 ⟨v2, rfl, hown, hb⟩
        obtain ⟨A3, c3, rfl, hc3, hr3⟩ := ChkE.own_cap hown
        have HB := Aside0.mk (below_then HB.out hs hb)
        have hs := HB.out.size
        rw [HF.out]
        clear hown hr3 hb
        rcases hfl : fl y 4 with _ | _
        · simp only [Bool.false_eq_true, if_false]
          go_wp2_with (fail)
          refine (alive_calls _).mono ?_
          rintro e w5 ⟨rfl, hb⟩
          have HB := Aside0.mk (below_then HB.out hs hb)
          clear hb
          go_wp2_with (fail)
          go_ret
          exact ⟨rfl, HB.out⟩
        · simp only [if_true]
          go_wp2_with (fail)
          refine (alive_calls _).mono ?_
          rintro e w5 ⟨rfl, hb⟩
          have HB := Aside0.mk (below_then HB.out hs hb)
          clear hb
          go_wp2_with (fail)
          go_ret
          exact ⟨rfl, HB.out⟩
      | succ q1 =>
        rcases k with _ | _ | _ | _ | k
        · have hix := ix y 0 (by omega) 0 rfl
          obtain ⟨h1, h2⟩ := own_at HO.out ((K + 0 : Nat) : Int) (by omega) (by omega)
          have hz := HYY.out 0
          obtain ⟨b, hb⟩ : ∃ b : Nat, (T s K y 0).getD (K + 0) 0 = (b : Int) := ⟨((T s K y 0).getD (K + 0) 0).toNat, by have := (HTB.out 0 (by omega)) (K + 0); omega⟩
          have hbb : b < 256 := by have := (HTB.out 0 (by omega)) (K + 0); omega
          rw [rd, Int.toNat_natCast, hb] at h1
          rw [Int.toNat_natCast] at h2
          have hst := (own_store HO.out ((K + 0 : Nat) : Int) ((b ^^^ y 0 : Nat) : Int)).1
          rw [Int.toNat_natCast] at hst
          have HST : Aside0 ((wr.setCell ⟨g, K + 0, none⟩ (.int .u8 ((b ^^^ y 0 : Nat) : Int))).ownsRow W.heap.size 5 1 (.slice (some ⟨g, 0, none⟩) (n + 4) cap) (n + 4) (nums .u8 (T s K y 1))) := ⟨by rw [T, hb, Int.toNat_natCast]; exact hst⟩
          have hx := xor_u8 b (y 0) hbb hz
          have hwr : (K : Int) < (n : Int) + 4 := by omega
          rw [Nat.add_zero] at h1 h2 HST
          clear hst hb
          rcases hfl : fl y 0 with _ | _
          · by_cases hy0 : y 0 = 0
            · have hf : Aside0 (fl y 1 = false) := ⟨by rw [fl, hfl, hy0]; rfl⟩
              have hne : (((y 0 : Nat) : Int) != 0) = false := bne_eq_false_iff_eq.2 (by omega)
              clear hy0
              go_wp2_with (fail)
              go_roundg q1
              case measure => omega
              case rel => exact ⟨1, by rw [hf.out], rfl, HST, ⟨below_set HB.out hgb⟩, ⟨by omega⟩⟩
            · have hf : Aside0 (fl y 1 = true) := ⟨by rw [fl, hfl]; simp [hy0]⟩
              have hne : (((y 0 : Nat) : Int) != 0) = true := bne_iff_ne.2 (by omega)
              go_wp2_with (fail)
              go_roundg q1
              case measure => omega
              case rel => exact ⟨1, by rw [hf.out], rfl, HST, ⟨below_set HB.out hgb⟩, ⟨by omega⟩⟩
          · have hf : Aside0 (fl y 1 = true) := ⟨by rw [fl, hfl]; rfl⟩
            go_wp2_with (fail)
            go_roundg q1
            case measure => omega
            case rel => exact ⟨1, by rw [hf.out], rfl, HST, ⟨below_set HB.out hgb⟩, ⟨by omega⟩⟩
        · have hix := ix y 1 (by omega) 1 rfl
          obtain ⟨h1, h2⟩ := own_at HO.out ((K + 1 : Nat) : Int) (by omega) (by omega)
          have hz := HYY.out 1
          obtain ⟨b, hb⟩ : ∃ b : Nat, (T s K y 1).getD (K + 1) 0 = (b : Int) := ⟨((T s K y 1).getD (K + 1) 0).toNat, by have := (HTB.out 1 (by omega)) (K + 1); omega⟩
          have hbb : b < 256 := by have := (HTB.out 1 (by omega)) (K + 1); omega
          rw [rd, Int.toNat_natCast, hb] at h1
          rw [Int.toNat_natCast] at h2
          have hst := (own_store HO.out ((K + 1 : Nat) : Int) ((b ^^^ y 1 : Nat) : Int)).1
          rw [Int.toNat_natCast] at hst
          have HST : Aside0 ((wr.setCell ⟨g, K + 1, none⟩ (.int .u8 ((b ^^^ y 1 : Nat) : Int))).ownsRow W.heap.size 5 1 (.slice (some ⟨g, 0, none⟩) (n + 4) cap) (n + 4) (nums .u8 (T s K y 2))) := ⟨by rw [T, hb, Int.toNat_natCast]; exact hst⟩
          have hx := xor_u8 b (y 1) hbb hz
          have hwr : (K : Int) + 1 < (n : Int) + 4 := by omega
          clear hst hb
          rcases hfl : fl y 1 with _ | _
          · by_cases hy0 : y 1 = 0
            · have hf : Aside0 (fl y 2 = false) := ⟨by rw [fl, hfl, hy0]; rfl⟩
              have hne : (((y 1 : Nat) : Int) != 0) = false := bne_eq_false_iff_eq.2 (by omega)
              clear hy0
              go_wp2_with (fail)
              go_roundg q1
              case measure => omega
              case rel => exact ⟨2, by rw [hf.out], rfl, HST, ⟨below_set HB.out hgb⟩, ⟨by omega⟩⟩
            · have hf : Aside0 (fl y 2 = true) := ⟨by rw [fl, hfl]; simp [hy0]⟩
              have hne : (((y 1 : Nat) : Int) != 0) = true := bne_iff_ne.2 (by omega)
              go_wp2_with (fail)
              go_roundg q1
              case measure => omega
              case rel => exact ⟨2, by rw [hf.out], rfl, HST, ⟨below_set HB.out hgb⟩, ⟨by omega⟩⟩
          · have hf : Aside0 (fl y 2 = true) := ⟨by rw [fl, hfl]; rfl⟩
            go_wp2_with (fail)
            go_roundg q1
            case measure => omega
            case rel => exact ⟨2, by rw [hf.out], rfl, HST, ⟨below_set HB.out hgb⟩, ⟨by omega⟩⟩
        · have hix := ix y 2 (by omega) 2 rfl
          obtain ⟨h1, h2⟩ := own_at HO.out ((K + 2 : Nat) : Int) (by omega) (by omega)
          have hz := HYY.out 2
          obtain ⟨b, hb⟩ : ∃ b : Nat, (T s K y 2).getD (K + 2) 0 = (b : Int) := ⟨((T s K y 2).getD (K + 2) 0).toNat, by have := (HTB.out 2 (by omega)) (K + 2); omega⟩
          have hbb : b < 256 := by have := (HTB.out 2 (by omega)) (K + 2); omega
          rw [rd, Int.toNat_natCast, hb] at h1
          rw [Int.toNat_natCast] at h2
          have hst := (own_store HO.out ((K + 2 : Nat) : Int) ((b ^^^ y 2 : Nat) : Int)).1
          rw [Int.toNat_natCast] at hst
          have HST : Aside0 ((wr.setCell ⟨g, K + 2, none⟩ (.int .u8 ((b ^^^ y 2 : Nat) : Int))).ownsRow W.heap.size 5 1 (.slice (some ⟨g, 0, none⟩) (n + 4) cap) (n + 4) (nums .u8 (T s K y 3))) := ⟨by rw [T, hb, Int.toNat_natCast]; exact hst⟩
          have hx := xor_u8 b (y 2) hbb hz
          have hwr : (K : Int) + 2 < (n : Int) + 4 := by omega
          clear hst hb
          rcases hfl : fl y 2 with _ | _
          · by_cases hy0 : y 2 = 0
            · have hf : Aside0 (fl y 3 = false) := ⟨by rw [fl, hfl, hy0]; rfl⟩
              have hne : (((y 2 : Nat) : Int) != 0) = false := bne_eq_false_iff_eq.2 (by omega)
              clear hy0
              go_wp2_with (fail)
              go_roundg q1
              case measure => omega
              case rel => exact ⟨3, by rw [hf.out], rfl, HST, ⟨below_set HB.out hgb⟩, ⟨by omega⟩⟩
            · have hf : Aside0 (fl y 3 = true) := ⟨by rw [fl, hfl]; simp [hy0]⟩
              have hne : (((y 2 : Nat) : Int) != 0) = true := bne_iff_ne.2 (by omega)
              go_wp2_with (fail)
              go_roundg q1
              case measure => omega
              case rel => exact ⟨3, by rw [hf.out], rfl, HST, ⟨below_set HB.out hgb⟩, ⟨by omega⟩⟩
          · have hf : Aside0 (fl y 3 = true) := ⟨by rw [fl, hfl]; rfl⟩
            go_wp2_with (fail)
            go_roundg q1
            case measure => omega
            case rel => exact ⟨3, by rw [hf.out], rfl, HST, ⟨below_set HB.out hgb⟩, ⟨by omega⟩⟩
        · have hix := ix y 3 (by omega) 3 rfl
          obtain ⟨h1, h2⟩ := own_at HO.out ((K + 3 : Nat) : Int) (by omega) (by omega)
          have hz := HYY.out 3
          obtain ⟨b, hb⟩ : ∃ b : Nat, (T s K y 3).getD (K + 3) 0 = (b : Int) := ⟨((T s K y 3).getD (K + 3) 0).toNat, by have := (HTB.out 3 (by omega)) (K + 3); omega⟩
          have hbb : b < 256 := by have := (HTB.out 3 (by omega)) (K + 3); omega
          rw [rd, Int.toNat_natCast, hb] at h1
          rw [Int.toNat_natCast] at h2
          have hst := (own_store HO.out ((K + 3 : Nat) : Int) ((b ^^^ y 3 : Nat) : Int)).1
          rw [Int.toNat_natCast] at hst
          have HST : Aside0 ((wr.setCell ⟨g, K + 3, none⟩ (.int .u8 ((b ^^^ y 3 : Nat) : Int))).ownsRow W.heap.size 5 1 (.slice (some ⟨g, 0, none⟩) (n + 4) cap) (n + 4) (nums .u8 (T s K y 4))) := ⟨by rw [T, hb, Int.toNat_natCast]; exact hst⟩
          have hx := xor_u8 b (y 3) hbb hz
          have hwr : (K : Int) + 3 < (n : Int) + 4 := by omega
          clear hst hb
          rcases hfl : fl y 3 with _ | _
          · by_cases hy0 : y 3 = 0
            · have hf : Aside0 (fl y 4 = false) := ⟨by rw [fl, hfl, hy0]; rfl⟩
              have hne : (((y 3 : Nat) : Int) != 0) = false := bne_eq_false_iff_eq.2 (by omega)
              clear hy0
              go_wp2_with (fail)
              go_roundg q1
              case measure => omega
              case rel => exact ⟨4, by rw [hf.out], rfl, HST, ⟨below_set HB.out hgb⟩, ⟨by omega⟩⟩
            · have hf : Aside0 (fl y 4 = true) := ⟨by rw [fl, hfl]; simp [hy0]⟩
              have hne : (((y 3 : Nat) : Int) != 0) = true := bne_iff_ne.2 (by omega)
              go_wp2_with (fail)
              go_roundg q1
              case measure => omega
              case rel => exact ⟨4, by rw [hf.out], rfl, HST, ⟨below_set HB.out hgb⟩, ⟨by omega⟩⟩
          · have hf : Aside0 (fl y 4 = true) := ⟨by rw [fl, hfl]; rfl⟩
            go_wp2_with (fail)
            go_roundg q1
            case measure => omega
            case rel => exact ⟨4, by rw [hf.out], rfl, HST, ⟨below_set HB.out hgb⟩, ⟨by omega⟩⟩
        · omega

theorem list4 {α : Type} : ∀ l : List α, l.length = 4 → ∃ a b c d, l = [a, b, c, d]
  | [a, b, c, d], _ => ⟨a, b, c, d, rfl⟩
open Go.ChangeShapes Go.WideShapes in
theorem open_arr4 {H : Type} {enc : TypeId × Value → H} {W : World} {base : Nat} {v : Value} {d : DataW H} {p : List MemPlace} (hv : Value.okWide Try.prog W .any base 72 v)
    (h : DataW.Trod enc Try.prog W 0 (fun _ => true) true 72 v d p) :
    ∃ x0 x1 x2 x3 : Int, v = .agg #[.int .u8 x0, .int .u8 x1, .int .u8 x2, .int .u8 x3] ∧ (Lit.int .u8 x0).wf = true ∧ (Lit.int .u8 x1).wf = true ∧ (Lit.int .u8 x2).wf = true ∧ (Lit.int .u8 x3).wf = true := by
  obtain ⟨cs, rfl, hsz, _⟩ : ∃ cs, v = .agg cs ∧ cs.size = Try.prog.cellsOf 72 ∧ Row.okWide Try.prog W .any base 72 cs := by
    simpa [Value.okWide, Try.underlying72] using hv
  rw [show Try.prog.cellsOf 72 = 4 by kernel_rfl] at hsz
  obtain ⟨l⟩ := cs
  obtain ⟨c0, c1, c2, c3, rfl⟩ := list4 l hsz
  obtain ⟨fuel, hf⟩ := h
  obtain ⟨y0, y1, y2, y3, m, hx, hy0, hy1, hy2, hy3⟩ := trod_array4 Try.underlying72 (by kernel_rfl) hf
  obtain ⟨x0, e0, rfl, w0⟩ := DataW.trod_int Try.underlying5 hy0
  obtain ⟨x1, e1, rfl, w1⟩ := DataW.trod_int Try.underlying5 hy1
  obtain ⟨x2, e2, rfl, w2⟩ := DataW.trod_int Try.underlying5 hy2
  obtain ⟨x3, e3, rfl, w3⟩ := DataW.trod_int Try.underlying5 hy3
  simp at e0 e1 e2 e3
  subst e0 e1 e2 e3
  exact ⟨x0, x1, x2, x3, rfl, w0, w1, w2, w3⟩
theorem CheckFinds_calls (A : Option Addr) (c : Nat) (l : List Int) (ax x0 x1 x2 x3 : Int) (W : World) (hr : ReadsInt W .u8 A l.length l) (hw : ∀ x ∈ l, (Lit.int .u8 x).wf = true) (hc : l.length ≤ c) (h0 : (Lit.int .u16 ax).wf = true)
    (w0 : (Lit.int .u8 x0).wf = true) (w1 : (Lit.int .u8 x1).wf = true) (w2 : (Lit.int .u8 x2).wf = true) (w3 : (Lit.int .u8 x3).wf = true) :
    Calls Try.prog 10 #[.slice A l.length c, .int .u16 ax, .agg #[.int .u8 x0, .int .u8 x1, .int .u8 x2, .int .u8 x3]] W fun e W' => e = .returned (.bool true) ∧ Below W.heap.size W W' := by
  simp [Lit.wf, IntKind.min, IntKind.max, IntKind.bits, IntKind.signed] at h0 w0 w1 w2 w3
  obtain ⟨ax, rfl⟩ := Int.eq_ofNat_of_zero_le (show 0 ≤ ax by omega)
  obtain ⟨x0, rfl⟩ := Int.eq_ofNat_of_zero_le (show 0 ≤ x0 by omega)
  obtain ⟨x1, rfl⟩ := Int.eq_ofNat_of_zero_le (show 0 ≤ x1 by omega)
  obtain ⟨x2, rfl⟩ := Int.eq_ofNat_of_zero_le (show 0 ≤ x2 by omega)
  obtain ⟨x3, rfl⟩ := Int.eq_ofNat_of_zero_le (show 0 ≤ x3 by omega)
  exact CheckFinds_nat A _ c l ax (fun i => match i with | 0 => x0 | 1 => x1 | 2 => x2 | 3 => x3 | _ => 0) W hr (byt_of_wf hw) hc (by omega) (fun i => by
    rcases i with _ | _ | _ | _ | i <;> simp <;> omega)
end Go.Proofs.Ytlnehjhhkfjggaa.ChkI
