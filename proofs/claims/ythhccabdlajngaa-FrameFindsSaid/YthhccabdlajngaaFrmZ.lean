import Derived.Test.YthhccabdlajngaaFrmW
namespace Go.Proofs.Ythhccabdlajngaa.FrmZ
open Go Go.Sim Go.Sim.E Go.RowKit Go.Proofs Go.Proofs.Ythhccabdlajngaa.Cod Go.Proofs.Ythhccabdlajngaa.Tab Go.Proofs.Ythhccabdlajngaa.Bse Go.Proofs.Ythhccabdlajngaa.Krc Go.Proofs.Ythhccabdlajngaa.FrmA Go.Proofs.Ythhccabdlajngaa.FrmB Go.Proofs.Ythhccabdlajngaa.FrmC Go.Proofs.Ythhccabdlajngaa.FrmD Go.Proofs.Ythhccabdlajngaa.FrmE Go.Proofs.Ythhccabdlajngaa.FrmF Go.Proofs.Ythhccabdlajngaa.FrmN Go.Proofs.Ythhccabdlajngaa.FrmO Go.Proofs.Ythhccabdlajngaa.FrmO Go.Proofs.Ythhccabdlajngaa.FrmP Go.Proofs.Ythhccabdlajngaa.FrmQ Go.Proofs.Ythhccabdlajngaa.FrmR Go.Proofs.Ythhccabdlajngaa.FrmS Go.Proofs.Ythhccabdlajngaa.FrmT Go.Proofs.Ythhccabdlajngaa.FrmU Go.Proofs.Ythhccabdlajngaa.FrmV Go.Proofs.Ythhccabdlajngaa.FrmW
set_option linter.unusedVariables false
set_option linter.unusedSimpArgs false
set_option maxRecDepth 100000
set_option maxHeartbeats 4000000
theorem fm_ints (l : List Int) : l.flatMap (fun n => [AV.sc (Value.int IntKind.u8 n)]) = cB l := by
  induction l with
  | nil => rfl
  | cons x l ih => rw [List.flatMap_cons, ih]; rfl
theorem fm_rgs (l : List (Int × Int)) : l.flatMap (fun p => [AV.sc (Value.int IntKind.u64 p.1)] ++ [AV.sc (Value.int IntKind.u64 p.2)]) = cR l := by
  induction l with
  | nil => rfl
  | cons x l ih => rw [List.flatMap_cons, ih]; rfl
theorem u8_lim {x : Int} (h : IntKind.u8.min ≤ x ∧ x ≤ IntKind.u8.max) : 0 ≤ x ∧ x < 256 := by
  have h1 : IntKind.u8.min = 0 := by decide
  have h2 : IntKind.u8.max = 255 := by decide
  omega
theorem u32_lim {x : Int} (h : IntKind.u32.min ≤ x ∧ x ≤ IntKind.u32.max) : 0 ≤ x ∧ x < 4294967296 := by
  have h1 : IntKind.u32.min = 0 := by decide
  have h2 : IntKind.u32.max = 4294967295 := by decide
  omega
theorem u64_lim {x : Int} (h : IntKind.u64.min ≤ x ∧ x ≤ IntKind.u64.max) : u64R x := by
  have h1 : IntKind.u64.min = 0 := by decide
  have h2 : IntKind.u64.max = 18446744073709551615 := by decide
  unfold u64R
  omega
theorem opn_frame {H : Type} {en : TypeId × Value → H} {w : World} {cs : Array Value} {d : DataW H} {p : List MemPlace} (h : DataW.Trod en Try.prog w 0 (fun _ => true) true 31 (.agg cs) d p) : ∃ f : Fm, fok f ∧ VR w (all w) noLay (.ag (fr f)) (.agg cs) := by
  obtain ⟨x, o, r⟩ := opn_agg (opn_struct Try.underlying31 (FO.cons (by kernel_rfl) (opn_int Try.underlying3 (by kernel_rfl)) (FO.cons (by kernel_rfl) (opn_array Try.underlying22 (by kernel_rfl) (of_decide_eq_true (by kernel_rfl)) (opn_int Try.underlying5 (by kernel_rfl))) (FO.cons (by kernel_rfl) (opn_struct Try.underlying25 (FO.cons (by kernel_rfl) (opn_int Try.underlying23 (by kernel_rfl)) (FO.last (by kernel_rfl) (by kernel_rfl) (opn_int Try.underlying23 (by kernel_rfl))))) (FO.cons (by kernel_rfl) (opn_int Try.underlying26 (by kernel_rfl)) (FO.cons (by kernel_rfl) (opn_int Try.underlying26 (by kernel_rfl)) (FO.cons (by kernel_rfl) (opn_array Try.underlying27 (by kernel_rfl) (of_decide_eq_true (by kernel_rfl)) (opn_int Try.underlying5 (by kernel_rfl))) (FO.cons (by kernel_rfl) (opn_slice Try.underlying28 (by kernel_rfl) (of_decide_eq_true (by kernel_rfl)) (opn_int Try.underlying5 (by kernel_rfl))) (FO.cons (by kernel_rfl) (opn_slice Try.underlying29 (by kernel_rfl) (of_decide_eq_true (by kernel_rfl)) (opn_struct Try.underlying69 (FO.cons (by kernel_rfl) (opn_int Try.underlying26 (by kernel_rfl)) (FO.last (by kernel_rfl) (by kernel_rfl) (opn_int Try.underlying26 (by kernel_rfl)))))) (FO.last (by kernel_rfl) (by kernel_rfl) (opn_int Try.underlying3 (by kernel_rfl)))))))))))) h
  obtain ⟨k, t, ⟨es, er⟩, of, n, su, dd, rr, c⟩ := x
  obtain ⟨o1, ⟨o2, o2'⟩, ⟨o3, o4⟩, o5, o6, ⟨o7, o7'⟩, ⟨o8, o8'⟩, ⟨o9, o9'⟩, o10⟩ := o
  simp only at o1 o2 o2' o3 o4 o5 o6 o7 o7' o8 o8' o9 o9' o10
  refine ⟨⟨k, ⟨t, o2⟩, es, er, of, n, ⟨su, o7⟩, dd, rr, c⟩, ⟨fun x hx => u8_lim (o2' x hx), fun x hx => u8_lim (o7' x hx), fun x hx => u8_lim (o8' x hx), u32_lim o3, u32_lim o4, u64_lim o5, u64_lim o6, fun q hq => ⟨u64_lim (o9' q hq).1, u64_lim (o9' q hq).2⟩⟩, ?_⟩
  simp only at r
  rw [fm_ints, fm_ints, fm_ints, fm_rgs] at r
  have e : fr ⟨k, ⟨t, o2⟩, es, er, of, n, ⟨su, o7⟩, dd, rr, c⟩ = [AV.sc (Value.int IntKind.i64 k)] ++ (cB t ++ ([AV.sc (Value.int IntKind.u32 es)] ++ [AV.sc (Value.int IntKind.u32 er)] ++ ([AV.sc (Value.int IntKind.u64 of)] ++ ([AV.sc (Value.int IntKind.u64 n)] ++ (cB su ++ ([AV.fz dd.length (cB dd)] ++ ([AV.fz rr.length (cR rr)] ++ [AV.sc (Value.int IntKind.i64 c)]))))))) := by
    simp [fr, fc]
  rw [e]
  exact r
theorem law6' (f : Fm) (a : Int) (y : List Int) (hf : fok f) (ha : IntKind.u16.min ≤ a ∧ a ≤ IntKind.u16.max) (hyl : y.length = 4) (h : ∀ x ∈ y, IntKind.u8.min ≤ x ∧ x ≤ IntKind.u8.max) : Con Try.prog 6 [] [.ag (fr f), .sc (.int .u16 a), .ag (y.flatMap fun n => [AV.sc (Value.int IntKind.u8 n)])] [] (Bo true) := by
  have h1 : IntKind.u16.min = 0 := by decide
  have h2 : IntKind.u16.max = 65535 := by decide
  match y, hyl with
  | [y0, y1, y2, y3], _ =>
    exact law6 f a y0 y1 y2 y3 hf (by omega) (u8_lim (h y0 (by simp))) (u8_lim (h y1 (by simp))) (u8_lim (h y2 (by simp))) (u8_lim (h y3 (by simp)))
theorem okWide_array {P : Program} {t e : TypeId} {n : Nat} {w : World} {r : Reach} {base : Nat} {v : Value} (ht : P.underlying t = some (.array n e)) (h : Value.okWide P w r base t v) : ∃ cs, v = .agg cs ∧ cs.size = P.cellsOf t := by
  simp only [Value.okWide, ht] at h
  obtain ⟨cs, h1, h2, _⟩ := h
  exact ⟨cs, h1, h2⟩
end Go.Proofs.Ythhccabdlajngaa.FrmZ
