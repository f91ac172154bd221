import Derived.Test.YtlnehjhhkfjggaaDialB
import Derived.Deep.DeepCutAuto
namespace Go.Proofs.Ytlnehjhhkfjggaa.DialD
open Go.RowKit Go.Proofs.YtlnehjhhkfjggaaW.PrintWords Go.Proofs.YtlnehjhhkfjggaaW.PrintMore Go.Proofs.Ytlnehjhhkfjggaa.DialA Go.Proofs.Ytlnehjhhkfjggaa.DialB
set_option linter.unusedVariables false
set_option linter.unusedSimpArgs false
attribute [local go_sem high] eqA34 eqA35
/-- A box of two: an epoch in memory. -/
def Two (W : World) (B : Nat) (s r : Int) (t : TypeId) : Prop := W.heap[B]? = some (.cells #[.int .u32 s, .int .u32 r] t (0, 0))
theorem Two.cells {W : World} {B : Nat} {s r : Int} {t : TypeId} (h : Two W B s r t) : (W.cell? ⟨B, 0, none⟩ = some (.int .u32 s) ∧ W.cell? ⟨B, 1, none⟩ = some (.int .u32 r)) ∧ (W.frozen? ⟨B, 0, none⟩ = false ∧ W.frozen? ⟨B, 1, none⟩ = false) := blk_two h
theorem Two.below {W W' : World} {B : Nat} {s r : Int} {t : TypeId} (h : Two W B s r t) (hb : Below W.heap.size W W') : Two W' B s r t := blk_below h hb
theorem Two.alloc {W : World} {B : Nat} {s r : Int} {t : TypeId} (h : Two W B s r t) (o : Obj) : Two (W.alloc o) B s r t := blk_alloc h o
theorem Two.lt {W : World} {B : Nat} {s r : Int} {t : TypeId} (h : Two W B s r t) : B < W.heap.size := blk_lt h

/-- Both arguments in their boxes, and the two copies. -/
def Start (W0 W : World) (b x y : Nat) (s r s' r' : Int) : Prop := Two W b s r 34 ∧ Two W (b + 1) s' r' 34 ∧ Two W x s r 35 ∧ Two W y s' r' 35 ∧ Below b W0 W

set_option maxHeartbeats 4000000 in
set_option maxRecDepth 100000 in
theorem DialEpochs_calls (s r s' r' m : Int) (hf : Fits s r) (hf' : Fits s' r') (W : World) : Calls Try.prog 4 #[.agg #[.int .u32 s, .int .u32 r], .agg #[.int .u32 s', .int .u32 r'], .int .u8 m] W fun e W' => e = .returned (.bool true) ∧ Below W.heap.size W W' := by
  go_enter Try.func4, Try.ntmps4
  go_upto_region 1 with fail
  have A0 : Two _ _ _ _ _ := blk_alloc (blk_new W (.cells #[.int .u32 s, .int .u32 r] 34)) (.cells #[.int .u32 s', .int .u32 r'] 34)
  have B0 : Two _ _ _ _ _ := blk_second W (.cells #[.int .u32 s, .int .u32 r] 34) (.cells #[.int .u32 s', .int .u32 r'] 34)
  have HB := below_alloc (below_alloc (Below.refl W.heap.size W) (.cells #[.int .u32 s, .int .u32 r] 34)) (.cells #[.int .u32 s', .int .u32 r'] 34)
  go_cut [7, 8] (fun p q wx => ∃ x y : Nat, p = .pointer (some ⟨x, 0, none⟩) ∧ q = .pointer (some ⟨y, 0, none⟩) ∧ Aside0 (Start W wx W.heap.size x y s r s' r'))
  case first =>
    obtain ⟨⟨c0, c1⟩, -⟩ := A0.cells
    obtain ⟨⟨d0, d1⟩, -⟩ := B0.cells
    generalize (W.alloc (.cells #[.int .u32 s, .int .u32 r] 34)).alloc (.cells #[.int .u32 s', .int .u32 r'] 34) = W1 at *
    have ne1 := World.new_ne W1 _ c0
    have ne2 := World.new_ne W1 _ d0
    go_region_held3 (fun w' => w'.cell? ⟨W.heap.size, 0, none⟩ = some (.int .u32 s) ∧ w'.cell? ⟨W.heap.size, 1, none⟩ = some (.int .u32 r) ∧ w'.cell? ⟨W.heap.size + 1, 0, none⟩ = some (.int .u32 s') ∧ w'.cell? ⟨W.heap.size + 1, 1, none⟩ = some (.int .u32 r')) (go_keep) (fail)
    all_goals go_wp2_with fail
    all_goals go_meet
    · exact ⟨W1.heap.size, W1.heap.size + 1, rfl, rfl, ⟨(A0.alloc _).alloc _, (B0.alloc _).alloc _, blk_alloc (blk_new W1 _) _, blk_second W1 _ _, below_drew (below_alloc (below_alloc HB _) _)⟩⟩
    · exact ⟨W1.heap.size + 1, W1.heap.size, rfl, rfl, ⟨(A0.alloc _).alloc _, (B0.alloc _).alloc _, blk_second W1 _ _, blk_alloc (blk_new W1 _) _, below_drew (below_alloc (below_alloc HB _) _)⟩⟩
  case rest =>
    clear A0 B0 HB
    obtain ⟨x, y, rfl, rfl, HS⟩ := hcut
    obtain ⟨sx, sy, sz, hns⟩ : ∃ a b c, nextS s r = (a, b, c) := ⟨_, _, _, rfl⟩
    obtain ⟨rx, ry, rz, hnr⟩ : ∃ a b c, nextR s r = (a, b, c) := ⟨_, _, _, rfl⟩
    obtain ⟨nw, hnw⟩ : ∃ b, newer s r s' r' = b := ⟨_, rfl⟩
    obtain ⟨ck, hck⟩ : ∃ b, check s r s' r' m = b := ⟨_, rfl⟩
    obtain ⟨mk, hmk⟩ : ∃ b, dmark s r = b := ⟨_, rfl⟩
    have HNS := Aside0.mk hns
    have HNR := Aside0.mk hnr
    have HNW := Aside0.mk hnw
    have HCK := Aside0.mk hck
    have HMK := Aside0.mk hmk
    have HF := Aside0.mk hf
    clear hns hnr hnw hck hmk hf hf'
    obtain ⟨A, B, X, Y, HB⟩ := HS.out
    obtain ⟨⟨c0, c1⟩, -⟩ := X.cells
    have hz := X.lt
    go_wp2_with fail
    refine (NextS_calls s r HF.out _ sx sy sz HNS.out).mono ?_
    rintro e w1 ⟨rfl, hb⟩
    replace A := A.below hb
    replace B := B.below hb
    replace X := X.below hb
    replace Y := Y.below hb
    replace HB := below_then HB HB.size hb
    clear c0 c1 hz hb HS
    obtain ⟨⟨c0, c1⟩, -⟩ := A.cells
    have hz := A.lt
    have AA := Aside0.mk (A.alloc (.cells #[.int .u32 sx, .int .u32 sy] 35))
    have BB := Aside0.mk (B.alloc (.cells #[.int .u32 sx, .int .u32 sy] 35))
    have XX := Aside0.mk (X.alloc (.cells #[.int .u32 sx, .int .u32 sy] 35))
    have YY := Aside0.mk (Y.alloc (.cells #[.int .u32 sx, .int .u32 sy] 35))
    have HBB := Aside0.mk (below_alloc HB (.cells #[.int .u32 sx, .int .u32 sy] 35))
    have C1 : Aside0 (Two _ _ sx sy 35) := ⟨blk_new w1 _⟩
    clear A B X Y HB
    go_wp2_with fail
    refine (RNextS_calls s r HF.out _ sx sy sz HNS.out).mono ?_
    rintro e w2 ⟨rfl, hb⟩
    have A := AA.out.below hb
    have B := BB.out.below hb
    have X := XX.out.below hb
    have Y := YY.out.below hb
    have C2 := C1.out.below hb
    have HB := below_then HBB.out HBB.out.size hb
    clear c0 c1 hz hb AA BB XX YY HBB C1
    obtain ⟨⟨c0, c1⟩, -⟩ := X.cells
    have hz := X.lt
    generalize w1.heap.size = g1 at *
    have AA := Aside0.mk (A.alloc (.cells #[.int .u32 sx, .int .u32 sy] 34))
    have BB := Aside0.mk (B.alloc (.cells #[.int .u32 sx, .int .u32 sy] 34))
    have XX := Aside0.mk (X.alloc (.cells #[.int .u32 sx, .int .u32 sy] 34))
    have YY := Aside0.mk (Y.alloc (.cells #[.int .u32 sx, .int .u32 sy] 34))
    have CC2 := Aside0.mk (C2.alloc (.cells #[.int .u32 sx, .int .u32 sy] 34))
    have HBB := Aside0.mk (below_alloc HB (.cells #[.int .u32 sx, .int .u32 sy] 34))
    have D1 : Aside0 (Two _ _ sx sy 34) := ⟨blk_new w2 _⟩
    clear A B X Y HB C2
    go_wp2_with fail
    refine (NextR_calls s r HF.out _ rx ry rz HNR.out).mono ?_
    rintro e w3 ⟨rfl, hb⟩
    have A := AA.out.below hb
    have B := BB.out.below hb
    have X := XX.out.below hb
    have Y := YY.out.below hb
    have C2 := CC2.out.below hb
    have D2 := D1.out.below hb
    have HB := below_then HBB.out HBB.out.size hb
    clear c0 c1 hz hb AA BB XX YY HBB CC2 D1
    obtain ⟨⟨c0, c1⟩, -⟩ := A.cells
    have hz := A.lt
    generalize w2.heap.size = g2 at *
    have AA := Aside0.mk (A.alloc (.cells #[.int .u32 rx, .int .u32 ry] 35))
    have BB := Aside0.mk (B.alloc (.cells #[.int .u32 rx, .int .u32 ry] 35))
    have XX := Aside0.mk (X.alloc (.cells #[.int .u32 rx, .int .u32 ry] 35))
    have YY := Aside0.mk (Y.alloc (.cells #[.int .u32 rx, .int .u32 ry] 35))
    have CC2 := Aside0.mk (C2.alloc (.cells #[.int .u32 rx, .int .u32 ry] 35))
    have DD2 := Aside0.mk (D2.alloc (.cells #[.int .u32 rx, .int .u32 ry] 35))
    have HBB := Aside0.mk (below_alloc HB (.cells #[.int .u32 rx, .int .u32 ry] 35))
    have F1 : Aside0 (Two _ _ rx ry 35) := ⟨blk_new w3 _⟩
    clear A B X Y HB C2 D2
    go_wp2_with fail
    refine (RNextR_calls s r HF.out _ rx ry rz HNR.out).mono ?_
    rintro e w4 ⟨rfl, hb⟩
    have A := (AA.out.below hb).alloc (.cells #[.int .u32 rx, .int .u32 ry] 34)
    have B := (BB.out.below hb).alloc (.cells #[.int .u32 rx, .int .u32 ry] 34)
    have X := (XX.out.below hb).alloc (.cells #[.int .u32 rx, .int .u32 ry] 34)
    have Y := (YY.out.below hb).alloc (.cells #[.int .u32 rx, .int .u32 ry] 34)
    have C2 := (CC2.out.below hb).alloc (.cells #[.int .u32 rx, .int .u32 ry] 34)
    have D2 := (DD2.out.below hb).alloc (.cells #[.int .u32 rx, .int .u32 ry] 34)
    have F2 := (F1.out.below hb).alloc (.cells #[.int .u32 rx, .int .u32 ry] 34)
    have G1 : Two _ _ rx ry 34 := blk_new w4 (.cells #[.int .u32 rx, .int .u32 ry] 34 (0, 0))
    have HB := below_alloc (below_then HBB.out HBB.out.size hb) (.cells #[.int .u32 rx, .int .u32 ry] 34)
    clear c0 c1 hz hb AA BB XX YY HBB CC2 DD2 F1
    go_wp2_with fail
    generalize w3.heap.size = g3 at *
    generalize w4.alloc (.cells #[.int .u32 rx, .int .u32 ry] 34) = W5 at *
    generalize w4.heap.size = g4 at *
    obtain ⟨⟨a0, a1⟩, -⟩ := A.cells
    obtain ⟨⟨b0, b1⟩, -⟩ := B.cells
    obtain ⟨⟨x0, x1⟩, -⟩ := X.cells
    obtain ⟨⟨y0, y1⟩, -⟩ := Y.cells
    obtain ⟨⟨c0, c1⟩, -⟩ := C2.cells
    obtain ⟨⟨d0, d1⟩, -⟩ := D2.cells
    obtain ⟨⟨f0, f1⟩, -⟩ := F2.cells
    obtain ⟨⟨k0, k1⟩, -⟩ := G1.cells
    clear A B X Y C2 D2 F2 G1
    have hmm := HMK.out
    go_region_held3 (fun w' => w'.cell? ⟨W.heap.size, 0, none⟩ = some (.int .u32 s) ∧ w'.cell? ⟨W.heap.size, 1, none⟩ = some (.int .u32 r) ∧ w'.cell? ⟨W.heap.size + 1, 0, none⟩ = some (.int .u32 s') ∧ w'.cell? ⟨W.heap.size + 1, 1, none⟩ = some (.int .u32 r') ∧ w'.cell? ⟨x, 0, none⟩ = some (.int .u32 s) ∧ w'.cell? ⟨x, 1, none⟩ = some (.int .u32 r) ∧ w'.cell? ⟨y, 0, none⟩ = some (.int .u32 s') ∧ w'.cell? ⟨y, 1, none⟩ = some (.int .u32 r') ∧ w'.cell? ⟨g1, 0, none⟩ = some (.int .u32 sx) ∧ w'.cell? ⟨g1, 1, none⟩ = some (.int .u32 sy) ∧ w'.cell? ⟨g2, 0, none⟩ = some (.int .u32 sx) ∧ w'.cell? ⟨g2, 1, none⟩ = some (.int .u32 sy) ∧ w'.cell? ⟨g3, 0, none⟩ = some (.int .u32 rx) ∧ w'.cell? ⟨g3, 1, none⟩ = some (.int .u32 ry) ∧ w'.cell? ⟨g4, 0, none⟩ = some (.int .u32 rx) ∧ w'.cell? ⟨g4, 1, none⟩ = some (.int .u32 ry) ∧ Below W.heap.size W w') (((try go_split_ands); refine ⟨?_, ?_, ?_, ?_, ?_, ?_, ?_, ?_, ?_, ?_, ?_, ?_, ?_, ?_, ?_, ?_, ?_⟩ <;> first | assumption | (go_keep; done) | exact pw_cell_below hb (by assumption) | exact below_drew (by assumption) | exact below_then (by assumption) (Below.size (by assumption)) hb))
      (first
        | (go_at_call 21; refine (Newer_calls s r s' r' _ nw HNW.out).mono ?_; rintro e w' ⟨rfl, hb⟩)
        | (go_at_call 22; refine (RNewer_calls s r s' r' _ nw HNW.out).mono ?_; rintro e w' ⟨rfl, hb⟩)
        | (go_at_call 23; refine (Mark_calls s r HF.out.1 HF.out.2.2.1 _).mono ?_; rw [HMK.out]; rintro e w' ⟨rfl, hb⟩)
        | (go_at_call 24; refine (RMark_calls s r HF.out.1 HF.out.2.2.1 _).mono ?_; rw [HMK.out]; rintro e w' ⟨rfl, hb⟩)
        | (go_at_call 25; refine (Check_calls s r s' r' m HF.out _ ck HCK.out).mono ?_; rintro e w' ⟨rfl, hb⟩)
        | (go_at_call 26; refine (RCheck_calls s r s' r' m HF.out _ ck HCK.out).mono ?_; rintro e w' ⟨rfl, hb⟩)
        | (go_at_call 16; refine (alive_calls _).mono ?_; rintro e w' ⟨rfl, hb⟩))
    all_goals
      go_split_ands
      rename_i hbel
      go_wp2_with (fail)
      go_ret
      exact ⟨rfl, hbel⟩
end Go.Proofs.Ytlnehjhhkfjggaa.DialD
