import Derived.Test.YtlnehjhhkfjggaaDialD
import Derived.Deep.QuietTactic
import Derived.BigQuiet
namespace Go.Proofs.Ytlnehjhhkfjggaa.DialE
open Go.RowKit Go.Proofs.YtlnehjhhkfjggaaW.PrintWords Go.Proofs.YtlnehjhhkfjggaaW.PrintMore Go.Proofs.Ytlnehjhhkfjggaa.DialA Go.Proofs.Ytlnehjhhkfjggaa.DialB Go.Proofs.Ytlnehjhhkfjggaa.DialD
set_option linter.unusedVariables false
set_option linter.unusedSimpArgs false
attribute [local go_sem high] eqA34 eqA35

/-- What a next epoch is to the one before. -/
def Nexts (s r x y : Int) : Prop := newer x y s r = true ∧ dmark x y = (dmark s r + 1) % 4 ∧ check x y s r (dmark x y) = 16 ∧ check x y x y (dmark x y) = 0 ∧ Fits x y ∧ 0 ≤ dmark x y ∧ dmark x y ≤ 3 ∧ 0 ≤ dmark s r ∧ dmark s r ≤ 3
theorem nextS_ok (s r x y : Int) (hf : Fits s r) (h : nextS s r = (x, y, 0)) : Nexts s r x y := by
  obtain ⟨h1, h2, h3, h4⟩ := hf
  unfold nextS at h
  by_cases hc : s = 4294967295
  · rw [if_pos hc] at h; simp at h
  · rw [if_neg hc] at h
    obtain ⟨rfl, rfl⟩ : s + 1 = x ∧ r = y := by simpa using h
    refine ⟨?_, ?_, ?_, ?_, ⟨by omega, by omega, h3, h4⟩, ?_, ?_, ?_, ?_⟩
    · unfold newer; rw [decide_eq_true (by omega)]; rfl
    · unfold dmark; omega
    · unfold check same2; rw [if_neg]; rw [beq_eq_false_iff_ne.2 (by omega)]; simp
    · unfold check same2; rw [if_pos ⟨by simp, rfl⟩]
    all_goals (unfold dmark; omega)
theorem nextR_ok (s r x y : Int) (hf : Fits s r) (h : nextR s r = (x, y, 0)) : Nexts s r x y := by
  obtain ⟨h1, h2, h3, h4⟩ := hf
  unfold nextR at h
  by_cases hc : r = 4294967295
  · rw [if_pos hc] at h; simp at h
  · rw [if_neg hc] at h
    obtain ⟨rfl, rfl⟩ : s = x ∧ r + 1 = y := by simpa using h
    refine ⟨?_, ?_, ?_, ?_, ⟨h1, h2, by omega, by omega⟩, ?_, ?_, ?_, ?_⟩
    · unfold newer; rw [decide_eq_true (show r < r + 1 by omega)]; simp
    · unfold dmark; omega
    · unfold check same2; rw [if_neg]; rw [beq_eq_false_iff_ne.2 (show r + 1 ≠ r by omega)]; simp
    · unfold check same2; rw [if_pos ⟨by simp, rfl⟩]
    all_goals (unfold dmark; omega)
/-- The law's test of two epochs is never met. -/
theorem three (s r s' r' : Int) : (newer s r s' r' = false ∧ newer s' r' s r = false ∧ (s == s' && r == r') = true) ∨ (newer s r s' r' = true ∧ newer s' r' s r = false ∧ (s == s' && r == r') = false) ∨ (newer s r s' r' = false ∧ newer s' r' s r = true ∧ (s == s' && r == r') = false) := by
  unfold newer
  by_cases h1 : s = s'
  · subst h1
    by_cases h2 : r = r'
    · subst h2; left; simp
    · by_cases h3 : r' < r
      · right; left; simp [h2, h3]; omega
      · right; right; simp [h2, h3]; omega
  · by_cases h3 : s' < s
    · right; left; simp [h1, h3, Ne.symm h1]; omega
    · right; right; simp [h1, h3, Ne.symm h1]; omega

/-- Where the rounds stand. -/
def At (W0 W : World) (b x y L : Nat) (s r s' r' : Int) : Prop := Two W x s r 35 ∧ W.heap[L]? = some (.cells #[.bool true, .bool false] 4 (0, 0)) ∧ Below b W0 W

set_option maxHeartbeats 8000000 in
set_option maxRecDepth 100000 in
theorem DialNext_calls (s r s' r' : Int) (hf : Fits s r) (hf' : Fits s' r') (W : World) : Calls Try.prog 5 #[.agg #[.int .u32 s, .int .u32 r], .agg #[.int .u32 s', .int .u32 r']] W fun e W' => e = .returned (.bool true) ∧ Below W.heap.size W W' := by
  have HF := Aside0.mk hf
  have HF' := Aside0.mk hf'
  clear hf hf'
  go_enter Try.func5, Try.ntmps5
  go_upto_region 1 with fail
  have A0 : Two _ _ _ _ _ := blk_alloc (blk_new W (.cells #[.int .u32 s, .int .u32 r] 34)) (.cells #[.int .u32 s', .int .u32 r'] 34)
  have B0 : Two _ _ _ _ _ := blk_second W (.cells #[.int .u32 s, .int .u32 r] 34) (.cells #[.int .u32 s', .int .u32 r'] 34)
  have HB := below_alloc (below_alloc (Below.refl W.heap.size W) (.cells #[.int .u32 s, .int .u32 r] 34)) (.cells #[.int .u32 s', .int .u32 r'] 34)
  go_cut [5, 6] (fun p q wx => ∃ x y : Nat, p = .pointer (some ⟨x, 0, none⟩) ∧ q = .pointer (some ⟨y, 0, none⟩) ∧ Aside0 (DialD.Start W wx W.heap.size x y s r s' r'))
  case first =>
    obtain ⟨⟨c0, c1⟩, -⟩ := A0.cells
    obtain ⟨⟨d0, d1⟩, -⟩ := B0.cells
    generalize (W.alloc (.cells #[.int .u32 s, .int .u32 r] 34)).alloc (.cells #[.int .u32 s', .int .u32 r'] 34) = W1 at *
    have ne1 := World.new_ne W1 _ c0
    have ne2 := World.new_ne W1 _ d0
    go_region_held3 (fun w' => w'.cell? ⟨W.heap.size, 0, none⟩ = some (.int .u32 s) ∧ w'.cell? ⟨W.heap.size, 1, none⟩ = some (.int .u32 r) ∧ w'.cell? ⟨W.heap.size + 1, 0, none⟩ = some (.int .u32 s') ∧ w'.cell? ⟨W.heap.size + 1, 1, none⟩ = some (.int .u32 r')) (go_keep) (fail)
    all_goals go_wp2_with fail
    all_goals go_meet
    · exact ⟨W1.heap.size, W1.heap.size + 1, rfl, rfl, ⟨(A0.alloc _).alloc _, (B0.alloc _).alloc _, blk_alloc (blk_new W1 _) _, blk_second W1 _ _, below_drew (below_alloc (below_alloc HB _) _)⟩⟩
    · exact ⟨W1.heap.size + 1, W1.heap.size, rfl, rfl, ⟨(A0.alloc _).alloc _, (B0.alloc _).alloc _, blk_second W1 _ _, blk_alloc (blk_new W1 _) _, below_drew (below_alloc (below_alloc HB _) _)⟩⟩
  case rest =>
    clear A0 B0 HB
    obtain ⟨x, y, rfl, rfl, HS⟩ := hcut
    obtain ⟨nw, hnw⟩ : ∃ b, newer s r s' r' = b := ⟨_, rfl⟩
    obtain ⟨nv, hnv⟩ : ∃ b, newer s' r' s r = b := ⟨_, rfl⟩
    obtain ⟨sm, hsm⟩ : ∃ b, (s == s' && r == r') = b := ⟨_, rfl⟩
    have h3 := three s r s' r'
    rw [hnw, hnv, hsm] at h3
    have HNW := Aside0.mk hnw
    have HNV := Aside0.mk hnv
    clear hnw hnv
    obtain ⟨-, -, X, Y, HB⟩ := HS.out
    obtain ⟨⟨x0, x1⟩, -⟩ := X.cells
    obtain ⟨⟨y0, y1⟩, -⟩ := Y.cells
    clear HS
    have XX := Aside0.mk X
    have YY := Aside0.mk Y
    have HBB := Aside0.mk HB
    clear X Y HB
    go_upto_region 2 with fail
    go_cut [7, 8] (fun p q wx => p = .bool nw ∧ q = .bool nv ∧ Aside0 (Two wx x s r 35 ∧ Two wx y s' r' 35 ∧ Below W.heap.size W wx))
    case first =>
      have HB := HBB.out
      go_region_held3 (fun w' => w'.cell? ⟨x, 0, none⟩ = some (.int .u32 s) ∧ w'.cell? ⟨x, 1, none⟩ = some (.int .u32 r) ∧ w'.cell? ⟨y, 0, none⟩ = some (.int .u32 s') ∧ w'.cell? ⟨y, 1, none⟩ = some (.int .u32 r') ∧ Two w' x s r 35 ∧ Two w' y s' r' 35 ∧ Below W.heap.size W w') (((try go_split_ands); refine ⟨?_, ?_, ?_, ?_, ?_, ?_, ?_⟩ <;> first | assumption | (go_keep; done) | exact pw_cell_below hb (by assumption) | exact XX.out | exact YY.out | exact Two.below (by assumption) hb | exact below_drew (by assumption) | exact below_then (by assumption) (Below.size (by assumption)) hb))
        (first
          | (go_at_call 21; refine (Newer_calls _ _ _ _ _ _ rfl).mono ?_; rintro e w' ⟨rfl, hb⟩))
      all_goals
        go_split_ands
        rename_i t1 t2 hbel
        go_wp2_with fail
        go_meet
        exact ⟨by rw [HNW.out], by rw [HNV.out], ⟨t1, t2, hbel⟩⟩
    case rest =>
      clear x0 x1 y0 y1 XX YY HBB
      obtain ⟨rfl, rfl, HT⟩ := hcut
      obtain ⟨X, Y, HB⟩ := HT.out
      obtain ⟨⟨x0, x1⟩, -⟩ := X.cells
      obtain ⟨⟨y0, y1⟩, -⟩ := Y.cells
      have hlt := X.lt
      have XX := Aside0.mk X
      have HBB := Aside0.mk HB
      clear X Y HB HT
      go_upto_region 3 with fail
      go_cut [45] (fun t wx => t = .bool false ∧ Aside0 (Two wx x s r 35 ∧ Below W.heap.size W wx))
      case first =>
        rcases h3 with ⟨rfl, rfl, rfl⟩ | ⟨rfl, rfl, rfl⟩ | ⟨rfl, rfl, rfl⟩
        all_goals
          go_wp2_with fail
          go_meet
          exact ⟨rfl, ⟨XX.out, HBB.out⟩⟩
      case rest =>
        clear x0 x1 y0 y1 XX HBB hlt h3 HNW HNV hsm
        obtain ⟨rfl, HT⟩ := hcut
        obtain ⟨X, HB⟩ := HT.out
        clear HT
        have J0 : Aside0 (At W _ W.heap.size x y _ s r s' r') := ⟨X.alloc (.cells #[.bool true, .bool false] 4), blk_new _ _, below_alloc HB _⟩
        clear X HB
        go_wp2_with fail
        generalize wc.alloc (Obj.cells #[Value.bool true, Value.bool false] 4) = W1 at *
        generalize wc.heap.size = L at *
        go_loopg [48] 2 (fun g i wr => ∃ k : Nat, k ≤ 2 ∧ i = .int .i64 k ∧ Aside0 (At W wr W.heap.size x y L s r s' r' ∧ g = 2 - k))
        case atStart => exact ⟨0, by omega, rfl, ⟨J0.out, rfl⟩⟩
        case round =>
          clear J0
          obtain ⟨k, hk, rfl, HA⟩ := hrel
          obtain ⟨⟨X, HL, HB⟩, hg⟩ := HA.out
          clear HA
          have XX := Aside0.mk X
          have LL := Aside0.mk HL
          have HBB := Aside0.mk HB
          obtain ⟨⟨x0, x1⟩, -⟩ := X.cells
          have l0 := blk_cell HL 0
          have l1 := blk_cell HL 1
          have hlt := X.lt
          have hlt2 := blk_lt HL
          clear X HL HB
          have h012 : k = 0 ∨ k = 1 ∨ k = 2 := by omega
          rcases h012 with rfl | rfl | rfl
          · go_wp2_with fail
            obtain ⟨rx, ry, rz, hnr⟩ : ∃ a b c, nextR s r = (a, b, c) := ⟨_, _, _, rfl⟩
            have HNR := Aside0.mk hnr
            obtain ⟨zx, zy, ze, hns⟩ : ∃ a b c, nextS s r = (a, b, c) := ⟨_, _, _, rfl⟩
            have HNS := Aside0.mk hns
            have HN : Aside0 (ze = 0 → Nexts s r zx zy) := ⟨fun h => nextS_ok s r zx zy HF.out (h ▸ hns)⟩
            clear hnr hns
            refine (NextR_calls s r HF.out _ rx ry rz HNR.out).mono ?_
            rintro e w1 ⟨rfl, hb⟩
            have X1 := (XX.out.below hb).alloc (.cells #[.int .u32 rx, .int .u32 ry] 35)
            have L1 := blk_alloc (blk_below LL.out hb) (.cells #[.int .u32 rx, .int .u32 ry] 35)
            have B1 := below_alloc (below_then HBB.out HBB.out.size hb) (.cells #[.int .u32 rx, .int .u32 ry] 35)
            have Z1 : Two _ _ rx ry 35 := blk_new w1 (.cells #[.int .u32 rx, .int .u32 ry] 35)
            have hxz : x ≠ w1.heap.size := Nat.ne_of_lt (XX.out.below hb).lt
            have hLz : L ≠ w1.heap.size := Nat.ne_of_lt (blk_lt (blk_below LL.out hb))
            have hWz : W.heap.size ≤ w1.heap.size := (below_then HBB.out HBB.out.size hb).size
            have q1 := (XX.out.below hb).cells.1
            have q2 := (XX.out.below hb).lt
            have XA := Aside0.mk X1
            have LA := Aside0.mk L1
            have BA := Aside0.mk B1
            have ZA := Aside0.mk Z1
            obtain ⟨q3, q4⟩ := q1
            clear x0 x1 l0 l1 hlt hlt2 hb X1 L1 B1 Z1 XX LL HBB
            go_wp2_with fail
            refine (NextS_calls s r HF.out _ zx zy ze HNS.out).mono ?_
            rintro e w2 ⟨rfl, hb⟩
            generalize w1.heap.size = z at *
            have Z2 := ZA.out.below hb
            have XZ : Aside0 (Two ((w2.setCell ⟨z, 0, none⟩ (.int .u32 zx)).setCell ⟨z, 1, none⟩ (.int .u32 zy)) x s r 35 ∧ Two ((w2.setCell ⟨z, 0, none⟩ (.int .u32 zx)).setCell ⟨z, 1, none⟩ (.int .u32 zy)) z zx zy 35 ∧ ((w2.setCell ⟨z, 0, none⟩ (.int .u32 zx)).setCell ⟨z, 1, none⟩ (.int .u32 zy)).heap[L]? = some (.cells #[.bool true, .bool false] 4 (0, 0)) ∧ Below W.heap.size W ((w2.setCell ⟨z, 0, none⟩ (.int .u32 zx)).setCell ⟨z, 1, none⟩ (.int .u32 zy))) :=
              ⟨blk_far (p := ⟨z, 1, none⟩) (blk_far (p := ⟨z, 0, none⟩) (XA.out.below hb) hxz _) hxz _, blk_put (cs := #[.int .u32 zx, .int .u32 ry]) (blk_put (cs := #[.int .u32 rx, .int .u32 ry]) Z2 0 _ rfl) 1 _ rfl, blk_far (p := ⟨z, 1, none⟩) (blk_far (p := ⟨z, 0, none⟩) (blk_below LA.out hb) hLz _) hLz _, ((below_then BA.out BA.out.size hb).setCell hWz _).setCell hWz _⟩
            obtain ⟨⟨zc0, zc1⟩, zf0, zf1⟩ := Z2.cells
            clear XA LA BA ZA Z2 hb q3 q4 q2
            go_wp2_with fail
            generalize (w2.setCell ⟨z, 0, none⟩ (.int .u32 zx)).setCell ⟨z, 1, none⟩ (.int .u32 zy) = W3 at *
            clear zc0 zc1 zf0 zf1
            have XZ3 := XZ.out.2.2.2
            obtain ⟨⟨xx0, xx1⟩, -⟩ := XZ.out.1.cells
            obtain ⟨⟨zz0, zz1⟩, -⟩ := XZ.out.2.1.cells
            by_cases he : ze = 0
            · subst he
              obtain ⟨n1, n2, n3, n4, n5, n6, n7, n8, n9⟩ := HN.out rfl
              have N1 := Aside0.mk n1
              have N3 := Aside0.mk n3
              have N4 := Aside0.mk n4
              have N5 := Aside0.mk n5
              have hdm : (dmark s r + 1).tmod 4 = dmark zx zy := by rw [n2, Int.tmod_eq_emod_of_nonneg (by omega)]
              have hw8 : IntKind.u8.wrap (dmark s r + 1) = dmark s r + 1 := by simp [IntKind.wrap, IntKind.bits, IntKind.signed]; omega
              clear n1 n2 n3 n4 n5
              go_region_held3 (fun w' => w'.cell? ⟨x, 0, none⟩ = some (.int .u32 s) ∧ w'.cell? ⟨x, 1, none⟩ = some (.int .u32 r) ∧ w'.cell? ⟨z, 0, none⟩ = some (.int .u32 zx) ∧ w'.cell? ⟨z, 1, none⟩ = some (.int .u32 zy) ∧ Two w' x s r 35 ∧ Two w' z zx zy 35 ∧ w'.heap[L]? = some (.cells #[.bool true, .bool false] 4 (0, 0)) ∧ Below W.heap.size W w') (((try go_split_ands); refine ⟨?_, ?_, ?_, ?_, ?_, ?_, ?_, ?_⟩ <;> first | assumption | (go_keep; done) | exact pw_cell_below hb (by assumption) | exact XZ.out.1 | exact XZ.out.2.1 | exact XZ.out.2.2.1 | exact Two.below (by assumption) hb | exact blk_below (by assumption) hb | exact below_drew (by assumption) | exact below_then (by assumption) (Below.size (by assumption)) hb))
                (first
                  | (go_at_call 21; refine (Newer_calls zx zy s r _ true N1.out).mono ?_; rintro e w' ⟨rfl, hb⟩)
                  | (go_at_call_of 23 (Value.agg #[Value.int IntKind.u32 zx, Value.int IntKind.u32 zy]); refine (Mark_calls zx zy N5.out.1 N5.out.2.2.1 _).mono ?_; rintro e w' ⟨rfl, hb⟩)
                  | (go_at_call_of 23 (Value.agg #[Value.int IntKind.u32 s, Value.int IntKind.u32 r]); refine (Mark_calls s r HF.out.1 HF.out.2.2.1 _).mono ?_; rintro e w' ⟨rfl, hb⟩)
                  | (go_at_call_of 25 (Value.agg #[Value.int IntKind.u32 s, Value.int IntKind.u32 r]); refine (Check_calls zx zy s r _ N5.out _ 16 N3.out).mono ?_; rintro e w' ⟨rfl, hb⟩)
                  | (go_at_call 25; refine (Check_calls zx zy zx zy _ N5.out _ 0 N4.out).mono ?_; rintro e w' ⟨rfl, hb⟩))
              all_goals
                go_split_ands
                rename_i t1 t2 t3 hbel
                go_wp2_with fail
                go_roundg (gk - 1)
                case measure => omega
                case rel => exact ⟨1, by omega, rfl, ⟨⟨t1, t3, hbel⟩, by omega⟩⟩
            · have he' : (ze == 0) = false := beq_eq_false_iff_ne.2 he
              clear he
              go_quiet (fail)
              all_goals
                go_wp2_with fail
                go_roundg (gk - 1)
                case measure => omega
                case rel => exact ⟨1, by omega, rfl, ⟨⟨XZ.out.1, XZ.out.2.2.1, pw_below_drewN XZ.out.2.2.2 _⟩, by omega⟩⟩
          · go_wp2_with fail
            obtain ⟨zx, zy, ze, hns⟩ : ∃ a b c, nextR s r = (a, b, c) := ⟨_, _, _, rfl⟩
            have HNS := Aside0.mk hns
            have HN : Aside0 (ze = 0 → Nexts s r zx zy) := ⟨fun h => nextR_ok s r zx zy HF.out (h ▸ hns)⟩
            clear hns
            refine (NextR_calls s r HF.out _ zx zy ze HNS.out).mono ?_
            rintro e w1 ⟨rfl, hb⟩
            have XZ : Aside0 (Two (w1.alloc (.cells #[.int .u32 zx, .int .u32 zy] 35)) x s r 35 ∧ Two (w1.alloc (.cells #[.int .u32 zx, .int .u32 zy] 35)) w1.heap.size zx zy 35 ∧ (w1.alloc (.cells #[.int .u32 zx, .int .u32 zy] 35)).heap[L]? = some (.cells #[.bool true, .bool false] 4 (0, 0)) ∧ Below W.heap.size W (w1.alloc (.cells #[.int .u32 zx, .int .u32 zy] 35))) :=
              ⟨(XX.out.below hb).alloc _, blk_new w1 _, blk_alloc (blk_below LL.out hb) _, below_alloc (below_then HBB.out HBB.out.size hb) _⟩
            clear x0 x1 l0 l1 hlt hlt2 hb XX LL HBB
            go_wp2_with fail
            generalize w1.alloc (.cells #[.int .u32 zx, .int .u32 zy] 35) = W3 at *
            generalize w1.heap.size = z at *
            have XZ3 := XZ.out.2.2.2
            obtain ⟨⟨xx0, xx1⟩, -⟩ := XZ.out.1.cells
            obtain ⟨⟨zz0, zz1⟩, -⟩ := XZ.out.2.1.cells
            by_cases he : ze = 0
            · subst he
              obtain ⟨n1, n2, n3, n4, n5, n6, n7, n8, n9⟩ := HN.out rfl
              have N1 := Aside0.mk n1
              have N3 := Aside0.mk n3
              have N4 := Aside0.mk n4
              have N5 := Aside0.mk n5
              have hdm : (dmark s r + 1).tmod 4 = dmark zx zy := by rw [n2, Int.tmod_eq_emod_of_nonneg (by omega)]
              have hw8 : IntKind.u8.wrap (dmark s r + 1) = dmark s r + 1 := by simp [IntKind.wrap, IntKind.bits, IntKind.signed]; omega
              clear n1 n2 n3 n4 n5
              go_region_held3 (fun w' => w'.cell? ⟨x, 0, none⟩ = some (.int .u32 s) ∧ w'.cell? ⟨x, 1, none⟩ = some (.int .u32 r) ∧ w'.cell? ⟨z, 0, none⟩ = some (.int .u32 zx) ∧ w'.cell? ⟨z, 1, none⟩ = some (.int .u32 zy) ∧ Two w' x s r 35 ∧ Two w' z zx zy 35 ∧ w'.heap[L]? = some (.cells #[.bool true, .bool false] 4 (0, 0)) ∧ Below W.heap.size W w') (((try go_split_ands); refine ⟨?_, ?_, ?_, ?_, ?_, ?_, ?_, ?_⟩ <;> first | assumption | (go_keep; done) | exact pw_cell_below hb (by assumption) | exact XZ.out.1 | exact XZ.out.2.1 | exact XZ.out.2.2.1 | exact Two.below (by assumption) hb | exact blk_below (by assumption) hb | exact below_drew (by assumption) | exact below_then (by assumption) (Below.size (by assumption)) hb))
                (first
                  | (go_at_call 21; refine (Newer_calls zx zy s r _ true N1.out).mono ?_; rintro e w' ⟨rfl, hb⟩)
                  | (go_at_call_of 23 (Value.agg #[Value.int IntKind.u32 zx, Value.int IntKind.u32 zy]); refine (Mark_calls zx zy N5.out.1 N5.out.2.2.1 _).mono ?_; rintro e w' ⟨rfl, hb⟩)
                  | (go_at_call_of 23 (Value.agg #[Value.int IntKind.u32 s, Value.int IntKind.u32 r]); refine (Mark_calls s r HF.out.1 HF.out.2.2.1 _).mono ?_; rintro e w' ⟨rfl, hb⟩)
                  | (go_at_call_of 25 (Value.agg #[Value.int IntKind.u32 s, Value.int IntKind.u32 r]); refine (Check_calls zx zy s r _ N5.out _ 16 N3.out).mono ?_; rintro e w' ⟨rfl, hb⟩)
                  | (go_at_call 25; refine (Check_calls zx zy zx zy _ N5.out _ 0 N4.out).mono ?_; rintro e w' ⟨rfl, hb⟩))
              all_goals
                go_split_ands
                rename_i t1 t2 t3 hbel
                go_wp2_with fail
                go_roundg (gk - 1)
                case measure => omega
                case rel => exact ⟨2, by omega, rfl, ⟨⟨t1, t3, hbel⟩, by omega⟩⟩
            · have he' : (ze == 0) = false := beq_eq_false_iff_ne.2 he
              clear he
              go_quiet (fail)
              all_goals
                go_wp2_with fail
                go_roundg (gk - 1)
                case measure => omega
                case rel => exact ⟨2, by omega, rfl, ⟨⟨XZ.out.1, XZ.out.2.2.1, pw_below_drewN XZ.out.2.2.2 _⟩, by omega⟩⟩
          · go_wp2_with fail
            refine (alive_calls _).mono ?_
            rintro e w5 ⟨rfl, hb⟩
            have HB' := Aside0.mk (below_then HBB.out HBB.out.size hb)
            clear hb
            go_wp2_with (fail)
            go_ret
            exact ⟨rfl, HB'.out⟩
end Go.Proofs.Ytlnehjhhkfjggaa.DialE
