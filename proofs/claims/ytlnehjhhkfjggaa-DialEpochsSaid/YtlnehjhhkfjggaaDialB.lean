import Derived.Test.YtlnehjhhkfjggaaDialA
import Derived.Test.YtlnehjhhkfjggaaWEqStruct
namespace Go.Proofs.Ytlnehjhhkfjggaa.DialB
open Go.RowKit Go.Proofs.YtlnehjhhkfjggaaW.PrintWords Go.Proofs.YtlnehjhhkfjggaaW.PrintMore Go.Proofs.Ytlnehjhhkfjggaa.DialA
set_option linter.unusedVariables false
set_option linter.unusedSimpArgs false

theorem eqA34 (d : Nat) (w : World) (x0 y0 x1 y1 : Int) :
    (Op.equalIn (d + 2) 34 (.agg #[.int .u32 x0, .int .u32 x1]) (.agg #[.int .u32 y0, .int .u32 y1])).run Try.prog w = .ok (x0 == y0 && (x1 == y1)) w := by
  refine eqA_of Try.underlying34 (by kernel_rfl) ?_
  refine eqf_cons (by rfl) (by go_simp; rfl) (by go_simp; rfl) (by go_simp) ?_
  exact eqf_last (by rfl) (by go_simp; rfl) (by go_simp; rfl) (by go_simp)
theorem eqA35 (d : Nat) (w : World) (x0 y0 x1 y1 : Int) :
    (Op.equalIn (d + 2) 35 (.agg #[.int .u32 x0, .int .u32 x1]) (.agg #[.int .u32 y0, .int .u32 y1])).run Try.prog w = .ok (x0 == y0 && (x1 == y1)) w := by
  refine eqA_of Try.underlying35 (by kernel_rfl) ?_
  refine eqf_cons (by rfl) (by go_simp; rfl) (by go_simp; rfl) (by go_simp) ?_
  exact eqf_last (by rfl) (by go_simp; rfl) (by go_simp; rfl) (by go_simp)

attribute [local go_sem high] eqA34 eqA35
theorem blk_second (W : World) (o o' : Obj) : ((W.alloc o).alloc o').heap[W.heap.size + 1]? = some o' := by
  have := blk_new (W.alloc o) o'
  simpa only [World.size_alloc] using this

/-- The next one, of the sender's beginnings: its two counters, and the error. -/
def nextS (s r : Int) : Int × Int × Int := if s = 4294967295 then (0, 0, 10) else (s + 1, r, 0)
def nextR (s r : Int) : Int × Int × Int := if r = 4294967295 then (0, 0, 10) else (s, r + 1, 0)
def newer (s r s' r' : Int) : Bool := decide (s' < s) || (s == s' && decide (r' < r))
def same2 (s r s' r' : Int) : Bool := s == s' && r == r'
def check (s r s' r' m : Int) : Int := if same2 s r s' r' = true ∧ m = dmark s r then 0 else 16

def Fits (s r : Int) : Prop := 0 ≤ s ∧ s ≤ 4294967295 ∧ 0 ≤ r ∧ r ≤ 4294967295

set_option maxHeartbeats 2000000 in
theorem NextS_calls (s r : Int) (hf : Fits s r) (W : World) (x y z : Int) (h : nextS s r = (x, y, z)) : Calls Try.prog 17 #[.agg #[.int .u32 s, .int .u32 r]] W fun e W' =>
    e = .returned (.tuple #[.agg #[.int .u32 x, .int .u32 y], .int .i64 z]) ∧ Below W.heap.size W W' := by
  obtain ⟨h1, h2, h3, h4⟩ := hf
  unfold nextS at h
  by_cases hc : s = 4294967295
  · rw [if_pos hc] at h
    obtain ⟨rfl, rfl, rfl⟩ : 0 = x ∧ 0 = y ∧ 10 = z := by simpa using h
    have hc' : (s == 4294967295) = true := beq_iff_eq.2 hc
    clear h hc
    go_enter Try.func17, Try.ntmps17
    go_wp2_with (fail)
    refine bodyPost_ret (results_ct rfl _ _ (W.heap.size + 1) 35 #[.int .u32 0, .int .u32 0] (0, 0) _ rfl (blk_second W _ _) Try.underlying35 rfl (by kernel_rfl)) rfl ⟨rfl, ?_⟩
    exact below_alloc (below_alloc (Below.refl _ _) _) _
  · rw [if_neg hc] at h
    obtain ⟨rfl, rfl, rfl⟩ : s + 1 = x ∧ r = y ∧ 0 = z := by simpa using h
    have hc' : (s == 4294967295) = false := beq_eq_false_iff_ne.2 hc
    have hs : s + 1 ≤ 4294967295 := by omega
    clear h
    go_enter Try.func17, Try.ntmps17
    go_wp2_with (fail)
    refine bodyPost_ret (results_ct rfl _ _ (W.heap.size + 1) 35 #[.int .u32 (s + 1), .int .u32 (r)] (0, 0) _ rfl (blk_second W _ _) Try.underlying35 rfl (by kernel_rfl)) rfl ⟨rfl, ?_⟩
    exact below_alloc (below_alloc (Below.refl _ _) _) _

set_option maxHeartbeats 2000000 in
theorem RNextS_calls (s r : Int) (hf : Fits s r) (W : World) (x y z : Int) (h : nextS s r = (x, y, z)) : Calls Try.prog 18 #[.agg #[.int .u32 s, .int .u32 r]] W fun e W' =>
    e = .returned (.tuple #[.agg #[.int .u32 x, .int .u32 y], .int .i64 z]) ∧ Below W.heap.size W W' := by
  obtain ⟨h1, h2, h3, h4⟩ := hf
  unfold nextS at h
  by_cases hc : s = 4294967295
  · rw [if_pos hc] at h
    obtain ⟨rfl, rfl, rfl⟩ : 0 = x ∧ 0 = y ∧ 10 = z := by simpa using h
    have hc' : (s == 4294967295) = true := beq_iff_eq.2 hc
    clear h hc
    go_enter Try.func18, Try.ntmps18
    go_wp2_with (fail)
    refine bodyPost_ret (results_ct rfl _ _ (W.heap.size + 1) 34 #[.int .u32 0, .int .u32 0] (0, 0) _ rfl (blk_second W _ _) Try.underlying34 rfl (by kernel_rfl)) rfl ⟨rfl, ?_⟩
    exact below_alloc (below_alloc (Below.refl _ _) _) _
  · rw [if_neg hc] at h
    obtain ⟨rfl, rfl, rfl⟩ : s + 1 = x ∧ r = y ∧ 0 = z := by simpa using h
    have hc' : (s == 4294967295) = false := beq_eq_false_iff_ne.2 hc
    have hs : s + 1 ≤ 4294967295 := by omega
    clear h
    go_enter Try.func18, Try.ntmps18
    go_wp2_with (fail)
    refine bodyPost_ret (results_ct rfl _ _ (W.heap.size + 1) 34 #[.int .u32 (s + 1), .int .u32 (r)] (0, 0) _ rfl (blk_second W _ _) Try.underlying34 rfl (by kernel_rfl)) rfl ⟨rfl, ?_⟩
    exact below_alloc (below_alloc (Below.refl _ _) _) _

set_option maxHeartbeats 2000000 in
theorem NextR_calls (s r : Int) (hf : Fits s r) (W : World) (x y z : Int) (h : nextR s r = (x, y, z)) : Calls Try.prog 19 #[.agg #[.int .u32 s, .int .u32 r]] W fun e W' =>
    e = .returned (.tuple #[.agg #[.int .u32 x, .int .u32 y], .int .i64 z]) ∧ Below W.heap.size W W' := by
  obtain ⟨h1, h2, h3, h4⟩ := hf
  unfold nextR at h
  by_cases hc : r = 4294967295
  · rw [if_pos hc] at h
    obtain ⟨rfl, rfl, rfl⟩ : 0 = x ∧ 0 = y ∧ 10 = z := by simpa using h
    have hc' : (r == 4294967295) = true := beq_iff_eq.2 hc
    clear h hc
    go_enter Try.func19, Try.ntmps19
    go_wp2_with (fail)
    refine bodyPost_ret (results_ct rfl _ _ (W.heap.size + 1) 35 #[.int .u32 0, .int .u32 0] (0, 0) _ rfl (blk_second W _ _) Try.underlying35 rfl (by kernel_rfl)) rfl ⟨rfl, ?_⟩
    exact below_alloc (below_alloc (Below.refl _ _) _) _
  · rw [if_neg hc] at h
    obtain ⟨rfl, rfl, rfl⟩ : s = x ∧ r + 1 = y ∧ 0 = z := by simpa using h
    have hc' : (r == 4294967295) = false := beq_eq_false_iff_ne.2 hc
    have hs : r + 1 ≤ 4294967295 := by omega
    clear h
    go_enter Try.func19, Try.ntmps19
    go_wp2_with (fail)
    refine bodyPost_ret (results_ct rfl _ _ (W.heap.size + 1) 35 #[.int .u32 (s), .int .u32 (r + 1)] (0, 0) _ rfl (blk_second W _ _) Try.underlying35 rfl (by kernel_rfl)) rfl ⟨rfl, ?_⟩
    exact below_alloc (below_alloc (Below.refl _ _) _) _

set_option maxHeartbeats 2000000 in
theorem RNextR_calls (s r : Int) (hf : Fits s r) (W : World) (x y z : Int) (h : nextR s r = (x, y, z)) : Calls Try.prog 20 #[.agg #[.int .u32 s, .int .u32 r]] W fun e W' =>
    e = .returned (.tuple #[.agg #[.int .u32 x, .int .u32 y], .int .i64 z]) ∧ Below W.heap.size W W' := by
  obtain ⟨h1, h2, h3, h4⟩ := hf
  unfold nextR at h
  by_cases hc : r = 4294967295
  · rw [if_pos hc] at h
    obtain ⟨rfl, rfl, rfl⟩ : 0 = x ∧ 0 = y ∧ 10 = z := by simpa using h
    have hc' : (r == 4294967295) = true := beq_iff_eq.2 hc
    clear h hc
    go_enter Try.func20, Try.ntmps20
    go_wp2_with (fail)
    refine bodyPost_ret (results_ct rfl _ _ (W.heap.size + 1) 34 #[.int .u32 0, .int .u32 0] (0, 0) _ rfl (blk_second W _ _) Try.underlying34 rfl (by kernel_rfl)) rfl ⟨rfl, ?_⟩
    exact below_alloc (below_alloc (Below.refl _ _) _) _
  · rw [if_neg hc] at h
    obtain ⟨rfl, rfl, rfl⟩ : s = x ∧ r + 1 = y ∧ 0 = z := by simpa using h
    have hc' : (r == 4294967295) = false := beq_eq_false_iff_ne.2 hc
    have hs : r + 1 ≤ 4294967295 := by omega
    clear h
    go_enter Try.func20, Try.ntmps20
    go_wp2_with (fail)
    refine bodyPost_ret (results_ct rfl _ _ (W.heap.size + 1) 34 #[.int .u32 (s), .int .u32 (r + 1)] (0, 0) _ rfl (blk_second W _ _) Try.underlying34 rfl (by kernel_rfl)) rfl ⟨rfl, ?_⟩
    exact below_alloc (below_alloc (Below.refl _ _) _) _

set_option maxHeartbeats 2000000 in
theorem Newer_calls (s r s' r' : Int) (W : World) (m : Bool) (h : newer s r s' r' = m) : Calls Try.prog 21 #[.agg #[.int .u32 s, .int .u32 r], .agg #[.int .u32 s', .int .u32 r']] W fun e W' =>
    e = .returned (.bool m) ∧ Below W.heap.size W W' := by
  by_cases h1 : s' < s
  · obtain rfl : true = m := by rw [← h]; simp [newer, h1]
    have h2 : (s == s') = false := beq_eq_false_iff_ne.2 (by omega)
    have h3 : (s != s') = true := bne_iff_ne.2 (by omega)
    clear h
    go_enter Try.func21, Try.ntmps21
    go_wp2_with (fail)
    go_ret
    exact ⟨rfl, below_alloc (below_alloc (Below.refl _ _) _) _⟩
  · by_cases h0 : s = s'
    · subst h0
      obtain rfl : decide (r' < r) = m := by rw [← h]; simp [newer]
      clear h
      go_enter Try.func21, Try.ntmps21
      go_wp2_with (fail)
      go_ret
      exact ⟨rfl, below_alloc (below_alloc (Below.refl _ _) _) _⟩
    · obtain rfl : false = m := by rw [← h]; simp [newer, h0, h1]
      have h2 : (s == s') = false := beq_eq_false_iff_ne.2 h0
      have h3 : (s != s') = true := bne_iff_ne.2 h0
      clear h
      go_enter Try.func21, Try.ntmps21
      go_wp2_with (fail)
      go_ret
      exact ⟨rfl, below_alloc (below_alloc (Below.refl _ _) _) _⟩

set_option maxHeartbeats 2000000 in
theorem RNewer_calls (s r s' r' : Int) (W : World) (m : Bool) (h : newer s r s' r' = m) : Calls Try.prog 22 #[.agg #[.int .u32 s, .int .u32 r], .agg #[.int .u32 s', .int .u32 r']] W fun e W' =>
    e = .returned (.bool m) ∧ Below W.heap.size W W' := by
  by_cases h1 : s' < s
  · obtain rfl : true = m := by rw [← h]; simp [newer, h1]
    have h2 : (s == s') = false := beq_eq_false_iff_ne.2 (by omega)
    have h3 : (s != s') = true := bne_iff_ne.2 (by omega)
    clear h
    go_enter Try.func22, Try.ntmps22
    go_wp2_with (fail)
    go_ret
    exact ⟨rfl, below_alloc (below_alloc (Below.refl _ _) _) _⟩
  · by_cases h0 : s = s'
    · subst h0
      obtain rfl : decide (r' < r) = m := by rw [← h]; simp [newer]
      clear h
      go_enter Try.func22, Try.ntmps22
      go_wp2_with (fail)
      go_ret
      exact ⟨rfl, below_alloc (below_alloc (Below.refl _ _) _) _⟩
    · obtain rfl : false = m := by rw [← h]; simp [newer, h0, h1]
      have h2 : (s == s') = false := beq_eq_false_iff_ne.2 h0
      have h3 : (s != s') = true := bne_iff_ne.2 h0
      clear h
      go_enter Try.func22, Try.ntmps22
      go_wp2_with (fail)
      go_ret
      exact ⟨rfl, below_alloc (below_alloc (Below.refl _ _) _) _⟩

set_option maxHeartbeats 2000000 in
theorem RMark_calls (s r : Int) (hs : 0 ≤ s) (hr : 0 ≤ r) (W : World) : Calls Try.prog 24 #[.agg #[.int .u32 s, .int .u32 r]] W fun e W' => e = .returned (.int .u8 (dmark s r)) ∧ Below W.heap.size W W' := by
  have hm : dmark s r = (s % 4 + r % 4) % 4 := rfl
  go_enter Try.func24, Try.ntmps24
  go_wp2_with (fail)
  go_ret
  exact ⟨by rw [show dmark s r = (s + r) % 4 by unfold dmark; omega]; rfl, below_alloc (Below.refl _ _) _⟩

set_option maxHeartbeats 2000000 in
theorem Check_calls (s r s' r' m : Int) (hf : Fits s r) (W : World) (z : Int) (h : check s r s' r' m = z) : Calls Try.prog 25 #[.agg #[.int .u32 s, .int .u32 r], .agg #[.int .u32 s', .int .u32 r'], .int .u8 m] W fun e W' =>
    e = .returned (.int .i64 z) ∧ Below W.heap.size W W' := by
  obtain ⟨h1, h2, h3, h4⟩ := hf
  cases hs : same2 s r s' r'
  · obtain rfl : 16 = z := by rw [← h]; simp [check, hs]
    have hs' : (s == s' && r == r') = false := hs
    clear h hs
    go_enter Try.func25, Try.ntmps25
    go_wp2_with (fail)
    go_ret
    exact ⟨rfl, below_alloc (below_alloc (Below.refl _ _) _) _⟩
  · have hs' : (s == s' && r == r') = true := hs
    have h' := h
    unfold check at h'
    rw [hs] at h'
    clear h hs
    by_cases hm : m = dmark s r
    · obtain rfl : 0 = z := by rw [← h', if_pos ⟨rfl, hm⟩]
      have hm' : (m != dmark s r) = false := bne_eq_false_iff_eq.2 hm
      clear h' hm
      go_enter Try.func25, Try.ntmps25
      go_wp2_with (fail)
      refine (Mark_calls s r h1 h3 _).mono ?_
      rintro e w1 ⟨rfl, hb⟩
      have HB := Aside0.mk (below_then (below_alloc (below_alloc (Below.refl W.heap.size W) _) _) (by simp; omega) hb)
      clear hb
      go_wp2_with (fail)
      go_ret
      exact ⟨rfl, HB.out⟩
    · obtain rfl : 16 = z := by rw [← h', if_neg (fun h => hm h.2)]
      have hm' : (m != dmark s r) = true := bne_iff_ne.2 hm
      clear h' hm
      go_enter Try.func25, Try.ntmps25
      go_wp2_with (fail)
      refine (Mark_calls s r h1 h3 _).mono ?_
      rintro e w1 ⟨rfl, hb⟩
      have HB := Aside0.mk (below_then (below_alloc (below_alloc (Below.refl W.heap.size W) _) _) (by simp; omega) hb)
      clear hb
      go_wp2_with (fail)
      go_ret
      exact ⟨rfl, HB.out⟩

set_option maxHeartbeats 2000000 in
theorem RCheck_calls (s r s' r' m : Int) (hf : Fits s r) (W : World) (z : Int) (h : check s r s' r' m = z) : Calls Try.prog 26 #[.agg #[.int .u32 s, .int .u32 r], .agg #[.int .u32 s', .int .u32 r'], .int .u8 m] W fun e W' =>
    e = .returned (.int .i64 z) ∧ Below W.heap.size W W' := by
  obtain ⟨h1, h2, h3, h4⟩ := hf
  cases hs : same2 s r s' r'
  · obtain rfl : 16 = z := by rw [← h]; simp [check, hs]
    have hs' : (s == s' && r == r') = false := hs
    clear h hs
    go_enter Try.func26, Try.ntmps26
    go_wp2_with (fail)
    go_ret
    exact ⟨rfl, below_alloc (below_alloc (Below.refl _ _) _) _⟩
  · have hs' : (s == s' && r == r') = true := hs
    have h' := h
    unfold check at h'
    rw [hs] at h'
    clear h hs
    by_cases hm : m = dmark s r
    · obtain rfl : 0 = z := by rw [← h', if_pos ⟨rfl, hm⟩]
      have hm' : (m != dmark s r) = false := bne_eq_false_iff_eq.2 hm
      clear h' hm
      go_enter Try.func26, Try.ntmps26
      go_wp2_with (fail)
      refine (RMark_calls s r h1 h3 _).mono ?_
      rintro e w1 ⟨rfl, hb⟩
      have HB := Aside0.mk (below_then (below_alloc (below_alloc (Below.refl W.heap.size W) _) _) (by simp; omega) hb)
      clear hb
      go_wp2_with (fail)
      go_ret
      exact ⟨rfl, HB.out⟩
    · obtain rfl : 16 = z := by rw [← h', if_neg (fun h => hm h.2)]
      have hm' : (m != dmark s r) = true := bne_iff_ne.2 hm
      clear h' hm
      go_enter Try.func26, Try.ntmps26
      go_wp2_with (fail)
      refine (RMark_calls s r h1 h3 _).mono ?_
      rintro e w1 ⟨rfl, hb⟩
      have HB := Aside0.mk (below_then (below_alloc (below_alloc (Below.refl W.heap.size W) _) _) (by simp; omega) hb)
      clear hb
      go_wp2_with (fail)
      go_ret
      exact ⟨rfl, HB.out⟩

/-- A counter's parts. -/
def pre (i : Nat) : Int := if i = 0 then 1 else if i = 2 then -1 else 0
def pim (i : Nat) : Int := if i = 1 then 1 else if i = 3 then -1 else 0
set_option maxHeartbeats 2000000 in
theorem Parts_calls (n : Int) (h0 : 0 ≤ n) (i : Nat) (hi : i < 4) (hn : n % 4 = i) (W : World) : Calls Try.prog 13 #[.int .u32 n] W fun e W' => e = .returned (.tuple #[.int .i64 (pre i), .int .i64 (pim i)]) ∧ Below W.heap.size W W' := by
  match i, hi, hn with
  | 0, _, hn =>
    have hn' : n % 4 = 0 := by simpa using hn
    clear hn
    go_enter Try.func13, Try.ntmps13
    go_wp2_with (fail)
    go_ret2
    exact ⟨rfl, Below.refl _ _⟩
  | 1, _, hn =>
    have hn' : n % 4 = 1 := by simpa using hn
    clear hn
    go_enter Try.func13, Try.ntmps13
    go_wp2_with (fail)
    go_ret2
    exact ⟨rfl, Below.refl _ _⟩
  | 2, _, hn =>
    have hn' : n % 4 = 2 := by simpa using hn
    clear hn
    go_enter Try.func13, Try.ntmps13
    go_wp2_with (fail)
    go_ret2
    exact ⟨rfl, Below.refl _ _⟩
  | 3, _, hn =>
    have hn' : n % 4 = 3 := by simpa using hn
    clear hn
    go_enter Try.func13, Try.ntmps13
    go_wp2_with (fail)
    go_ret2
    exact ⟨rfl, Below.refl _ _⟩

theorem neg_i : quarterOf 0 13830554455654793216 = (3, true) := by kernel_rfl
theorem eq_neg_i (t : TypeId) (w : World) : (binOp .eql t (C 3) (.complex .f64 0 13830554455654793216)).run Try.prog w = .ok (.bool true) w := by
  rw [show C 3 = .complex .f64 0 13830554455654793216 from rfl, run_eql_complex]
  kernel_rfl
set_option maxHeartbeats 4000000 in
set_option maxRecDepth 100000 in
theorem alive_calls (W : World) : Calls Try.prog 16 #[] W fun e W' => e = .returned (.bool true) ∧ Below W.heap.size W W' := by
  have e3 := eq_neg_i
  have eg : ∀ (x y : Operand) (v : Value) (w : World), (eqGuard .eql 26 x y (C 3) v).run Try.prog w = .ok () w := fun _ _ _ _ => rfl
  have f1 : Fits 1 0 := by unfold Fits; omega
  have HB := Aside0.mk (Below.refl W.heap.size W)
  go_enter Try.func16, Try.ntmps16
  go_wp2_with (fail)
  refine (Quarter_calls 0 13830554455654793216 _ 3 true neg_i).mono ?_
  rintro e w1 ⟨rfl, hb⟩
  have HB := Aside0.mk (below_then HB.out HB.out.size hb)
  clear hb
  go_wp2_with (fail)
  refine (Turn_calls 3 (by omega) 3 (by omega) (by omega) _).mono ?_
  rintro e w2 ⟨rfl, hb⟩
  have HB := Aside0.mk (below_then HB.out HB.out.size hb)
  clear hb
  go_wp2_with (fail)
  refine (Mark_calls 1 2 (by omega) (by omega) _).mono ?_
  rintro e w3 ⟨rfl, hb⟩
  have HB := Aside0.mk (below_then HB.out HB.out.size hb)
  have hm : dmark 1 2 = 3 := by decide
  clear hb
  go_wp2_with (fail)
  refine (Newer_calls 2 0 1 9 _ true (by decide)).mono ?_
  rintro e w4 ⟨rfl, hb⟩
  have HB := Aside0.mk (below_then HB.out HB.out.size hb)
  clear hb
  go_wp2_with (fail)
  refine (Check_calls 1 0 1 0 0 f1 _ 16 (by decide)).mono ?_
  rintro e w5 ⟨rfl, hb⟩
  have HB := Aside0.mk (below_then HB.out HB.out.size hb)
  clear hb
  go_wp2_with (fail)
  go_ret
  exact ⟨rfl, HB.out⟩
end Go.Proofs.Ytlnehjhhkfjggaa.DialB
