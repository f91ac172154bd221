import Derived.Test.YtlnehjhhkfjggaaChkB
import Derived.Lib.ConvBytes
import Derived.Lib.Bytes
import Derived.Deep.RegionWith
namespace Go.Proofs.Ytlnehjhhkfjggaa.ChkC
open Go.RowKit Go.Proofs.YtlnehjhhkfjggaaW.PrintWords Go.Proofs.YtlnehjhhkfjggaaW.PrintMore Go.Proofs.Ytlnehjhhkfjggaa.ChkA Go.Proofs.Ytlnehjhhkfjggaa.ChkB
set_option linter.unusedVariables false
set_option linter.unusedSimpArgs false

theorem reads_string {W : World} {A : Option Addr} {c : Nat} {l : List Int} (h : ReadsInt W .u8 A l.length l) : (convert 57 9 (.slice A l.length c)).run Try.prog W = .ok (.string (strOfNums l)) W :=
  Kd.C_string (P := Try.prog) Try.underlying57 Try.underlying5 Try.underlying9 (Kd.C_of_reads (h1 := fun _ => rfl) (readsInt_of.1 h))
theorem str_eq {a b : List Int} (ha : Byt a) (hb : Byt b) : ((strOfNums a).toList == (strOfNums b).toList) = decide (a = b) := by
  have h1 : ∀ l : List Int, (strOfNums l).toList = l.map fun n => UInt8.ofNat n.toNat := fun l => Lib.strOfNums_toList l
  rw [h1, h1]
  by_cases h : a = b
  · subst h; simp
  · rw [decide_eq_false h]
    refine beq_eq_false_iff_ne.2 fun he => h ?_
    have hl : a.length = b.length := by have := congrArg List.length he; simpa using this
    refine getD_ext hl fun i hi => ?_
    have h2 := congrArg (fun l => l[i]?) he
    simp [List.getElem?_eq_getElem hi, List.getElem?_eq_getElem (show i < b.length by omega)] at h2
    have h3 := congrArg UInt8.toNat h2
    have ha' := ha i
    have hb' := hb i
    simp [List.getD_eq_getElem?_getD, List.getElem?_eq_getElem hi, List.getElem?_eq_getElem (show i < b.length by omega)] at ha' hb' h3 ⊢
    omega

set_option maxHeartbeats 4000000 in
theorem Equal_calls (A : Option Addr) (c : Nat) (a : List Int) (B : Option Addr) (d : Nat) (b : List Int) (W : World) (hr : ReadsInt W .u8 A a.length a) (hs : ReadsInt W .u8 B b.length b) (ha : Byt a) (hb : Byt b) :
    Calls Try.prog 49 #[.slice A a.length c, .slice B b.length d] W fun e W' => e = .returned (.bool (decide (a = b))) ∧ W = W' := by
  have h1 := reads_string (c := c) hr
  have h2 := reads_string (c := d) hs
  have he := Aside0.mk (str_eq ha hb)
  clear hr hs ha hb
  go_enter Try.func49, Try.ntmps49
  go_wp2
  go_ret
  exact ⟨by rw [← he.out]; first | rfl | (simp; done), rfl⟩

/-- Four bytes, the least first. -/
def le (n : Nat) : List Int := [(n % 256 : Nat), (n / 256 % 256 : Nat), (n / 65536 % 256 : Nat), (n / 16777216 % 256 : Nat)]
def leN (n k : Nat) : Array Value := #[.int .u8 (if 0 < k then (n % 256 : Nat) else 0), .int .u8 (if 1 < k then (n / 256 % 256 : Nat) else 0), .int .u8 (if 2 < k then (n / 65536 % 256 : Nat) else 0), .int .u8 (if 3 < k then (n / 16777216 % 256 : Nat) else 0)]

theorem info5 : (Try.prog.info? 5).map (fun i => (i.zero, i.size, i.bytes)) = some (some (.int .u8 0), 1, 1) := by kernel_rfl
theorem leN_zero (n : Nat) : leN n 0 = #[.int .u8 0, .int .u8 0, .int .u8 0, .int .u8 0] := rfl
theorem leN_four (n : Nat) : leN n 4 = (nums .u8 (le n)).toArray := rfl
theorem make4 (W : World) : (Instr.makeSlice 57 (.int .i64 4) (.int .i64 4)).run Try.prog W = .ok (.slice (some ⟨W.heap.size, 0, none⟩) 4 4) (W.alloc (.cells (leN 0 0) 5)) := by
  have h := print_make (P := Try.prog) 57 5 .u8 1 Try.underlying57 info5 (by decide) 4 (by decide) W
  rw [show madeCells #[Value.int .u8 0] 4 = leN 0 0 by kernel_rfl] at h
  exact h

set_option maxHeartbeats 4000000 in
theorem lay_calls (n : Nat) (hn : n < 4294967296) (W : World) :
    Calls Try.prog 50 #[.int .u32 n] W fun e W' => e = .returned (.slice (some ⟨W.heap.size, 0, none⟩) 4 4) ∧ W'.heap[W.heap.size]? = some (.cells (nums .u8 (le n)).toArray 5 (0, 0)) ∧ Below W.heap.size W W' := by
  have hmk := make4
  rw [show leN 0 0 = leN n 0 from rfl] at hmk
  have HG := Aside0.mk (blk_new W (.cells (leN n 0) 5))
  have HB := Aside0.mk (below_alloc (Below.refl W.heap.size W) (.cells (leN n 0) 5))
  obtain ⟨g, hg⟩ : ∃ g, W.heap.size = g := ⟨_, rfl⟩
  have hgs : g < (W.alloc (.cells (leN n 0) 5)).heap.size := by have := blk_lt HG.out; omega
  rw [hg] at HG ⊢
  go_enter Try.func50, Try.ntmps50
  go_wp2_with (fail)
  go_loopg [8] 4 (fun k i w' => ∃ j : Nat, i = .int .i64 j ∧ Aside0 (w'.heap[g]? = some (.cells (leN n j) 5 (0, 0))) ∧ Aside0 (Below W.heap.size W w') ∧ Aside0 (k + j = 4))
  case atStart => exact ⟨0, rfl, HG, HB, ⟨rfl⟩⟩
  case round =>
    clear hmk HG HB
    obtain ⟨j, rfl, HG, HB, HK⟩ := hrel
    have hk := HK.out
    have hgs := blk_lt HG.out
    cases gk with
    | zero =>
      obtain rfl : j = 4 := by omega
      clear hk HK
      go_wp2_with (fail)
      go_ret
      exact ⟨rfl, HG.out, by rw [← hg]; exact HB.out⟩
    | succ k1 =>
      have hf : wr.frozen? ⟨g, j, none⟩ = false := blk_frozen HG.out j
      have hcell := blk_cell HG.out j
      have hj : j < 4 := by omega
      rcases j with _ | _ | _ | _ | j
      · simp [leN] at hcell
        go_wp2_with (fail)
        go_roundg k1
        case measure => omega
        case rel => exact ⟨1, rfl, ⟨blk_put HG.out 0 _ (by simp [leN] <;> omega)⟩, ⟨below_set HB.out (Nat.le_of_eq hg)⟩, ⟨by omega⟩⟩
      · simp [leN] at hcell
        go_wp2_with (fail)
        go_roundg k1
        case measure => omega
        case rel => exact ⟨2, rfl, ⟨blk_put HG.out 1 _ (by simp [leN] <;> omega)⟩, ⟨below_set HB.out (Nat.le_of_eq hg)⟩, ⟨by omega⟩⟩
      · simp [leN] at hcell
        go_wp2_with (fail)
        go_roundg k1
        case measure => omega
        case rel => exact ⟨3, rfl, ⟨blk_put HG.out 2 _ (by simp [leN] <;> omega)⟩, ⟨below_set HB.out (Nat.le_of_eq hg)⟩, ⟨by omega⟩⟩
      · simp [leN] at hcell
        go_wp2_with (fail)
        go_roundg k1
        case measure => omega
        case rel => exact ⟨4, rfl, ⟨blk_put HG.out 3 _ (by simp [leN] <;> omega)⟩, ⟨below_set HB.out (Nat.le_of_eq hg)⟩, ⟨by omega⟩⟩
      · omega

/-! ### Clone, the nil slice too -/
theorem nilq (W : World) (A : Option Addr) (n c : Nat) : (binOp .eql 57 (.slice A n c) (.slice none 0 0)).run Try.prog W = .ok (.bool A.isNone) W := Lib.run_eql_slice_nil W 57 5 A n c 0 0 Try.underlying57

set_option maxHeartbeats 4000000 in
theorem Clone_calls (A : Option Addr) (c : Nat) (l : List Int) (W : World) (hr : ReadsInt W .u8 A l.length l) (hl : l.length ≤ 1000000) :
    Calls Try.prog 51 #[.slice A l.length c] W fun e W' => ∃ v, e = .returned v ∧ W'.ownsRow W.heap.size 5 1 v l.length (nums .u8 l) ∧ Below W.heap.size W W' := by
  have hq := nilq
  rcases A with _ | ad
  · have h0 : l.length = 0 := by
      rcases Nat.eq_zero_or_pos l.length with h | h
      · exact h
      · obtain ⟨ad, h, _⟩ := hr.2.2 h
        cases h
    obtain rfl : l = [] := List.eq_nil_of_length_eq_zero h0
    clear hr hl
    go_enter Try.func51, Try.ntmps51
    go_wp2_with (fail)
    go_ret
    exact ⟨_, rfl, own_nil W _ 5 1, Below.refl _ _⟩
  · have HR := Aside0.mk hr
    clear hr
    go_enter Try.func51, Try.ntmps51
    go_wp2_with (at_builtin; refine print_append_row (w0 := W) W.heap.size rfl (.tmp 5) (.tmp 6) 57 5 .u8 1 rfl Try.underlying57 info5 (by decide) (.slice (some ⟨W.heap.size, 0, none⟩) 0 0) [] l (some ad) l.length c rfl rfl ?aO ?aR ?aB ?aS ?aL ?_)
    case aO => exact own_lit W W.heap.size 5 .u8 [] (Nat.le_refl _) (by simp)
    case aR => exact HR.out.allocS _
    case aB => exact below_alloc (Below.refl _ _) _
    case aS => simp
    case aL => simp; omega
    rintro v1 w1 hown hb hg hat
    clear hg hat
    have HO := Aside0.mk hown
    have HB := Aside0.mk hb
    clear hown hb
    go_wp2_with (fail)
    go_ret
    exact ⟨_, rfl, HO.out, HB.out⟩

/-- Seal: the bytes and their sum. -/
def sealed (l : List Int) : List Int := l ++ le (sum l)

set_option maxHeartbeats 4000000 in
theorem Seal_calls (A : Option Addr) (c : Nat) (l : List Int) (W : World) (hr : ReadsInt W .u8 A l.length l) (hB : Byt l) (hc : l.length ≤ c) (hl : l.length ≤ 100000) :
    Calls Try.prog 39 #[.slice A l.length c] W fun e W' => ∃ v, e = .returned v ∧ W'.ownsRow W.heap.size 5 1 v (sealed l).length (nums .u8 (sealed l)) ∧ Below W.heap.size W W' := by
  have HR := Aside0.mk hr
  have HBy := Aside0.mk hB
  clear hr hB
  go_enter Try.func39, Try.ntmps39
  go_wp2_with (fail)
  refine (Clone_calls A c l _ HR.out (by omega)).mono ?_
  rintro e w1 ⟨v1, rfl, hown, hb1⟩
  have HO := Aside0.mk hown
  have HB := Aside0.mk hb1
  clear hown hb1
  go_wp2_with (fail)
  refine (Sum_calls A c l _ (HR.out.below HB.out) HBy.out hc).mono ?_
  rintro e w2 ⟨rfl, hb2⟩
  have HO := Aside0.mk (pw_own_below HO.out hb2)
  have hs := HB.out.size
  have HB := Aside0.mk (below_then HB.out hs hb2)
  go_wp2_with (fail)
  refine (lay_calls (sum l) (sum_lt l) _).mono ?_
  rintro e w3 ⟨rfl, hg, hb3⟩
  have HO := Aside0.mk (pw_own_below HO.out hb3)
  have hs2 := HB.out.size
  have HB := Aside0.mk (below_then HB.out hs2 hb3)
  have hr4 : ReadsInt w3 .u8 (some ⟨w2.heap.size, 0, none⟩) 4 (le (sum l)) := ⟨rfl, by decide, fun _ => ⟨_, rfl, fun j hj => by
    rw [add_plain, blk_cell hg j]
    rcases j with _ | _ | _ | _ | j <;> first | rfl | omega⟩⟩
  have hs3 := HB.out.size
  have HR4 := Aside0.mk hr4
  clear hb2 hs hb3 hs2 hg hr4
  go_wp2_with (at_builtin; refine print_append_row (w0 := W) W.heap.size rfl (.tmp 4) (.tmp 7) 57 5 .u8 1 rfl Try.underlying57 info5 (by decide) v1 l (le (sum l)) (some ⟨w2.heap.size, 0, none⟩) 4 4 rfl rfl ?aO ?aR ?aB ?aS ?aL ?_)
  case aO => exact HO.out
  case aR => exact HR4.out
  case aB => exact HB.out
  case aS => exact hs3
  case aL => simp; omega
  rintro v2 w4 hown hb hg hat
  clear hg hat
  have HO : Aside0 (w4.ownsRow W.heap.size 5 1 v2 (sealed l).length (nums .u8 (sealed l))) := ⟨by simp only [sealed, List.length_append]; exact hown⟩
  have HB := Aside0.mk hb
  clear hown hb
  go_wp2_with (fail)
  go_ret
  exact ⟨_, rfl, HO.out, HB.out⟩

theorem reads4 (n : Nat) (hn : n < 4294967296) (w : World) (o : Obj) (h : o = .cells #[.int .u8 ((n : Int) % 256), .int .u8 ((n : Int) / 256 % 256), .int .u8 ((n : Int) / 65536 % 256), .int .u8 ((n : Int) / 16777216)] 5) :
    ReadsInt (w.alloc o) .u8 (some ⟨w.heap.size, 0, none⟩) 4 (le n) := by
  subst h
  refine ⟨rfl, by decide, fun _ => ⟨_, rfl, fun j hj => ?_⟩⟩
  rw [add_plain, blk_cell (blk_new w (.cells _ 5)) j]
  have h3 : (n : Int) / 16777216 = ((n / 16777216 % 256 : Nat) : Int) := by omega
  rcases j with _ | _ | _ | _ | j <;> first | (simp [le]; done) | (simp [le]; omega) | omega
set_option maxHeartbeats 4000000 in
theorem RSeal_calls (A : Option Addr) (c : Nat) (l : List Int) (W : World) (hr : ReadsInt W .u8 A l.length l) (hB : Byt l) (hc : l.length ≤ c) (hl : l.length ≤ 100000) :
    Calls Try.prog 40 #[.slice A l.length c] W fun e W' => ∃ v, e = .returned v ∧ W'.ownsRow W.heap.size 5 1 v (sealed l).length (nums .u8 (sealed l)) ∧ Below W.heap.size W W' := by
  have HR := Aside0.mk hr
  have HBy := Aside0.mk hB
  clear hr hB
  go_enter Try.func40, Try.ntmps40
  go_wp2_with (fail)
  refine (RSum_calls A c l _ HR.out HBy.out hc).mono ?_
  rintro e w1 ⟨rfl, rfl⟩
  have hn := sum_lt l
  obtain ⟨n, hnn⟩ : ∃ n, sum l = n := ⟨_, rfl⟩
  have HN := Aside0.mk hnn
  rw [hnn] at hn ⊢
  clear hnn
  go_wp2_with (at_builtin; refine print_append_row (w0 := W) W.heap.size rfl (.const (.slice none 0 0)) (.tmp 6) 57 5 .u8 1 rfl Try.underlying57 info5 (by decide) (.slice none 0 0) [] l A l.length c rfl rfl ?aO ?aR ?aB ?aS ?aL ?_)
  case aO => exact own_nil W _ 5 1
  case aR => exact HR.out
  case aB => exact Below.refl _ _
  case aS => simp
  case aL => simp; omega
  rintro v1 w1 hown hb hg hat
  clear hg hat
  have HO := Aside0.mk hown
  have hs := hb.size
  have HB := Aside0.mk hb
  clear hown hb
  go_wp2_with (at_builtin; refine print_append_row (w0 := W) W.heap.size rfl (.tmp 7) (.tmp 22) 57 5 .u8 1 rfl Try.underlying57 info5 (by decide) v1 l (le n) (some ⟨w1.heap.size, 0, none⟩) 4 4 rfl rfl ?aO ?aR ?aB ?aS ?aL ?_)
  case aO => exact pw_own_below HO.out (below_alloc (Below.refl _ _) _)
  case aR => exact reads4 n hn w1 _ (by first | rfl | (congr 1; simp; omega))
  case aB => exact below_then HB.out hs (below_alloc (Below.refl _ _) _)
  case aS => simp; omega
  case aL => simp; omega
  rintro v2 w4 hown hb hg hat
  clear hg hat
  have HO : Aside0 (w4.ownsRow W.heap.size 5 1 v2 (sealed l).length (nums .u8 (sealed l))) := ⟨by simp only [sealed, List.length_append, HN.out]; exact hown⟩
  have HB := Aside0.mk hb
  clear hown hb
  go_wp2_with (fail)
  go_ret
  exact ⟨_, rfl, HO.out, HB.out⟩

/-! ### The same, the length a letter -/
theorem RSum_n (A : Option Addr) (n c : Nat) (l : List Int) (W : World) (hr : ReadsInt W .u8 A n l) (hB : Byt l) (hc : n ≤ c) : Calls Try.prog 33 #[.slice A n c] W fun e W' => e = .returned (.int .u32 (sum l)) ∧ W = W' := by
  obtain rfl := hr.1
  exact RSum_calls A c l W hr hB hc
theorem Sum_n (A : Option Addr) (n c : Nat) (l : List Int) (W : World) (hr : ReadsInt W .u8 A n l) (hB : Byt l) (hc : n ≤ c) : Calls Try.prog 32 #[.slice A n c] W fun e W' => e = .returned (.int .u32 (sum l)) ∧ Below W.heap.size W W' := by
  obtain rfl := hr.1
  exact Sum_calls A c l W hr hB hc
theorem Equal_n (A : Option Addr) (n c : Nat) (a : List Int) (B : Option Addr) (m d : Nat) (b : List Int) (W : World) (hr : ReadsInt W .u8 A n a) (hs : ReadsInt W .u8 B m b) (ha : Byt a) (hb : Byt b) :
    Calls Try.prog 49 #[.slice A n c, .slice B m d] W fun e W' => e = .returned (.bool (decide (a = b))) ∧ W = W' := by
  obtain rfl := hr.1
  obtain rfl := hs.1
  exact Equal_calls A c a B d b W hr hs ha hb
theorem Same_n (A : Option Addr) (n c : Nat) (a : List Int) (B : Option Addr) (m d : Nat) (b : List Int) (W : World) (hr : ReadsInt W .u8 A n a) (hc : n ≤ c) (hs : ReadsInt W .u8 B m b) (hd : m ≤ d) :
    Calls Try.prog 38 #[.slice A n c, .slice B m d] W fun e W' => e = .returned (.bool (decide (a = b))) ∧ Below W.heap.size W W' := by
  obtain rfl := hr.1
  obtain rfl := hs.1
  exact Same_calls A c a B d b W hr hc hs hd
theorem Clone_n (A : Option Addr) (n c : Nat) (l : List Int) (W : World) (hr : ReadsInt W .u8 A n l) (hl : n ≤ 1000000) :
    Calls Try.prog 51 #[.slice A n c] W fun e W' => ∃ v, e = .returned v ∧ W'.ownsRow W.heap.size 5 1 v l.length (nums .u8 l) ∧ Below W.heap.size W W' := by
  obtain rfl := hr.1
  exact Clone_calls A c l W hr hl
/-- lay's row, read. -/
theorem reads_lay {w : World} {g n : Nat} (hg : w.heap[g]? = some (.cells (nums .u8 (le n)).toArray 5 (0, 0))) : ReadsInt w .u8 (some ⟨g, 0, none⟩) 4 (le n) := ⟨rfl, by decide, fun _ => ⟨_, rfl, fun j hj => by
    rw [add_plain, blk_cell hg j]
    rcases j with _ | _ | _ | _ | j <;> first | rfl | omega⟩⟩
end Go.Proofs.Ytlnehjhhkfjggaa.ChkC
