import Derived.Test.YtlnehjhhkfjggaaChkA
import Derived.Laws.Slices
import Derived.OwnWalk
import Derived.Lib.SliceRun
namespace Go.Proofs.Ytlnehjhhkfjggaa.ChkB
open Go.RowKit Go.Proofs.YtlnehjhhkfjggaaW.PrintWords Go.Proofs.YtlnehjhhkfjggaaW.PrintMore Go.Proofs.Ytlnehjhhkfjggaa.ChkA
set_option linter.unusedVariables false
set_option linter.unusedSimpArgs false

/-- Every element is a byte. -/
def Byt (l : List Int) : Prop := ∀ i : Nat, 0 ≤ l.getD i 0 ∧ l.getD i 0 < 256
def feed (r : Nat) (l : List Int) : Nat := l.foldl (fun r x => crc r x.toNat) r
def sum (l : List Int) : Nat := 4294967295 - feed 4294967295 l
theorem stN_lt : ∀ n {x : Nat}, x < 4294967296 → stN n x < 4294967296
  | 0, _, h => h
  | n + 1, _, h => stN_lt n (st_lt h)
theorem crc_lt {r c : Nat} (hr : r < 4294967296) (hc : c < 256) : crc r c < 4294967296 := stN_lt 8 (Nat.xor_lt_two_pow (n := 32) hr (by omega))
theorem Byt.take {l : List Int} (h : Byt l) (n : Nat) : Byt (l.take n) := by
  intro i
  by_cases hi : i < n
  · rw [show (l.take n).getD i 0 = l.getD i 0 by simp [List.getD_eq_getElem?_getD, hi]]; exact h i
  · rw [show (l.take n).getD i 0 = 0 by simp [List.getD_eq_getElem?_getD, List.getElem?_take, hi]]; omega
theorem feed_succ (r : Nat) (l : List Int) (i : Nat) (hi : i < l.length) : feed r (l.take (i + 1)) = crc (feed r (l.take i)) (l.getD i 0).toNat := by
  have h : l.take (i + 1) = l.take i ++ [l.getD i 0] := by
    rw [List.take_add_one]; simp [List.getD_eq_getElem?_getD, List.getElem?_eq_getElem hi]
  rw [h, feed, List.foldl_append]; rfl
theorem feed_lt' (r : Nat) (hr : r < 4294967296) (l : List Int) (h : Byt l) : ∀ n, n ≤ l.length → feed r (l.take n) < 4294967296
  | 0, _ => by simpa [feed] using hr
  | n + 1, hn => by
    rw [feed_succ r l n (by omega)]
    exact crc_lt (feed_lt' r hr l h n (by omega)) (by have := h n; omega)
theorem feed_lt (r : Nat) (hr : r < 4294967296) (l : List Int) (h : Byt l) : feed r l < 4294967296 := by
  have := feed_lt' r hr l h l.length (Nat.le_refl _)
  rwa [List.take_length] at this
theorem sum_lt (l : List Int) : sum l < 4294967296 := by unfold sum; omega

/-- Where a feeding stands. -/
def At (r : Nat) (l : List Int) (i x : Nat) : Prop := x < 4294967296 ∧ x = feed r (l.take i)
theorem At.start (r : Nat) (hr : r < 4294967296) (l : List Int) : At r l 0 r := ⟨hr, rfl⟩
theorem At.next {r : Nat} {l : List Int} (hB : Byt l) {i x c : Nat} (h : At r l i x) (hi : i < l.length) (hc : (l.getD i 0) = (c : Int)) : At r l (i + 1) (crc x c) := by
  have hb := hB i
  obtain ⟨h1, rfl⟩ := h
  refine ⟨crc_lt h1 (by omega), ?_⟩
  rw [feed_succ _ _ _ hi, hc]; rfl
theorem At.done {r : Nat} {l : List Int} {i x : Nat} (h : At r l i x) (hi : ¬ i < l.length) : x = feed r l := by
  rw [h.2, List.take_of_length_le (by omega)]
/-- A slice of slices that is read. -/
def ReadsS (w : World) (A : Option Addr) (n : Nat) (L : List (List Int)) : Prop :=
  L.length = n ∧ n ≤ 9223372036854775807 ∧ ∀ j, j < n → ∃ ad, A = some ad ∧ ∃ A' c', w.cell? (ad.add j) = some (.slice A' (L.getD j []).length c') ∧ (L.getD j []).length ≤ c' ∧ ReadsInt w .u8 A' (L.getD j []).length (L.getD j [])
theorem feed_append (r : Nat) (a b : List Int) : feed r (a ++ b) = feed (feed r a) b := List.foldl_append ..
/-- Where the feeding of many stands. -/
def AtS (L : List (List Int)) (i x : Nat) : Prop := x < 4294967296 ∧ x = feed 4294967295 (L.take i).flatten
theorem AtS.next {L : List (List Int)} {i x : Nat} (h : AtS L i x) (hi : i < L.length) (hB : Byt (L.getD i [])) : AtS L (i + 1) (feed x (L.getD i [])) := by
  obtain ⟨h1, rfl⟩ := h
  refine ⟨feed_lt _ h1 _ hB, ?_⟩
  have h : L.take (i + 1) = L.take i ++ [L.getD i []] := by
    rw [List.take_add_one]; simp [List.getD_eq_getElem?_getD, List.getElem?_eq_getElem hi]
  rw [h, List.flatten_append, feed_append]; simp
theorem AtS.done {L : List (List Int)} {i x : Nat} (h : AtS L i x) (hi : ¬ i < L.length) : 4294967295 - x = sum L.flatten := by
  rw [h.2, List.take_of_length_le (by omega)]; rfl

set_option maxHeartbeats 2000000 in
theorem RSum_calls (A : Option Addr) (c : Nat) (l : List Int) (W : World) (hr : ReadsInt W .u8 A l.length l) (hB : Byt l) (hc : l.length ≤ c) : Calls Try.prog 33 #[.slice A l.length c] W fun e W' => e = .returned (.int .u32 (sum l)) ∧ W = W' := by
  have hmx := hr.2.1
  have HR := Aside0.mk hr
  have HB := Aside0.mk hB
  clear hr hB
  go_enter Try.func33, Try.ntmps33
  go_wp2
  go_loop [3, 4] (fun v i => ∃ k x : Nat, k ≤ l.length ∧ v = .int .u32 x ∧ i = .int .i64 k ∧ Aside0 (At 4294967295 l k x)) (fun _ i => l.length - (intOf i).toNat)
  case atStart => exact ⟨0, 4294967295, by omega, rfl, rfl, ⟨At.start _ (by decide) l⟩⟩
  case round =>
    obtain ⟨k, x, hk, rfl, rfl, HM⟩ := hrel
    by_cases hlt : k < l.length
    · obtain ⟨ad, rfl, hcell⟩ := HR.out.at_ k (by omega) (by omega)
      have hb := HB.out k
      obtain ⟨b, hbb⟩ : ∃ b : Nat, l.getD k 0 = (b : Int) := ⟨(l.getD k 0).toNat, by omega⟩
      have HN := Aside0.mk (HM.out.next HB.out hlt hbb)
      rw [show rd l k = l.getD k 0 from rfl, hbb, Int.toNat_natCast] at hcell
      rw [hbb] at hb
      have hx := HM.out.1
      have hb2 : b < 256 := by omega
      clear hb hbb HM
      go_wp2_with (fail)
      refine (RStep_calls x b hx hb2 _).mono ?_
      rintro e w1 ⟨rfl, rfl⟩
      generalize crc x b = y at *
      go_wp2
      go_round
      case rel => exact ⟨k + 1, y, by omega, rfl, by go_num, HN⟩
      case measure => simp [intOf]; omega
    · have hd : 4294967295 - x = sum l := by rw [HM.out.done hlt]; rfl
      have hx := HM.out.1
      obtain ⟨s, hs0⟩ : ∃ s : Nat, sum l = s := ⟨_, rfl⟩
      rw [hs0] at hd
      have hs : (4294967295 : Int) - (x : Int) = (s : Int) := by omega
      have HS := Aside0.mk hs0
      clear HM hd hs0
      go_wp2
      go_ret
      exact ⟨by rw [HS.out]; rfl, rfl⟩

theorem xor_all (x : Nat) (hx : x < 4294967296) : 4294967295 ^^^ x = 4294967295 - x := by
  have h := BitVec.toNat_not (x := BitVec.ofNat 32 x)
  rw [BitVec.not_def, BitVec.toNat_xor, BitVec.toNat_allOnes, BitVec.toNat_ofNat, Nat.mod_eq_of_lt hx] at h
  exact h
theorem compl_u32 (x : Nat) (hx : x < 4294967296) : bits .xor .u32 IntKind.u32.max (x : Int) = 4294967295 - (x : Int) := by
  have h := xor_u32 4294967295 x (by decide) hx
  rw [xor_all x hx] at h
  rw [show IntKind.u32.max = ((4294967295 : Nat) : Int) from rfl, h]
  omega

set_option maxHeartbeats 4000000 in
theorem Of_calls (A : Option Addr) (c : Nat) (L : List (List Int)) (W : World) (hr : ReadsS W A L.length L) (hB : ∀ j, Byt (L.getD j [])) (hc : L.length ≤ c) : Calls Try.prog 41 #[.slice A L.length c] W fun e W' => e = .returned (.int .u32 (sum L.flatten)) ∧ W = W' := by
  have hmx := hr.2.1
  have HR := Aside0.mk hr
  have HB := Aside0.mk hB
  clear hr hB
  go_enter Try.func41, Try.ntmps41
  go_wp2
  go_loop [3, 10] (fun v i => ∃ k x : Nat, k ≤ L.length ∧ v = .int .u32 x ∧ i = .int .i64 k ∧ Aside0 (AtS L k x)) (fun _ i => L.length - (intOf i).toNat)
  case atStart => exact ⟨0, 4294967295, by omega, rfl, rfl, ⟨by decide, rfl⟩⟩
  case round =>
    obtain ⟨k, x, hk, rfl, rfl, HM⟩ := hrel
    by_cases hlt : k < L.length
    · obtain ⟨ad, rfl, A', c', hcell, hc', hrd⟩ := HR.out.2.2 k hlt
      have HN := Aside0.mk (HM.out.next hlt (HB.out k))
      have HBl := Aside0.mk (HB.out k)
      have hx := HM.out.1
      have HS := Aside0.mk (At.start x hx (L.getD k []))
      have hml := hrd.2.1
      have HRl := Aside0.mk hrd
      clear HM hrd
      generalize L.getD k [] = l at *
      go_wp2_with (fail)
      go_loop [3, 16] (fun v i => ∃ j y : Nat, j ≤ l.length ∧ v = .int .u32 y ∧ i = .int .i64 j ∧ Aside0 (At x l j y)) (fun _ i => l.length - (intOf i).toNat)
      case atStart => exact ⟨0, x, by omega, rfl, rfl, HS⟩
      case round =>
        obtain ⟨j, y, hj, rfl, rfl, HM⟩ := hrel
        by_cases hlj : j < l.length
        · obtain ⟨ad', rfl, hcell'⟩ := HRl.out.at_ j (by omega) (by omega)
          have hb := HBl.out j
          obtain ⟨b, hbb⟩ : ∃ b : Nat, l.getD j 0 = (b : Int) := ⟨(l.getD j 0).toNat, by omega⟩
          have HN' := Aside0.mk (HM.out.next HBl.out hlj hbb)
          rw [show rd l j = l.getD j 0 from rfl, hbb, Int.toNat_natCast] at hcell'
          rw [hbb] at hb
          have hy := HM.out.1
          have hb2 : b < 256 := by omega
          clear hb hbb HM
          go_wp2_with (fail)
          refine (Step_calls y b hy hb2 _).mono ?_
          rintro e w1 ⟨rfl, rfl⟩
          generalize crc y b = z at *
          go_wp2
          go_round
          case rel => exact ⟨j + 1, z, by omega, rfl, by go_num, HN'⟩
          case measure => simp [intOf]; omega
        · have hy := HM.out.done hlj
          rw [← hy] at HN
          clear HM hy
          go_wp2
          go_round
          case rel => exact ⟨k + 1, y, by omega, rfl, by go_num, HN⟩
          case measure => simp [intOf]; omega
    · have hd := HM.out.done hlt
      have hx := HM.out.1
      obtain ⟨s, hs0⟩ : ∃ s : Nat, sum L.flatten = s := ⟨_, rfl⟩
      rw [hs0] at hd
      have hs : (4294967295 : Int) - (x : Int) = (s : Int) := by omega
      have HS := Aside0.mk hs0
      clear HM hd hs0
      have hcm := (compl_u32 x hx).trans hs
      go_wp2_with (fail)
      go_ret
      refine ⟨?_, rfl⟩
      rw [HS.out]
      simp

/-- The row of one slice. -/
theorem reads_one (W : World) (A : Option Addr) (c : Nat) (l : List Int) (hr : ReadsInt W .u8 A l.length l) (hc : l.length ≤ c) :
    ReadsS (W.alloc (.cells #[.slice A l.length c] 57)) (some ⟨W.heap.size, 0, none⟩) ([l] : List (List Int)).length [l] := by
  refine ⟨rfl, by simp, fun j hj => ⟨_, rfl, ?_⟩⟩
  have : j = 0 := by simp at hj; omega
  subst this
  refine ⟨A, c, ?_, hc, ?_⟩
  · exact (congrArg _ (add_plain _ _)).trans (blk_cell (blk_new W (.cells #[.slice A l.length c] 57)) 0)
  · exact hr.below (below_alloc (Below.refl _ _) _)

set_option maxHeartbeats 4000000 in
theorem Sum_calls (A : Option Addr) (c : Nat) (l : List Int) (W : World) (hr : ReadsInt W .u8 A l.length l) (hB : Byt l) (hc : l.length ≤ c) : Calls Try.prog 32 #[.slice A l.length c] W fun e W' => e = .returned (.int .u32 (sum l)) ∧ Below W.heap.size W W' := by
  have H := reads_one W A c l hr hc
  have HB : ∀ j, Byt (([l] : List (List Int)).getD j []) := by
    intro j
    rcases j with _ | j
    · exact hB
    · intro i; simp
  have HC := fun cc hcc => Of_calls (some ⟨W.heap.size, 0, none⟩) cc [l] _ H HB hcc
  have HC2 := Aside0.mk HC
  clear H HB HC hr hB
  go_enter Try.func32, Try.ntmps32
  go_wp2_with (fail)
  refine (HC2.out 1 (by simp)).mono ?_
  rintro e w1 ⟨rfl, rfl⟩
  rw [show ([l] : List (List Int)).flatten = l by simp]
  go_wp2
  go_ret
  exact ⟨rfl, below_alloc (Below.refl _ _) _⟩

/-! ### Same -/
theorem getD_ext {a b : List Int} (hl : a.length = b.length) (h : ∀ i, i < a.length → a.getD i 0 = b.getD i 0) : a = b := by
  apply List.ext_getElem hl
  intro i h1 h2
  have := h i h1
  simpa [List.getD_eq_getElem?_getD, List.getElem?_eq_getElem h1, List.getElem?_eq_getElem h2] using this

set_option maxHeartbeats 4000000 in
theorem Same_calls (A : Option Addr) (c : Nat) (a : List Int) (B : Option Addr) (d : Nat) (b : List Int) (W : World) (hr : ReadsInt W .u8 A a.length a) (hc : a.length ≤ c) (hs : ReadsInt W .u8 B b.length b) (hd : b.length ≤ d) :
    Calls Try.prog 38 #[.slice A a.length c, .slice B b.length d] W fun e W' => e = .returned (.bool (decide (a = b))) ∧ Below W.heap.size W W' := by
  have hmx := hr.2.1
  have hmy := hs.2.1
  have HR := Aside0.mk hr
  have HS := Aside0.mk hs
  clear hr hs
  by_cases hl : a.length = b.length
  · go_enter Try.func38, Try.ntmps38
    go_wp2
    repeat (go_quiet (fail); try go_wp2)
    go_loopg [5] a.length (fun k i w' => ∃ j : Nat, i = .int .i64 j ∧ Aside0 (∀ q, q < j → a.getD q 0 = b.getD q 0) ∧ Drawn0 W w' ∧ Aside0 (k + j = a.length))
    case atStart => exact ⟨0, rfl, ⟨fun q hq => absurd hq (by omega)⟩, by repeat (first | exact Drawn0.refl _ | apply Drawn0.step), ⟨by omega⟩⟩
    case round =>
      obtain ⟨j, rfl, HE, ⟨m1, rfl⟩, HK⟩ := hrel
      have hk := HK.out
      cases gk with
      | zero =>
        have hj : j = a.length := by omega
        subst hj
        have he : a = b := getD_ext hl (fun q hq => HE.out q hq)
        have HE := Aside0.mk he
        clear he hk HK
        go_wp2
        repeat (go_quiet (fail); try go_wp2)
        go_ret
        exact ⟨by rw [decide_eq_true HE.out]; rfl, Drawn0.below (by repeat (first | exact Drawn0.refl _ | apply Drawn0.step))⟩
      | succ k1 =>
        have hja : j < a.length := by omega
        have hjb : j < b.length := by omega
        obtain ⟨ad, rfl, hcell⟩ := HR.out.at_ j (by omega) (by omega)
        obtain ⟨ad', rfl, hcell'⟩ := HS.out.at_ j (by omega) (by omega)
        obtain ⟨x, hx⟩ : ∃ x, a.getD j 0 = x := ⟨_, rfl⟩
        obtain ⟨y, hy⟩ : ∃ y, b.getD j 0 = y := ⟨_, rfl⟩
        rw [show rd a j = a.getD j 0 from rfl, hx, Int.toNat_natCast] at hcell
        rw [show rd b j = b.getD j 0 from rfl, hy, Int.toNat_natCast] at hcell'
        by_cases hxy : x = y
        · have HN : Aside0 (∀ q, q < j + 1 → a.getD q 0 = b.getD q 0) := ⟨fun q hq => by
            rcases Nat.lt_or_ge q j with h | h
            · exact HE.out q h
            · obtain rfl : q = j := by omega
              rw [hx, hy, hxy]⟩
          have hne : (x != y) = false := bne_eq_false_iff_eq.mpr hxy
          clear hx hy hxy HE hk
          go_wp2
          repeat (go_quiet (fail); try go_wp2)
          go_roundg k1
          case measure => omega
          case rel => exact ⟨j + 1, by go_num, HN, by repeat (first | exact Drawn0.refl _ | apply Drawn0.step), ⟨by have := HK.out; omega⟩⟩
        · have hne : (x != y) = true := bne_iff_ne.mpr hxy
          have HD : Aside0 (¬ a = b) := ⟨fun h => hxy (by rw [← hx, ← hy, h])⟩
          clear hx hy hxy HE hk HK
          go_wp2
          repeat (go_quiet (fail); try go_wp2)
          go_ret
          exact ⟨by rw [decide_eq_false HD.out]; rfl, Drawn0.below (by repeat (first | exact Drawn0.refl _ | apply Drawn0.step))⟩
  · have he : decide (a = b) = false := decide_eq_false (fun h => hl (by rw [h]))
    rw [he]
    have hl2 : ¬ ((a.length : Int) = (b.length : Int)) := by omega
    go_enter Try.func38, Try.ntmps38
    go_wp2
    repeat (go_quiet (fail); try go_wp2)
    go_ret
    exact ⟨rfl, by first | exact Below.refl _ _ | exact pw_below_drewN (Below.refl _ _) _⟩
end Go.Proofs.Ytlnehjhhkfjggaa.ChkB
