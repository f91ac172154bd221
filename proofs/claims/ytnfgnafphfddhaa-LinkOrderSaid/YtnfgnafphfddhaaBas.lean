-- A base text: printed by wip/tools/mkbase.py out of this repo's own texts (Check).
import Derived.Test.YtnfgnafphfddhaaProg
import Derived.Below
import Derived.Carry
import Derived.WalkKit
import Derived.KernelRfl
import Derived.RowKit3
import Derived.Outline
import Derived.Deep.LoopGhost
import Derived.Deep.RegionHeld3
import Derived.Deep.QuietTactic
import Derived.BigQuiet
import Derived.WalkSpells
import Derived.Test.YtnfgnafphfddhaaWWords
import Derived.Test.YtnfgnafphfddhaaWMore
import Derived.Laws.Slices
import Derived.OwnWalk
import Derived.Lib.SliceRun
import Derived.Lib.ConvBytes
import Derived.Lib.Bytes
import Derived.Lib.SlBytesConst
import Derived.Deep.RegionWith
import Derived.Deep.RegionLaw
import Derived.Deep.DeepCutAuto
import Derived.Deep.Matrix
import Derived.Laws.IdiomArrays
import Derived.Lib.SmallJoins
namespace Go.Proofs.Ytnfgnafphfddhaa.Bas
open Go.RowKit Go.Proofs.YtnfgnafphfddhaaW.PrintWords Go.Proofs.YtnfgnafphfddhaaW.PrintMore
set_option linter.unusedVariables false
set_option linter.unusedSimpArgs false

/-- Every element is a byte. -/
def Byt (l : List Int) : Prop := ∀ i : Nat, 0 ≤ l.getD i 0 ∧ l.getD i 0 < 256
theorem Byt.take {l : List Int} (h : Byt l) (n : Nat) : Byt (l.take n) := by
  intro i
  by_cases hi : i < n
  · rw [show (l.take n).getD i 0 = l.getD i 0 by simp [List.getD_eq_getElem?_getD, hi]]; exact h i
  · rw [show (l.take n).getD i 0 = 0 by simp [List.getD_eq_getElem?_getD, List.getElem?_take, hi]]; omega
/-- A slice of slices that is read. -/
def ReadsS (w : World) (A : Option Addr) (n : Nat) (L : List (List Int)) : Prop :=
  L.length = n ∧ n ≤ 9223372036854775807 ∧ ∀ j, j < n → ∃ ad, A = some ad ∧ ∃ A' c', w.cell? (ad.add j) = some (.slice A' (L.getD j []).length c') ∧ (L.getD j []).length ≤ c' ∧ ReadsInt w .u8 A' (L.getD j []).length (L.getD j [])
theorem getD_ext {a b : List Int} (hl : a.length = b.length) (h : ∀ i, i < a.length → a.getD i 0 = b.getD i 0) : a = b := by
  apply List.ext_getElem hl
  intro i h1 h2
  have := h i h1
  simpa [List.getD_eq_getElem?_getD, List.getElem?_eq_getElem h1, List.getElem?_eq_getElem h2] using this

set_option maxHeartbeats 4000000 in
theorem Same_calls (A : Option Addr) (c : Nat) (a : List Int) (B : Option Addr) (d : Nat) (b : List Int) (W : World) (hr : ReadsInt W .u8 A a.length a) (hc : a.length ≤ c) (hs : ReadsInt W .u8 B b.length b) (hd : b.length ≤ d) :
    Calls Try.prog 18 #[.slice A a.length c, .slice B b.length d] W fun e W' => e = .returned (.bool (decide (a = b))) ∧ Below W.heap.size W W' := by
  have hmx := hr.2.1
  have hmy := hs.2.1
  have HR := Aside0.mk hr
  have HS := Aside0.mk hs
  clear hr hs
  by_cases hl : a.length = b.length
  · go_enter Try.func18, Try.ntmps18
    go_wp2
    repeat (go_quiet (fail); try go_wp2)
    go_loopg [5] a.length (fun k i w' => ∃ j : Nat, i = .int .i64 j ∧ Aside0 (∀ q, q < j → a.getD q 0 = b.getD q 0) ∧ Drawn0 W w' ∧ Aside0 (k + j = a.length))
    case atStart => exact ⟨0, rfl, ⟨fun q hq => absurd hq (by omega)⟩, by repeat (first | exact Drawn0.refl _ | apply Drawn0.step), ⟨by omega⟩⟩
    case round =>
      obtain ⟨j, rfl, HE, ⟨m1, rfl⟩, HK⟩ := hrel
      have hk := HK.out
      cases gk with
      | zero =>
        have hj : j = a.length := by omega
        subst hj
        have he : a = b := getD_ext hl (fun q hq => HE.out q hq)
        have HE := Aside0.mk he
        clear he hk HK
        go_wp2
        repeat (go_quiet (fail); try go_wp2)
        go_ret
        exact ⟨by rw [decide_eq_true HE.out]; rfl, Drawn0.below (by repeat (first | exact Drawn0.refl _ | apply Drawn0.step))⟩
      | succ k1 =>
        have hja : j < a.length := by omega
        have hjb : j < b.length := by omega
        obtain ⟨ad, rfl, hcell⟩ := HR.out.at_ j (by omega) (by omega)
        obtain ⟨ad', rfl, hcell'⟩ := HS.out.at_ j (by omega) (by omega)
        obtain ⟨x, hx⟩ : ∃ x, a.getD j 0 = x := ⟨_, rfl⟩
        obtain ⟨y, hy⟩ : ∃ y, b.getD j 0 = y := ⟨_, rfl⟩
        rw [show rd a j = a.getD j 0 from rfl, hx, Int.toNat_natCast] at hcell
        rw [show rd b j = b.getD j 0 from rfl, hy, Int.toNat_natCast] at hcell'
        by_cases hxy : x = y
        · have HN : Aside0 (∀ q, q < j + 1 → a.getD q 0 = b.getD q 0) := ⟨fun q hq => by
            rcases Nat.lt_or_ge q j with h | h
            · exact HE.out q h
            · obtain rfl : q = j := by omega
              rw [hx, hy, hxy]⟩
          have hne : (x != y) = false := bne_eq_false_iff_eq.mpr hxy
          clear hx hy hxy HE hk
          go_wp2
          repeat (go_quiet (fail); try go_wp2)
          go_roundg k1
          case measure => omega
          case rel => exact ⟨j + 1, by go_num, HN, by repeat (first | exact Drawn0.refl _ | apply Drawn0.step), ⟨by have := HK.out; omega⟩⟩
        · have hne : (x != y) = true := bne_iff_ne.mpr hxy
          have HD : Aside0 (¬ a = b) := ⟨fun h => hxy (by rw [← hx, ← hy, h])⟩
          clear hx hy hxy HE hk HK
          go_wp2
          repeat (go_quiet (fail); try go_wp2)
          go_ret
          exact ⟨by rw [decide_eq_false HD.out]; rfl, Drawn0.below (by repeat (first | exact Drawn0.refl _ | apply Drawn0.step))⟩
  · have he : decide (a = b) = false := decide_eq_false (fun h => hl (by rw [h]))
    rw [he]
    have hl2 : ¬ ((a.length : Int) = (b.length : Int)) := by omega
    go_enter Try.func18, Try.ntmps18
    go_wp2
    repeat (go_quiet (fail); try go_wp2)
    go_ret
    exact ⟨rfl, by first | exact Below.refl _ _ | exact pw_below_drewN (Below.refl _ _) _⟩
theorem reads_string {W : World} {A : Option Addr} {c : Nat} {l : List Int} (h : ReadsInt W .u8 A l.length l) : (convert 22 9 (.slice A l.length c)).run Try.prog W = .ok (.string (strOfNums l)) W :=
  Kd.C_string (P := Try.prog) Try.underlying22 Try.underlying5 Try.underlying9 (Kd.C_of_reads (h1 := fun _ => rfl) (readsInt_of.1 h))
theorem str_eq {a b : List Int} (ha : Byt a) (hb : Byt b) : ((strOfNums a).toList == (strOfNums b).toList) = decide (a = b) := by
  have h1 : ∀ l : List Int, (strOfNums l).toList = l.map fun n => UInt8.ofNat n.toNat := fun l => Lib.strOfNums_toList l
  rw [h1, h1]
  by_cases h : a = b
  · subst h; simp
  · rw [decide_eq_false h]
    refine beq_eq_false_iff_ne.2 fun he => h ?_
    have hl : a.length = b.length := by have := congrArg List.length he; simpa using this
    refine getD_ext hl fun i hi => ?_
    have h2 := congrArg (fun l => l[i]?) he
    simp [List.getElem?_eq_getElem hi, List.getElem?_eq_getElem (show i < b.length by omega)] at h2
    have h3 := congrArg UInt8.toNat h2
    have ha' := ha i
    have hb' := hb i
    simp [List.getD_eq_getElem?_getD, List.getElem?_eq_getElem hi, List.getElem?_eq_getElem (show i < b.length by omega)] at ha' hb' h3 ⊢
    omega

theorem info5 : (Try.prog.info? 5).map (fun i => (i.zero, i.size, i.bytes)) = some (some (.int .u8 0), 1, 1) := by kernel_rfl
/-! ### Clone, the nil slice too -/
theorem nilq (W : World) (A : Option Addr) (n c : Nat) : (binOp .eql 22 (.slice A n c) (.slice none 0 0)).run Try.prog W = .ok (.bool A.isNone) W := Lib.run_eql_slice_nil W 22 5 A n c 0 0 Try.underlying22

set_option maxHeartbeats 4000000 in
theorem Clone_calls (A : Option Addr) (c : Nat) (l : List Int) (W : World) (hr : ReadsInt W .u8 A l.length l) (hl : l.length ≤ 1000000) :
    Calls Try.prog 62 #[.slice A l.length c] W fun e W' => ∃ v, e = .returned v ∧ W'.ownsRow W.heap.size 5 1 v l.length (nums .u8 l) ∧ Below W.heap.size W W' := by
  have hq := nilq
  rcases A with _ | ad
  · have h0 : l.length = 0 := by
      rcases Nat.eq_zero_or_pos l.length with h | h
      · exact h
      · obtain ⟨ad, h, _⟩ := hr.2.2 h
        cases h
    obtain rfl : l = [] := List.eq_nil_of_length_eq_zero h0
    clear hr hl
    go_enter Try.func62, Try.ntmps62
    go_wp2_with (fail)
    go_ret
    exact ⟨_, rfl, own_nil W _ 5 1, Below.refl _ _⟩
  · have HR := Aside0.mk hr
    clear hr
    go_enter Try.func62, Try.ntmps62
    go_wp2_with (at_builtin; refine print_append_row (w0 := W) W.heap.size rfl (.tmp 5) (.tmp 6) 22 5 .u8 1 rfl Try.underlying22 info5 (by decide) (.slice (some ⟨W.heap.size, 0, none⟩) 0 0) [] l (some ad) l.length c rfl rfl ?aO ?aR ?aB ?aS ?aL ?_)
    case aO => exact own_lit W W.heap.size 5 .u8 [] (Nat.le_refl _) (by simp)
    case aR => exact HR.out.allocS _
    case aB => exact below_alloc (Below.refl _ _) _
    case aS => simp
    case aL => simp; omega
    rintro v1 w1 hown hb hg hat
    clear hg hat
    have HO := Aside0.mk hown
    have HB := Aside0.mk hb
    clear hown hb
    go_wp2_with (fail)
    go_ret
    exact ⟨_, rfl, HO.out, HB.out⟩

theorem Same_n (A : Option Addr) (n c : Nat) (a : List Int) (B : Option Addr) (m d : Nat) (b : List Int) (W : World) (hr : ReadsInt W .u8 A n a) (hc : n ≤ c) (hs : ReadsInt W .u8 B m b) (hd : m ≤ d) :
    Calls Try.prog 18 #[.slice A n c, .slice B m d] W fun e W' => e = .returned (.bool (decide (a = b))) ∧ Below W.heap.size W W' := by
  obtain rfl := hr.1
  obtain rfl := hs.1
  exact Same_calls A c a B d b W hr hc hs hd
theorem Clone_n (A : Option Addr) (n c : Nat) (l : List Int) (W : World) (hr : ReadsInt W .u8 A n l) (hl : n ≤ 1000000) :
    Calls Try.prog 62 #[.slice A n c] W fun e W' => ∃ v, e = .returned v ∧ W'.ownsRow W.heap.size 5 1 v l.length (nums .u8 l) ∧ Below W.heap.size W W' := by
  obtain rfl := hr.1
  exact Clone_calls A c l W hr hl
theorem Byt_drop {l : List Int} (h : Byt l) (n : Nat) : Byt (l.drop n) := by
  intro i
  rw [show (l.drop n).getD i 0 = l.getD (n + i) 0 by simp [List.getD_eq_getElem?_getD, List.getElem?_drop]]
  exact h _
theorem own_cap {w : World} {base n : Nat} {v : Value} {xs : List Int} (h : w.ownsRow base 5 1 v n (nums .u8 xs)) : ∃ A c, v = .slice A n c ∧ n ≤ c ∧ ReadsInt w .u8 A n xs := by
  rcases h.2 with ⟨rfl, h0⟩ | ⟨g, cap, cur, rfl, _, _, h1, _⟩
  · obtain ⟨A, c, he, hr⟩ := own_reads h
    exact ⟨A, c, he, by omega, hr⟩
  · exact ⟨_, cap, rfl, h1, own_reads' h⟩
theorem Byt_append {a b : List Int} (ha : Byt a) (hb : Byt b) : Byt (a ++ b) := by
  intro i
  rcases Nat.lt_or_ge i a.length with h | h
  · rw [show (a ++ b).getD i 0 = a.getD i 0 by simp [List.getD_eq_getElem?_getD, List.getElem?_append_left h]]; exact ha i
  · rw [show (a ++ b).getD i 0 = b.getD (i - a.length) 0 by simp [List.getD_eq_getElem?_getD, List.getElem?_append_right h]]; exact hb _
theorem byt_of_wf {l : List Int} (h : ∀ x ∈ l, (Lit.int .u8 x).wf = true) : Byt l := by
  intro i
  by_cases hi : i < l.length
  · have := h _ (List.getElem_mem hi)
    simp [Lit.wf, IntKind.min, IntKind.max, IntKind.bits, IntKind.signed] at this
    rw [List.getD_eq_getElem?_getD, List.getElem?_eq_getElem hi]
    simp
    omega
  · rw [List.getD_eq_getElem?_getD, List.getElem?_eq_none (by omega)]
    simp
open Go.Deep Go.ChangeShapes Go.WideShapes in
/-- A slice of byte slices among the arguments. -/
theorem open_rows {H : Type} {enc : TypeId × Value → H} {w : World} {fuel : Nat} {a : Option Addr} {n c : Nat} {x : DataW H × List MemPlace}
    (h : DataW.trod enc Try.prog w 0 (fun _ => true) true fuel 35 [.slice a n c] = some x) :
    ∃ L : List (List Int), n = L.length ∧ ReadsS w a L.length L ∧ (∀ j, Byt (L.getD j [])) ∧ L.length ≤ c := by
  rcases open_int_rows Try.underlying35 Try.underlying22 Try.underlying5 (by kernel_rfl) (by kernel_rfl) h with ⟨hcs, _⟩ | ⟨ad, len, cap, A, L, C, Z, hcs, _, hl, hm, _, hx⟩
  · simp at hcs
    obtain ⟨rfl, rfl, rfl⟩ := hcs
    exact ⟨[], rfl, ⟨rfl, by simp, fun j hj => absurd hj (Nat.not_lt_zero _)⟩, fun j i => by simp, Nat.le_refl _⟩
  · simp at hcs
    obtain ⟨rfl, rfl, rfl⟩ := hcs
    have hlen : ((List.range n).map fun r => (Z r).take (L r)).length = n := by simp
    have hget : ∀ j, j < n → ((List.range n).map fun r => (Z r).take (L r)).getD j [] = (Z j).take (L j) := by
      intro j hj
      rw [List.getD_eq_getElem?_getD, List.getElem?_map, List.getElem?_range hj]
      rfl
    have hll : ∀ j, j < n → ((Z j).take (L j)).length = L j := by
      intro j hj
      obtain ⟨_, h1, _, h3, _⟩ := hx j (by omega)
      rw [List.length_take]
      omega
    refine ⟨(List.range n).map fun r => (Z r).take (L r), hlen.symm, ⟨rfl, ?_, ?_⟩, ?_, by rw [hlen]; exact hl⟩
    · rw [hlen]; simp only [maxLen] at hm; omega
    · intro j hj
      rw [hlen] at hj
      obtain ⟨h0, h1, h2, h3, h4, h5, h6⟩ := hx j (by omega)
      refine ⟨ad, rfl, A j, C j, ?_, ?_, ?_⟩
      · rw [hget j hj, hll j hj]; exact h0
      · rw [hget j hj, hll j hj]; exact h1
      · rw [hget j hj]
        refine ⟨rfl, by rw [hll j hj]; simp only [maxLen] at h2; omega, ?_⟩
        intro hp
        rw [hll j hj] at hp
        rcases hA : A j with _ | a'
        · have := h5 hA; omega
        · obtain ⟨_, hc⟩ := h6 a' hA
          refine ⟨a', rfl, fun i hi => ?_⟩
          rw [hll j hj] at hi
          rw [hc i (by omega)]
          simp [List.getD_eq_getElem?_getD, List.getElem?_take, hi]
    · intro j
      by_cases hj : j < n
      · rw [hget j hj]
        obtain ⟨_, _, _, _, h4, _⟩ := hx j (by omega)
        exact (byt_of_wf h4).take _
      · rw [List.getD_eq_getElem?_getD, List.getElem?_eq_none (by rw [hlen]; omega)]
        intro i; simp
theorem ReadsS_below {w w1 : World} {A : Option Addr} {n : Nat} {L : List (List Int)} (h : ReadsS w A n L) (hb : Below w.heap.size w w1) : ReadsS w1 A n L := by
  refine ⟨h.1, h.2.1, fun j hj => ?_⟩
  obtain ⟨ad, e, A', c', h1, h2, h3⟩ := h.2.2 j hj
  exact ⟨ad, e, A', c', pw_cell_below hb h1, h2, h3.below hb⟩
theorem take_succ_flat (L : List (List Int)) (k : Nat) (hk : k < L.length) : (L.take (k + 1)).flatten = (L.take k).flatten ++ L.getD k [] := by
  rw [List.take_add_one, List.flatten_append]
  simp [List.getD_eq_getElem?_getD, List.getElem?_eq_getElem hk]
theorem Byt_flat {L : List (List Int)} (h : ∀ j, Byt (L.getD j [])) : ∀ k, k ≤ L.length → Byt (L.take k).flatten
  | 0, _ => by intro i; simp
  | k + 1, hk => by
    rw [take_succ_flat L k (by omega)]
    exact Byt_append (Byt_flat h k (by omega)) (h k)

theorem xor_u8 (a b : Nat) (ha : a < 256) (hb : b < 256) : bits .xor .u8 (a : Int) (b : Int) = ((a ^^^ b : Nat) : Int) := by
  have h : a ^^^ b < 256 := Nat.xor_lt_two_pow (n := 8) ha hb
  have ha' : a % 2 ^ IntKind.u8.bits = a := Nat.mod_eq_of_lt ha
  have hb' : b % 2 ^ IntKind.u8.bits = b := Nat.mod_eq_of_lt hb
  simp only [bits, BitVec.ofInt_natCast, BitVec.toNat_xor, BitVec.toNat_ofNat, ha', hb']
  rw [IntKind.wrap_u8]
  omega

theorem list4 {α : Type} : ∀ l : List α, l.length = 4 → ∃ a b c d, l = [a, b, c, d]
  | [a, b, c, d], _ => ⟨a, b, c, d, rfl⟩
end Go.Proofs.Ytnfgnafphfddhaa.Bas
