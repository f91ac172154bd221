import Derived.Test.YtlnehjhhkfjggaaProg
import Derived.Below
import Derived.Carry
import Derived.WalkKit
import Derived.KernelRfl
import Derived.RowKit3
import Derived.Outline
import Derived.Deep.LoopGhost
import Derived.Deep.RegionHeld3
import Derived.Deep.QuietTactic
import Derived.BigQuiet
import Derived.WalkSpells
import Derived.Test.YtlnehjhhkfjggaaWWords
import Derived.Test.YtlnehjhhkfjggaaWMore
namespace Go.Proofs.Ytlnehjhhkfjggaa.ChkA
open Go.RowKit Go.Proofs.YtlnehjhhkfjggaaW.PrintWords Go.Proofs.YtlnehjhhkfjggaaW.PrintMore
set_option linter.unusedVariables false
set_option linter.unusedSimpArgs false

/-- One bit of a register. -/
def st (x : Nat) : Nat := if x % 2 = 1 then (x / 2) ^^^ 3988292384 else x / 2
def stN : Nat → Nat → Nat
  | 0, x => x
  | n + 1, x => stN n (st x)
theorem st_lt {x : Nat} (h : x < 4294967296) : st x < 4294967296 := by
  unfold st
  split
  · exact Nat.xor_lt_two_pow (n := 32) (by omega) (by decide)
  · omega
theorem xor_u32 (a b : Nat) (ha : a < 4294967296) (hb : b < 4294967296) : bits .xor .u32 (a : Int) (b : Int) = ((a ^^^ b : Nat) : Int) := by
  have h : a ^^^ b < 4294967296 := Nat.xor_lt_two_pow (n := 32) ha hb
  have ha' : a % 2 ^ IntKind.u32.bits = a := Nat.mod_eq_of_lt ha
  have hb' : b % 2 ^ IntKind.u32.bits = b := Nat.mod_eq_of_lt hb
  simp only [bits, BitVec.ofInt_natCast, BitVec.toNat_xor, BitVec.toNat_ofNat, ha', hb']
  rw [IntKind.wrap_u32]
  omega
theorem and_one (x : Nat) (hx : x < 4294967296) : bits .and .u32 (x : Int) 1 = ((x % 2 : Nat) : Int) := by
  have h := (bits_nat .u32 32 (by decide) (fun n h0 h1 => by rw [IntKind.wrap_u32]; omega) x 1 (by omega) (by omega)).1
  rw [Nat.and_one_is_mod] at h
  exact h
theorem st_odd {x : Nat} (h : x % 2 = 1) : st x = (x / 2) ^^^ 3988292384 := by unfold st; rw [if_pos h]
theorem st_even {x : Nat} (h : ¬ x % 2 = 1) : st x = x / 2 := by unfold st; rw [if_neg h]
/-- A byte into a register. -/
def crc (r c : Nat) : Nat := stN 8 (r ^^^ c)

/-- Where the rounds stand. -/
def Mid (r k x : Nat) : Prop := x < 4294967296 ∧ stN (8 - k) x = r
theorem Mid.next {r k x : Nat} (h : Mid r k x) (hk : k < 8) : Mid r (k + 1) (st x) := by
  obtain ⟨h1, h2⟩ := h
  refine ⟨st_lt h1, ?_⟩
  rw [show 8 - k = (8 - (k + 1)) + 1 by omega] at h2
  exact h2

set_option maxHeartbeats 2000000 in
theorem RStep_calls (r c : Nat) (hr : r < 4294967296) (hc : c < 256) (W : World) : Calls Try.prog 35 #[.int .u32 r, .int .u8 c] W fun e W' => e = .returned (.int .u32 (crc r c)) ∧ W = W' := by
  have hx := xor_u32 r c hr (by omega)
  have hl : r ^^^ c < 4294967296 := Nat.xor_lt_two_pow (n := 32) hr (by omega)
  obtain ⟨R, hR⟩ : ∃ R, crc r c = R := ⟨_, rfl⟩
  have HM : Aside0 (Mid R 0 (r ^^^ c)) := ⟨hl, hR⟩
  rw [hR]
  generalize r ^^^ c = y at *
  clear hR
  go_enter Try.func35, Try.ntmps35
  go_wp2
  clear hx hl
  go_loop [0, 5] (fun v i => ∃ k x : Nat, k ≤ 8 ∧ v = .int .u32 x ∧ i = .int .i64 k ∧ Aside0 (Mid R k x)) (fun _ i => 8 - (intOf i).toNat)
  case atStart => exact ⟨0, y, by omega, rfl, rfl, HM⟩
  case round =>
    clear HM
    obtain ⟨k, x, hk, rfl, rfl, HM⟩ := hrel
    by_cases hlt : k < 8
    · have HN := Aside0.mk (HM.out.next hlt)
      have hx := HM.out.1
      by_cases ho : x % 2 = 1
      · have ho' : (x : Int) % 2 = 1 := by omega
        have hy : bits .xor .u32 ((x / 2 : Nat) : Int) 3988292384 = ((x / 2 ^^^ 3988292384 : Nat) : Int) := xor_u32 (x / 2) 3988292384 (by omega) (by omega)
        rw [st_odd ho] at HN
        have hq : ((x / 2 : Nat) : Int) = (x : Int) / 2 := by omega
        rw [hq] at hy
        generalize (x / 2) ^^^ 3988292384 = z at *
        have hz := HN.out.1
        clear hq ho HM
        go_wp2
        go_round
        case rel => exact ⟨k + 1, z, by omega, rfl, by go_num, HN⟩
        case measure => simp [intOf]; omega
      · have ho' : ¬ (x : Int) % 2 = 1 := by omega
        have ho2 : ((x : Int) % 2 == 1) = false := beq_eq_false_iff_ne.2 ho'
        rw [st_even ho] at HN
        clear ho HM ho'
        go_wp2
        go_round
        case rel => exact ⟨k + 1, x / 2, by omega, by go_num, by go_num, HN⟩
        case measure => simp [intOf]; omega
    · have hres : x = R := by
        have := HM.out.2
        rw [show 8 - k = 0 by omega] at this
        exact this
      subst hres
      go_wp2
      go_ret
      exact ⟨rfl, rfl⟩

theorem mask_all : bits .and .u32 3988292384 4294967295 = 3988292384 := by kernel_rfl
theorem mask_none : bits .and .u32 3988292384 0 = 0 := by kernel_rfl
set_option maxHeartbeats 2000000 in
theorem Step_calls (r c : Nat) (hr : r < 4294967296) (hc : c < 256) (W : World) : Calls Try.prog 34 #[.int .u32 r, .int .u8 c] W fun e W' => e = .returned (.int .u32 (crc r c)) ∧ W = W' := by
  have hx := xor_u32 r c hr (by omega)
  have hl : r ^^^ c < 4294967296 := Nat.xor_lt_two_pow (n := 32) hr (by omega)
  obtain ⟨R, hR⟩ : ∃ R, crc r c = R := ⟨_, rfl⟩
  have HM : Aside0 (Mid R 0 (r ^^^ c)) := ⟨hl, hR⟩
  rw [hR]
  generalize r ^^^ c = y at *
  clear hR
  go_enter Try.func34, Try.ntmps34
  go_wp2
  clear hx hl
  go_loop [0, 9] (fun v i => ∃ k x : Nat, k ≤ 8 ∧ v = .int .u32 x ∧ i = .int .i64 k ∧ Aside0 (Mid R k x)) (fun _ i => 8 - (intOf i).toNat)
  case atStart => exact ⟨0, y, by omega, rfl, rfl, HM⟩
  case round =>
    clear HM
    obtain ⟨k, x, hk, rfl, rfl, HM⟩ := hrel
    by_cases hlt : k < 8
    · have HN := Aside0.mk (HM.out.next hlt)
      have hx := HM.out.1
      have h1 := and_one x hx
      have hq : ((x / 2 : Nat) : Int) = (x : Int) / 2 := by omega
      have m1 := mask_all
      have m2 := mask_none
      by_cases ho : x % 2 = 1
      · have hy : bits .xor .u32 ((x / 2 : Nat) : Int) 3988292384 = ((x / 2 ^^^ 3988292384 : Nat) : Int) := xor_u32 (x / 2) 3988292384 (by omega) (by omega)
        rw [st_odd ho] at HN
        rw [hq] at hy
        rw [ho] at h1
        generalize (x / 2) ^^^ 3988292384 = z at *
        have hz := HN.out.1
        clear hq ho HM
        go_wp2
        go_round
        case rel => exact ⟨k + 1, z, by omega, rfl, by go_num, HN⟩
        case measure => simp [intOf]; omega
      · have hy : bits .xor .u32 ((x / 2 : Nat) : Int) 0 = ((x / 2 ^^^ 0 : Nat) : Int) := xor_u32 (x / 2) 0 (by omega) (by omega)
        rw [st_even ho] at HN
        rw [Nat.xor_zero, hq] at hy
        rw [show x % 2 = 0 by omega] at h1
        clear hq ho HM
        go_wp2
        go_round
        case rel => exact ⟨k + 1, x / 2, by omega, by first | rfl | go_num | (rw [hy]; go_num), by go_num, HN⟩
        case measure => simp [intOf]; omega
    · have hres : x = R := by
        have := HM.out.2
        rw [show 8 - k = 0 by omega] at this
        exact this
      subst hres
      go_wp2
      go_ret
      exact ⟨rfl, rfl⟩
end Go.Proofs.Ytlnehjhhkfjggaa.ChkA
