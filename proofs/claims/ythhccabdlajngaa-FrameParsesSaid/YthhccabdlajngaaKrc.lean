import Derived.Test.YthhccabdlajngaaBse
namespace Go.Proofs.Ythhccabdlajngaa.Krc
open Go Go.Sim Go.Sim.E Go.RowKit Go.Proofs Go.Proofs.Ythhccabdlajngaa.Bse
set_option linter.unusedVariables false
set_option linter.unusedSimpArgs false
set_option maxRecDepth 100000
set_option maxHeartbeats 4000000
/-! ### the sum of bytes, plainly -/
theorem xor_u32 (a b : Nat) (ha : a < 4294967296) (hb : b < 4294967296) : bits .xor .u32 (a : Int) (b : Int) = ((a ^^^ b : Nat) : Int) := by
  have h : a ^^^ b < 4294967296 := Nat.xor_lt_two_pow (n := 32) ha hb
  have ha' : a % 2 ^ IntKind.u32.bits = a := Nat.mod_eq_of_lt ha
  have hb' : b % 2 ^ IntKind.u32.bits = b := Nat.mod_eq_of_lt hb
  simp only [bits, BitVec.ofInt_natCast, BitVec.toNat_xor, BitVec.toNat_ofNat, ha', hb']
  rw [IntKind.wrap_u32]
  omega
theorem and_one (x : Nat) (hx : x < 4294967296) : bits .and .u32 (x : Int) 1 = ((x % 2 : Nat) : Int) := by
  have h := (bits_nat .u32 32 (by decide) (fun n h0 h1 => by rw [IntKind.wrap_u32]; omega) x 1 (by omega) (by omega)).1
  rw [Nat.and_one_is_mod] at h
  exact h
def stp (x : Nat) : Nat := if x % 2 = 1 then (x / 2) ^^^ 3988292384 else x / 2
theorem stp_lt {x : Nat} (h : x < 4294967296) : stp x < 4294967296 := by
  unfold stp
  split
  · exact Nat.xor_lt_two_pow (n := 32) (by omega) (by omega)
  · omega
def stpN : Nat → Nat → Nat
  | 0, x => x
  | k + 1, x => stp (stpN k x)
theorem stpN_lt {x : Nat} (h : x < 4294967296) : ∀ k, stpN k x < 4294967296
  | 0 => h
  | k + 1 => stp_lt (stpN_lt h k)
def crc (r c : Nat) : Nat := stpN 8 (r ^^^ c)
theorem crc_lt {r c : Nat} (hr : r < 4294967296) (hc : c < 4294967296) : crc r c < 4294967296 := stpN_lt (Nat.xor_lt_two_pow (n := 32) hr hc) 8
def crcs (r : Nat) (l : List Int) : Nat := l.foldl (fun r c => crc r (c.toNat % 256)) r
theorem crcs_lt : ∀ (l : List Int) {r : Nat}, r < 4294967296 → crcs r l < 4294967296
  | [], r, h => h
  | c :: l, r, h => crcs_lt l (crc_lt h (by omega))
theorem crcs_snoc (r : Nat) (l : List Int) (c : Int) : crcs r (l ++ [c]) = crc (crcs r l) (c.toNat % 256) := by simp [crcs]
theorem crcs_take (r : Nat) (l : List Int) (i : Nat) (h : i < l.length) : crcs r (l.take (i + 1)) = crc (crcs r (l.take i)) ((l.getD i 0).toNat % 256) := by
  rw [take_stepD l i h, crcs_snoc]
def sumN (l : List Int) : Nat := 4294967295 - crcs 4294967295 l
theorem sumN_lt (l : List Int) : sumN l < 4294967296 := by unfold sumN; omega
theorem xor_ones (x : Nat) (h : x < 4294967296) : bits .xor .u32 4294967295 (x : Int) = ((4294967295 - x : Nat) : Int) := by
  have e := xor_u32 4294967295 x (by decide) h
  rw [show ((4294967295 : Nat) : Int) = 4294967295 from rfl] at e
  rw [e]
  congr 1
  have h2 : (BitVec.allOnes 32 ^^^ BitVec.ofNat 32 x).toNat = 4294967295 ^^^ x := by
    rw [BitVec.toNat_xor, BitVec.toNat_allOnes, BitVec.toNat_ofNat, Nat.mod_eq_of_lt h]
  rw [← h2, BitVec.allOnes_xor, BitVec.toNat_not, BitVec.toNat_ofNat, Nat.mod_eq_of_lt h]
end Go.Proofs.Ythhccabdlajngaa.Krc
