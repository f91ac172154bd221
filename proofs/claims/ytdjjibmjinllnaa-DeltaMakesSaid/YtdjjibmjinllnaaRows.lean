/-
  No cell of these rows narrows 'for every input' (looked for: loops, veiled, ifaces, maps, wideKeys, modest, calm, conditions, laid).
  DERIVED. THE GIVEN ROWS OF THIS SEAT. 8 by the template 'for every input the law returns true; each argument reads behind the call as it read before'; 0 by the template 'total and deterministic' (their statements: YtdjjibmjinllnaaTotals.lean).
  GIVEN WITH THE SEED: the statements are not yours to turn. If you find one false, say at which input.
  Laid BY PROGRAM, IN A SANDBOX (cutbox-rows.mjs): the forced cells as the released guide's own fill.sh prints them over the translation 2c5ee533905bfbb4… (all of the seat's roots in one cut). By AI agents, Wed Nov 11 2026. No macro, syntax, notation, axiom, sorry.
-/
import Derived.Test.YtdjjibmjinllnaaChecked
import GoSem.Claim
import GoSem.ClaimJoined
import GoSem.ClaimMapViews
import Derived.JoinedTies
import Derived.KernelRfl
namespace Go.Proofs.Ytdjjibmjinllnaa
/- THE CELL 'sum', in the pinned program and in every row, IS THE sha256 OF THE DUMP (.gsa) THAT YtdjjibmjinllnaaProg.lean LOADS. Nothing in Lean hashes anything: it is a label: what it is worth is what the hold of that sum in a sandbox is worth. -/
noncomputable def Try.pinned : Pinned := { name := "ytdjjibmjinllnaa", sum := "2c5ee533905bfbb43d235ab0c5cd780923d79d17d26c32e5f3af2ed647351f4d", checked := Try.checked }
namespace Rows
def none {H : Type} : Left H := { results := [], args := [] }

/-- 'thwartlaw12.DigestIs': WHATEVER THE INPUT: true; the input reads as it did. -/
def digestIsSpec : ChangeSpec := { name := "digestIs", fn := fun _ => fun
  | [d] => { results := [.lit (.bool true)], args := [d] }
  | _ => none }
def digestIsRow : OpenClaim := { program := "ytdjjibmjinllnaa", sum := "2c5ee533905bfbb43d235ab0c5cd780923d79d17d26c32e5f3af2ed647351f4d", func := "thwart/thwartlaw12.DigestIs", spec := "digestIs", apart := false }
def DigestIsSaid : Prop := digestIsRow.holds Try.pinned (OpenSpec.ofChange digestIsSpec)

/-- ITS FALSE NEIGHBOUR: 'it returns false'. Refute it at one input. -/
def digestIsWrong : ChangeSpec := { name := "digestIs", fn := fun _ => fun
  | [d] => { results := [.lit (.bool false)], args := [d] }
  | _ => none }
def DigestIsWrongFalsely : Prop := digestIsRow.holds Try.pinned (OpenSpec.ofChange digestIsWrong)

/-- 'thwartlaw12.DigestParts': WHATEVER THE INPUT: true; the input reads as it did. -/
def digestPartsSpec : ChangeSpec := { name := "digestParts", fn := fun _ => fun
  | [d1, d2] => { results := [.lit (.bool true)], args := [d1, d2] }
  | _ => none }
def digestPartsRow : OpenClaim := { program := "ytdjjibmjinllnaa", sum := "2c5ee533905bfbb43d235ab0c5cd780923d79d17d26c32e5f3af2ed647351f4d", func := "thwart/thwartlaw12.DigestParts", spec := "digestParts", apart := false }
def DigestPartsSaid : Prop := digestPartsRow.holds Try.pinned (OpenSpec.ofChange digestPartsSpec)

/-- ITS FALSE NEIGHBOUR: 'it returns false'. Refute it at one input. -/
def digestPartsWrong : ChangeSpec := { name := "digestParts", fn := fun _ => fun
  | [d1, d2] => { results := [.lit (.bool false)], args := [d1, d2] }
  | _ => none }
def DigestPartsWrongFalsely : Prop := digestPartsRow.holds Try.pinned (OpenSpec.ofChange digestPartsWrong)

/-- 'thwartlaw12.DigestNobody': WHATEVER THE INPUT: true; the input reads as it did. -/
def digestNobodySpec : ChangeSpec := { name := "digestNobody", fn := fun _ => fun
  | [d] => { results := [.lit (.bool true)], args := [d] }
  | _ => none }
def digestNobodyRow : OpenClaim := { program := "ytdjjibmjinllnaa", sum := "2c5ee533905bfbb43d235ab0c5cd780923d79d17d26c32e5f3af2ed647351f4d", func := "thwart/thwartlaw12.DigestNobody", spec := "digestNobody", apart := false }
def DigestNobodySaid : Prop := digestNobodyRow.holds Try.pinned (OpenSpec.ofChange digestNobodySpec)

/-- ITS FALSE NEIGHBOUR: 'it returns false'. Refute it at one input. -/
def digestNobodyWrong : ChangeSpec := { name := "digestNobody", fn := fun _ => fun
  | [d] => { results := [.lit (.bool false)], args := [d] }
  | _ => none }
def DigestNobodyWrongFalsely : Prop := digestNobodyRow.holds Try.pinned (OpenSpec.ofChange digestNobodyWrong)

/-- 'thwartlaw37.PermLetters': WHATEVER THE INPUT: true; the input reads as it did. -/
def permLettersSpec : ChangeSpec := { name := "permLetters", fn := fun _ => fun
  | [d1, d2, d3] => { results := [.lit (.bool true)], args := [d1, d2, d3] }
  | _ => none }
def permLettersRow : OpenClaim := { program := "ytdjjibmjinllnaa", sum := "2c5ee533905bfbb43d235ab0c5cd780923d79d17d26c32e5f3af2ed647351f4d", func := "thwart/thwartlaw37.PermLetters", spec := "permLetters", inPlace := ["internal/bytealg.IndexByteString"], recurses := true, apart := false }
def PermLettersSaid : Prop := permLettersRow.holds Try.pinned (OpenSpec.ofChange permLettersSpec)

/-- ITS FALSE NEIGHBOUR: 'it returns false'. Refute it at one input. -/
def permLettersWrong : ChangeSpec := { name := "permLetters", fn := fun _ => fun
  | [d1, d2, d3] => { results := [.lit (.bool false)], args := [d1, d2, d3] }
  | _ => none }
def PermLettersWrongFalsely : Prop := permLettersRow.holds Try.pinned (OpenSpec.ofChange permLettersWrong)

/-- 'thwartlaw37.PermLess': WHATEVER THE INPUT: true; the input reads as it did. -/
def permLessSpec : ChangeSpec := { name := "permLess", fn := fun _ => fun
  | [d1, d2, d3] => { results := [.lit (.bool true)], args := [d1, d2, d3] }
  | _ => none }
def permLessRow : OpenClaim := { program := "ytdjjibmjinllnaa", sum := "2c5ee533905bfbb43d235ab0c5cd780923d79d17d26c32e5f3af2ed647351f4d", func := "thwart/thwartlaw37.PermLess", spec := "permLess", inPlace := ["internal/bytealg.IndexByteString"], recurses := true, apart := false }
def PermLessSaid : Prop := permLessRow.holds Try.pinned (OpenSpec.ofChange permLessSpec)

/-- ITS FALSE NEIGHBOUR: 'it returns false'. Refute it at one input. -/
def permLessWrong : ChangeSpec := { name := "permLess", fn := fun _ => fun
  | [d1, d2, d3] => { results := [.lit (.bool false)], args := [d1, d2, d3] }
  | _ => none }
def PermLessWrongFalsely : Prop := permLessRow.holds Try.pinned (OpenSpec.ofChange permLessWrong)

/-- 'thwartlaw39.DeltaMakes': WHATEVER THE INPUT: true; the input reads as it did. -/
def deltaMakesSpec : ChangeSpec := { name := "deltaMakes", fn := fun _ => fun
  | [d1, d2] => { results := [.lit (.bool true)], args := [d1, d2] }
  | _ => none }
def deltaMakesRow : OpenClaim := { program := "ytdjjibmjinllnaa", sum := "2c5ee533905bfbb43d235ab0c5cd780923d79d17d26c32e5f3af2ed647351f4d", func := "thwart/thwartlaw39.DeltaMakes", spec := "deltaMakes", apart := false }
def DeltaMakesSaid : Prop := deltaMakesRow.holds Try.pinned (OpenSpec.ofChange deltaMakesSpec)

/-- ITS FALSE NEIGHBOUR: 'it returns false'. Refute it at one input. -/
def deltaMakesWrong : ChangeSpec := { name := "deltaMakes", fn := fun _ => fun
  | [d1, d2] => { results := [.lit (.bool false)], args := [d1, d2] }
  | _ => none }
def DeltaMakesWrongFalsely : Prop := deltaMakesRow.holds Try.pinned (OpenSpec.ofChange deltaMakesWrong)

/-- 'thwartlaw39.DeltaApplies': WHATEVER THE INPUT: true; the input reads as it did. -/
def deltaAppliesSpec : ChangeSpec := { name := "deltaApplies", fn := fun _ => fun
  | [d1, d2] => { results := [.lit (.bool true)], args := [d1, d2] }
  | _ => none }
def deltaAppliesRow : OpenClaim := { program := "ytdjjibmjinllnaa", sum := "2c5ee533905bfbb43d235ab0c5cd780923d79d17d26c32e5f3af2ed647351f4d", func := "thwart/thwartlaw39.DeltaApplies", spec := "deltaApplies", apart := false }
def DeltaAppliesSaid : Prop := deltaAppliesRow.holds Try.pinned (OpenSpec.ofChange deltaAppliesSpec)

/-- ITS FALSE NEIGHBOUR: 'it returns false'. Refute it at one input. -/
def deltaAppliesWrong : ChangeSpec := { name := "deltaApplies", fn := fun _ => fun
  | [d1, d2] => { results := [.lit (.bool false)], args := [d1, d2] }
  | _ => none }
def DeltaAppliesWrongFalsely : Prop := deltaAppliesRow.holds Try.pinned (OpenSpec.ofChange deltaAppliesWrong)

/-- 'thwartlaw39.DeltaSelf': WHATEVER THE INPUT: true; the input reads as it did. -/
def deltaSelfSpec : ChangeSpec := { name := "deltaSelf", fn := fun _ => fun
  | [d1, d2, d3] => { results := [.lit (.bool true)], args := [d1, d2, d3] }
  | _ => none }
def deltaSelfRow : OpenClaim := { program := "ytdjjibmjinllnaa", sum := "2c5ee533905bfbb43d235ab0c5cd780923d79d17d26c32e5f3af2ed647351f4d", func := "thwart/thwartlaw39.DeltaSelf", spec := "deltaSelf", apart := false }
def DeltaSelfSaid : Prop := deltaSelfRow.holds Try.pinned (OpenSpec.ofChange deltaSelfSpec)

/-- ITS FALSE NEIGHBOUR: 'it returns false'. Refute it at one input. -/
def deltaSelfWrong : ChangeSpec := { name := "deltaSelf", fn := fun _ => fun
  | [d1, d2, d3] => { results := [.lit (.bool false)], args := [d1, d2, d3] }
  | _ => none }
def DeltaSelfWrongFalsely : Prop := deltaSelfRow.holds Try.pinned (OpenSpec.ofChange deltaSelfWrong)

/- THE SECOND FORM. 'bulk': how many values and letters a reading holds, each counted each time it is reached (what is shared counts as often as it is met; a slice's spare places count too). A statement '..UptoSaid' is the law's where the arguments, and the package variables that the reading takes, are together of bulk at most 1048576: NARROWER than '..Said'. Prove '..Said' where nothing that the law and all that it calls make is longer than what came in: it says more and counts as full. Else prove '..UptoSaid'. A law counts once. -/
mutual
def uptoBulk {H : Type} : DataW H → Nat
  | .lit (.string bytes) => bytes.length + 1
  | .lit _ => 1
  | .nil => 1
  | .ptr d => uptoBulk d + 1
  | .slice elems spare => uptoBulkAll elems + uptoBulkAll spare + 1
  | .agg parts => uptoBulkAll parts + 1
  | .iface _ d => uptoBulk d + 1
  | .map entries => uptoBulkEntries entries + 1
  | .held _ => 1
def uptoBulkAll {H : Type} : List (DataW H) → Nat
  | [] => 0
  | d :: r => uptoBulk d + uptoBulkAll r
def uptoBulkEntries {H : Type} : List (Lit × DataW H) → Nat
  | [] => 0
  | x :: r => uptoBulkEntry x + uptoBulkEntries r
def uptoBulkEntry {H : Type} : Lit × DataW H → Nat
  | (.string bytes, d) => bytes.length + uptoBulk d + 1
  | (_, d) => uptoBulk d + 1
 end
def uptoSmall : (H : Type) → List (DataW H) → Bool := fun _ ds => decide (uptoBulkAll ds ≤ 1048576)
def OpenSpec.upto (s : _root_.Go.ChangeSpec) : _root_.Go.OpenSpec := { _root_.Go.OpenSpec.ofChange s with cond := some uptoSmall }

/-- 'thwartlaw12.DigestIs', WHERE WHAT IT READS IS OF BULK AT MOST 1048576: true; the input reads as it did. -/
def digestIsUptoRow : OpenClaim := { program := "ytdjjibmjinllnaa", sum := "2c5ee533905bfbb43d235ab0c5cd780923d79d17d26c32e5f3af2ed647351f4d", func := "thwart/thwartlaw12.DigestIs", spec := "digestIs", apart := false, narrowed := true }
def DigestIsUptoSaid : Prop := digestIsUptoRow.holds Try.pinned (OpenSpec.upto digestIsSpec)

/-- 'thwartlaw12.DigestParts', WHERE WHAT IT READS IS OF BULK AT MOST 1048576: true; the input reads as it did. -/
def digestPartsUptoRow : OpenClaim := { program := "ytdjjibmjinllnaa", sum := "2c5ee533905bfbb43d235ab0c5cd780923d79d17d26c32e5f3af2ed647351f4d", func := "thwart/thwartlaw12.DigestParts", spec := "digestParts", apart := false, narrowed := true }
def DigestPartsUptoSaid : Prop := digestPartsUptoRow.holds Try.pinned (OpenSpec.upto digestPartsSpec)

/-- 'thwartlaw12.DigestNobody', WHERE WHAT IT READS IS OF BULK AT MOST 1048576: true; the input reads as it did. -/
def digestNobodyUptoRow : OpenClaim := { program := "ytdjjibmjinllnaa", sum := "2c5ee533905bfbb43d235ab0c5cd780923d79d17d26c32e5f3af2ed647351f4d", func := "thwart/thwartlaw12.DigestNobody", spec := "digestNobody", apart := false, narrowed := true }
def DigestNobodyUptoSaid : Prop := digestNobodyUptoRow.holds Try.pinned (OpenSpec.upto digestNobodySpec)

/-- 'thwartlaw37.PermLetters', WHERE WHAT IT READS IS OF BULK AT MOST 1048576: true; the input reads as it did. -/
def permLettersUptoRow : OpenClaim := { program := "ytdjjibmjinllnaa", sum := "2c5ee533905bfbb43d235ab0c5cd780923d79d17d26c32e5f3af2ed647351f4d", func := "thwart/thwartlaw37.PermLetters", spec := "permLetters", inPlace := ["internal/bytealg.IndexByteString"], recurses := true, apart := false, narrowed := true }
def PermLettersUptoSaid : Prop := permLettersUptoRow.holds Try.pinned (OpenSpec.upto permLettersSpec)

/-- 'thwartlaw37.PermLess', WHERE WHAT IT READS IS OF BULK AT MOST 1048576: true; the input reads as it did. -/
def permLessUptoRow : OpenClaim := { program := "ytdjjibmjinllnaa", sum := "2c5ee533905bfbb43d235ab0c5cd780923d79d17d26c32e5f3af2ed647351f4d", func := "thwart/thwartlaw37.PermLess", spec := "permLess", inPlace := ["internal/bytealg.IndexByteString"], recurses := true, apart := false, narrowed := true }
def PermLessUptoSaid : Prop := permLessUptoRow.holds Try.pinned (OpenSpec.upto permLessSpec)

/-- 'thwartlaw39.DeltaMakes', WHERE WHAT IT READS IS OF BULK AT MOST 1048576: true; the input reads as it did. -/
def deltaMakesUptoRow : OpenClaim := { program := "ytdjjibmjinllnaa", sum := "2c5ee533905bfbb43d235ab0c5cd780923d79d17d26c32e5f3af2ed647351f4d", func := "thwart/thwartlaw39.DeltaMakes", spec := "deltaMakes", apart := false, narrowed := true }
def DeltaMakesUptoSaid : Prop := deltaMakesUptoRow.holds Try.pinned (OpenSpec.upto deltaMakesSpec)

/-- 'thwartlaw39.DeltaApplies', WHERE WHAT IT READS IS OF BULK AT MOST 1048576: true; the input reads as it did. -/
def deltaAppliesUptoRow : OpenClaim := { program := "ytdjjibmjinllnaa", sum := "2c5ee533905bfbb43d235ab0c5cd780923d79d17d26c32e5f3af2ed647351f4d", func := "thwart/thwartlaw39.DeltaApplies", spec := "deltaApplies", apart := false, narrowed := true }
def DeltaAppliesUptoSaid : Prop := deltaAppliesUptoRow.holds Try.pinned (OpenSpec.upto deltaAppliesSpec)

/-- 'thwartlaw39.DeltaSelf', WHERE WHAT IT READS IS OF BULK AT MOST 1048576: true; the input reads as it did. -/
def deltaSelfUptoRow : OpenClaim := { program := "ytdjjibmjinllnaa", sum := "2c5ee533905bfbb43d235ab0c5cd780923d79d17d26c32e5f3af2ed647351f4d", func := "thwart/thwartlaw39.DeltaSelf", spec := "deltaSelf", apart := false, narrowed := true }
def DeltaSelfUptoSaid : Prop := deltaSelfUptoRow.holds Try.pinned (OpenSpec.upto deltaSelfSpec)

end Rows
end Go.Proofs.Ytdjjibmjinllnaa
