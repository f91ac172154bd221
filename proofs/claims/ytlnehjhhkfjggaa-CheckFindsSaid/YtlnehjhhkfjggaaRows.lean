/-
  No cell of these rows narrows 'for every input' (looked for: loops, veiled, ifaces, maps, wideKeys, modest, calm, conditions, laid).
  DERIVED. THE GIVEN ROWS OF THIS SEAT. 10 by the template 'for every input the law returns true; each argument reads behind the call as it read before'; 0 by the template 'total and deterministic' (their statements: YtlnehjhhkfjggaaTotals.lean).
  GIVEN WITH THE SEED: the statements are not yours to turn. If you find one false, say at which input.
  Laid BY PROGRAM, IN A SANDBOX (cutbox-rows.mjs): the forced cells as the released guide's own fill.sh prints them over the translation 7c35a0e3a0d2e30f… (all of the seat's roots in one cut). By AI agents, Wed Nov 11 2026. No macro, syntax, notation, axiom, sorry.
-/
import Derived.Test.YtlnehjhhkfjggaaChecked
import GoSem.Claim
import GoSem.ClaimJoined
import GoSem.ClaimMapViews
import Derived.JoinedTies
import Derived.KernelRfl
namespace Go.Proofs.Ytlnehjhhkfjggaa
/- THE CELL 'sum', in the pinned program and in every row, IS THE sha256 OF THE DUMP (.gsa) THAT YtlnehjhhkfjggaaProg.lean LOADS. Nothing in Lean hashes anything: it is a label: what it is worth is what the hold of that sum in a sandbox is worth. -/
noncomputable def Try.pinned : Pinned := { name := "ytlnehjhhkfjggaa", sum := "7c35a0e3a0d2e30fb8ce0cd60cf8dc4a3aedc529ba96241d8860b7a635f3bb7c", checked := Try.checked }
namespace Rows
def none {H : Type} : Left H := { results := [], args := [] }

/-- 'thwartlaw18.DialTurns': WHATEVER THE INPUT: true; the input reads as it did. -/
def dialTurnsSpec : ChangeSpec := { name := "dialTurns", fn := fun _ => fun
  | [d1, d2, d3] => { results := [.lit (.bool true)], args := [d1, d2, d3] }
  | _ => none }
def dialTurnsRow : OpenClaim := { program := "ytlnehjhhkfjggaa", sum := "7c35a0e3a0d2e30fb8ce0cd60cf8dc4a3aedc529ba96241d8860b7a635f3bb7c", func := "thwart/thwartlaw18.DialTurns", spec := "dialTurns", apart := false }
def DialTurnsSaid : Prop := dialTurnsRow.holds Try.pinned (OpenSpec.ofChange dialTurnsSpec)

/-- ITS FALSE NEIGHBOUR: 'it returns false'. Refute it at one input. -/
def dialTurnsWrong : ChangeSpec := { name := "dialTurns", fn := fun _ => fun
  | [d1, d2, d3] => { results := [.lit (.bool false)], args := [d1, d2, d3] }
  | _ => none }
def DialTurnsWrongFalsely : Prop := dialTurnsRow.holds Try.pinned (OpenSpec.ofChange dialTurnsWrong)

/-- 'thwartlaw18.DialEpochs': WHATEVER THE INPUT: true; the input reads as it did. -/
def dialEpochsSpec : ChangeSpec := { name := "dialEpochs", fn := fun _ => fun
  | [d1, d2, d3] => { results := [.lit (.bool true)], args := [d1, d2, d3] }
  | _ => none }
def dialEpochsRow : OpenClaim := { program := "ytlnehjhhkfjggaa", sum := "7c35a0e3a0d2e30fb8ce0cd60cf8dc4a3aedc529ba96241d8860b7a635f3bb7c", func := "thwart/thwartlaw18.DialEpochs", spec := "dialEpochs", apart := false }
def DialEpochsSaid : Prop := dialEpochsRow.holds Try.pinned (OpenSpec.ofChange dialEpochsSpec)

/-- ITS FALSE NEIGHBOUR: 'it returns false'. Refute it at one input. -/
def dialEpochsWrong : ChangeSpec := { name := "dialEpochs", fn := fun _ => fun
  | [d1, d2, d3] => { results := [.lit (.bool false)], args := [d1, d2, d3] }
  | _ => none }
def DialEpochsWrongFalsely : Prop := dialEpochsRow.holds Try.pinned (OpenSpec.ofChange dialEpochsWrong)

/-- 'thwartlaw18.DialNext': WHATEVER THE INPUT: true; the input reads as it did. -/
def dialNextSpec : ChangeSpec := { name := "dialNext", fn := fun _ => fun
  | [d1, d2] => { results := [.lit (.bool true)], args := [d1, d2] }
  | _ => none }
def dialNextRow : OpenClaim := { program := "ytlnehjhhkfjggaa", sum := "7c35a0e3a0d2e30fb8ce0cd60cf8dc4a3aedc529ba96241d8860b7a635f3bb7c", func := "thwart/thwartlaw18.DialNext", spec := "dialNext", apart := false }
def DialNextSaid : Prop := dialNextRow.holds Try.pinned (OpenSpec.ofChange dialNextSpec)

/-- ITS FALSE NEIGHBOUR: 'it returns false'. Refute it at one input. -/
def dialNextWrong : ChangeSpec := { name := "dialNext", fn := fun _ => fun
  | [d1, d2] => { results := [.lit (.bool false)], args := [d1, d2] }
  | _ => none }
def DialNextWrongFalsely : Prop := dialNextRow.holds Try.pinned (OpenSpec.ofChange dialNextWrong)

/-- 'thwartlaw20.TimerFires': WHATEVER THE INPUT: true; the input reads as it did. -/
def timerFiresSpec : ChangeSpec := { name := "timerFires", fn := fun _ => fun
  | [d1, d2] => { results := [.lit (.bool true)], args := [d1, d2] }
  | _ => none }
def timerFiresRow : OpenClaim := { program := "ytlnehjhhkfjggaa", sum := "7c35a0e3a0d2e30fb8ce0cd60cf8dc4a3aedc529ba96241d8860b7a635f3bb7c", func := "thwart/thwartlaw20.TimerFires", spec := "timerFires", apart := false }
def TimerFiresSaid : Prop := timerFiresRow.holds Try.pinned (OpenSpec.ofChange timerFiresSpec)

/-- ITS FALSE NEIGHBOUR: 'it returns false'. Refute it at one input. -/
def timerFiresWrong : ChangeSpec := { name := "timerFires", fn := fun _ => fun
  | [d1, d2] => { results := [.lit (.bool false)], args := [d1, d2] }
  | _ => none }
def TimerFiresWrongFalsely : Prop := timerFiresRow.holds Try.pinned (OpenSpec.ofChange timerFiresWrong)

/-- 'thwartlaw11.CheckSums': WHATEVER THE INPUT: true; the input reads as it did. -/
def checkSumsSpec : ChangeSpec := { name := "checkSums", fn := fun _ => fun
  | [d1, d2, d3] => { results := [.lit (.bool true)], args := [d1, d2, d3] }
  | _ => none }
def checkSumsRow : OpenClaim := { program := "ytlnehjhhkfjggaa", sum := "7c35a0e3a0d2e30fb8ce0cd60cf8dc4a3aedc529ba96241d8860b7a635f3bb7c", func := "thwart/thwartlaw11.CheckSums", spec := "checkSums", apart := false }
def CheckSumsSaid : Prop := checkSumsRow.holds Try.pinned (OpenSpec.ofChange checkSumsSpec)

/-- ITS FALSE NEIGHBOUR: 'it returns false'. Refute it at one input. -/
def checkSumsWrong : ChangeSpec := { name := "checkSums", fn := fun _ => fun
  | [d1, d2, d3] => { results := [.lit (.bool false)], args := [d1, d2, d3] }
  | _ => none }
def CheckSumsWrongFalsely : Prop := checkSumsRow.holds Try.pinned (OpenSpec.ofChange checkSumsWrong)

/-- 'thwartlaw11.CheckOpens': WHATEVER THE INPUT: true; the input reads as it did. -/
def checkOpensSpec : ChangeSpec := { name := "checkOpens", fn := fun _ => fun
  | [d] => { results := [.lit (.bool true)], args := [d] }
  | _ => none }
def checkOpensRow : OpenClaim := { program := "ytlnehjhhkfjggaa", sum := "7c35a0e3a0d2e30fb8ce0cd60cf8dc4a3aedc529ba96241d8860b7a635f3bb7c", func := "thwart/thwartlaw11.CheckOpens", spec := "checkOpens", apart := false }
def CheckOpensSaid : Prop := checkOpensRow.holds Try.pinned (OpenSpec.ofChange checkOpensSpec)

/-- ITS FALSE NEIGHBOUR: 'it returns false'. Refute it at one input. -/
def checkOpensWrong : ChangeSpec := { name := "checkOpens", fn := fun _ => fun
  | [d] => { results := [.lit (.bool false)], args := [d] }
  | _ => none }
def CheckOpensWrongFalsely : Prop := checkOpensRow.holds Try.pinned (OpenSpec.ofChange checkOpensWrong)

/-- 'thwartlaw11.CheckBack': WHATEVER THE INPUT: true; the input reads as it did. -/
def checkBackSpec : ChangeSpec := { name := "checkBack", fn := fun _ => fun
  | [d] => { results := [.lit (.bool true)], args := [d] }
  | _ => none }
def checkBackRow : OpenClaim := { program := "ytlnehjhhkfjggaa", sum := "7c35a0e3a0d2e30fb8ce0cd60cf8dc4a3aedc529ba96241d8860b7a635f3bb7c", func := "thwart/thwartlaw11.CheckBack", spec := "checkBack", apart := false }
def CheckBackSaid : Prop := checkBackRow.holds Try.pinned (OpenSpec.ofChange checkBackSpec)

/-- ITS FALSE NEIGHBOUR: 'it returns false'. Refute it at one input. -/
def checkBackWrong : ChangeSpec := { name := "checkBack", fn := fun _ => fun
  | [d] => { results := [.lit (.bool false)], args := [d] }
  | _ => none }
def CheckBackWrongFalsely : Prop := checkBackRow.holds Try.pinned (OpenSpec.ofChange checkBackWrong)

/-- 'thwartlaw11.CheckFinds': WHATEVER THE INPUT: true; the input reads as it did. -/
def checkFindsSpec : ChangeSpec := { name := "checkFinds", fn := fun _ => fun
  | [d1, d2, d3] => { results := [.lit (.bool true)], args := [d1, d2, d3] }
  | _ => none }
def checkFindsRow : OpenClaim := { program := "ytlnehjhhkfjggaa", sum := "7c35a0e3a0d2e30fb8ce0cd60cf8dc4a3aedc529ba96241d8860b7a635f3bb7c", func := "thwart/thwartlaw11.CheckFinds", spec := "checkFinds", apart := false }
def CheckFindsSaid : Prop := checkFindsRow.holds Try.pinned (OpenSpec.ofChange checkFindsSpec)

/-- ITS FALSE NEIGHBOUR: 'it returns false'. Refute it at one input. -/
def checkFindsWrong : ChangeSpec := { name := "checkFinds", fn := fun _ => fun
  | [d1, d2, d3] => { results := [.lit (.bool false)], args := [d1, d2, d3] }
  | _ => none }
def CheckFindsWrongFalsely : Prop := checkFindsRow.holds Try.pinned (OpenSpec.ofChange checkFindsWrong)

/-- 'thwartlaw20.TimerTicks': WHATEVER THE INPUT: true; the input reads as it did. -/
def timerTicksSpec : ChangeSpec := { name := "timerTicks", fn := fun _ => fun
  | [d1, d2] => { results := [.lit (.bool true)], args := [d1, d2] }
  | _ => none }
def timerTicksRow : OpenClaim := { program := "ytlnehjhhkfjggaa", sum := "7c35a0e3a0d2e30fb8ce0cd60cf8dc4a3aedc529ba96241d8860b7a635f3bb7c", func := "thwart/thwartlaw20.TimerTicks", spec := "timerTicks", apart := false }
def TimerTicksSaid : Prop := timerTicksRow.holds Try.pinned (OpenSpec.ofChange timerTicksSpec)

/-- ITS FALSE NEIGHBOUR: 'it returns false'. Refute it at one input. -/
def timerTicksWrong : ChangeSpec := { name := "timerTicks", fn := fun _ => fun
  | [d1, d2] => { results := [.lit (.bool false)], args := [d1, d2] }
  | _ => none }
def TimerTicksWrongFalsely : Prop := timerTicksRow.holds Try.pinned (OpenSpec.ofChange timerTicksWrong)

/-- 'thwartlaw20.TimerLongest': WHATEVER THE INPUT: true; the input reads as it did. -/
def timerLongestSpec : ChangeSpec := { name := "timerLongest", fn := fun _ => fun
  | [d] => { results := [.lit (.bool true)], args := [d] }
  | _ => none }
def timerLongestRow : OpenClaim := { program := "ytlnehjhhkfjggaa", sum := "7c35a0e3a0d2e30fb8ce0cd60cf8dc4a3aedc529ba96241d8860b7a635f3bb7c", func := "thwart/thwartlaw20.TimerLongest", spec := "timerLongest", apart := false }
def TimerLongestSaid : Prop := timerLongestRow.holds Try.pinned (OpenSpec.ofChange timerLongestSpec)

/-- ITS FALSE NEIGHBOUR: 'it returns false'. Refute it at one input. -/
def timerLongestWrong : ChangeSpec := { name := "timerLongest", fn := fun _ => fun
  | [d] => { results := [.lit (.bool false)], args := [d] }
  | _ => none }
def TimerLongestWrongFalsely : Prop := timerLongestRow.holds Try.pinned (OpenSpec.ofChange timerLongestWrong)

/- THE SECOND FORM. 'bulk': how many values and letters a reading holds, each counted each time it is reached (what is shared counts as often as it is met; a slice's spare places count too). A statement '..UptoSaid' is the law's where the arguments, and the package variables that the reading takes, are together of bulk at most 1048576: NARROWER than '..Said'. Prove '..Said' where nothing that the law and all that it calls make is longer than what came in: it says more and counts as full. Else prove '..UptoSaid'. A law counts once. -/
mutual
def uptoBulk {H : Type} : DataW H → Nat
  | .lit (.string bytes) => bytes.length + 1
  | .lit _ => 1
  | .nil => 1
  | .ptr d => uptoBulk d + 1
  | .slice elems spare => uptoBulkAll elems + uptoBulkAll spare + 1
  | .agg parts => uptoBulkAll parts + 1
  | .iface _ d => uptoBulk d + 1
  | .map entries => uptoBulkEntries entries + 1
  | .held _ => 1
def uptoBulkAll {H : Type} : List (DataW H) → Nat
  | [] => 0
  | d :: r => uptoBulk d + uptoBulkAll r
def uptoBulkEntries {H : Type} : List (Lit × DataW H) → Nat
  | [] => 0
  | x :: r => uptoBulkEntry x + uptoBulkEntries r
def uptoBulkEntry {H : Type} : Lit × DataW H → Nat
  | (.string bytes, d) => bytes.length + uptoBulk d + 1
  | (_, d) => uptoBulk d + 1
 end
def uptoSmall : (H : Type) → List (DataW H) → Bool := fun _ ds => decide (uptoBulkAll ds ≤ 1048576)
def OpenSpec.upto (s : _root_.Go.ChangeSpec) : _root_.Go.OpenSpec := { _root_.Go.OpenSpec.ofChange s with cond := some uptoSmall }

/-- 'thwartlaw18.DialTurns', WHERE WHAT IT READS IS OF BULK AT MOST 1048576: true; the input reads as it did. -/
def dialTurnsUptoRow : OpenClaim := { program := "ytlnehjhhkfjggaa", sum := "7c35a0e3a0d2e30fb8ce0cd60cf8dc4a3aedc529ba96241d8860b7a635f3bb7c", func := "thwart/thwartlaw18.DialTurns", spec := "dialTurns", apart := false, narrowed := true }
def DialTurnsUptoSaid : Prop := dialTurnsUptoRow.holds Try.pinned (OpenSpec.upto dialTurnsSpec)

/-- 'thwartlaw18.DialEpochs', WHERE WHAT IT READS IS OF BULK AT MOST 1048576: true; the input reads as it did. -/
def dialEpochsUptoRow : OpenClaim := { program := "ytlnehjhhkfjggaa", sum := "7c35a0e3a0d2e30fb8ce0cd60cf8dc4a3aedc529ba96241d8860b7a635f3bb7c", func := "thwart/thwartlaw18.DialEpochs", spec := "dialEpochs", apart := false, narrowed := true }
def DialEpochsUptoSaid : Prop := dialEpochsUptoRow.holds Try.pinned (OpenSpec.upto dialEpochsSpec)

/-- 'thwartlaw18.DialNext', WHERE WHAT IT READS IS OF BULK AT MOST 1048576: true; the input reads as it did. -/
def dialNextUptoRow : OpenClaim := { program := "ytlnehjhhkfjggaa", sum := "7c35a0e3a0d2e30fb8ce0cd60cf8dc4a3aedc529ba96241d8860b7a635f3bb7c", func := "thwart/thwartlaw18.DialNext", spec := "dialNext", apart := false, narrowed := true }
def DialNextUptoSaid : Prop := dialNextUptoRow.holds Try.pinned (OpenSpec.upto dialNextSpec)

/-- 'thwartlaw20.TimerFires', WHERE WHAT IT READS IS OF BULK AT MOST 1048576: true; the input reads as it did. -/
def timerFiresUptoRow : OpenClaim := { program := "ytlnehjhhkfjggaa", sum := "7c35a0e3a0d2e30fb8ce0cd60cf8dc4a3aedc529ba96241d8860b7a635f3bb7c", func := "thwart/thwartlaw20.TimerFires", spec := "timerFires", apart := false, narrowed := true }
def TimerFiresUptoSaid : Prop := timerFiresUptoRow.holds Try.pinned (OpenSpec.upto timerFiresSpec)

/-- 'thwartlaw11.CheckSums', WHERE WHAT IT READS IS OF BULK AT MOST 1048576: true; the input reads as it did. -/
def checkSumsUptoRow : OpenClaim := { program := "ytlnehjhhkfjggaa", sum := "7c35a0e3a0d2e30fb8ce0cd60cf8dc4a3aedc529ba96241d8860b7a635f3bb7c", func := "thwart/thwartlaw11.CheckSums", spec := "checkSums", apart := false, narrowed := true }
def CheckSumsUptoSaid : Prop := checkSumsUptoRow.holds Try.pinned (OpenSpec.upto checkSumsSpec)

/-- 'thwartlaw11.CheckOpens', WHERE WHAT IT READS IS OF BULK AT MOST 1048576: true; the input reads as it did. -/
def checkOpensUptoRow : OpenClaim := { program := "ytlnehjhhkfjggaa", sum := "7c35a0e3a0d2e30fb8ce0cd60cf8dc4a3aedc529ba96241d8860b7a635f3bb7c", func := "thwart/thwartlaw11.CheckOpens", spec := "checkOpens", apart := false, narrowed := true }
def CheckOpensUptoSaid : Prop := checkOpensUptoRow.holds Try.pinned (OpenSpec.upto checkOpensSpec)

/-- 'thwartlaw11.CheckBack', WHERE WHAT IT READS IS OF BULK AT MOST 1048576: true; the input reads as it did. -/
def checkBackUptoRow : OpenClaim := { program := "ytlnehjhhkfjggaa", sum := "7c35a0e3a0d2e30fb8ce0cd60cf8dc4a3aedc529ba96241d8860b7a635f3bb7c", func := "thwart/thwartlaw11.CheckBack", spec := "checkBack", apart := false, narrowed := true }
def CheckBackUptoSaid : Prop := checkBackUptoRow.holds Try.pinned (OpenSpec.upto checkBackSpec)

/-- 'thwartlaw11.CheckFinds', WHERE WHAT IT READS IS OF BULK AT MOST 1048576: true; the input reads as it did. -/
def checkFindsUptoRow : OpenClaim := { program := "ytlnehjhhkfjggaa", sum := "7c35a0e3a0d2e30fb8ce0cd60cf8dc4a3aedc529ba96241d8860b7a635f3bb7c", func := "thwart/thwartlaw11.CheckFinds", spec := "checkFinds", apart := false, narrowed := true }
def CheckFindsUptoSaid : Prop := checkFindsUptoRow.holds Try.pinned (OpenSpec.upto checkFindsSpec)

/-- 'thwartlaw20.TimerTicks', WHERE WHAT IT READS IS OF BULK AT MOST 1048576: true; the input reads as it did. -/
def timerTicksUptoRow : OpenClaim := { program := "ytlnehjhhkfjggaa", sum := "7c35a0e3a0d2e30fb8ce0cd60cf8dc4a3aedc529ba96241d8860b7a635f3bb7c", func := "thwart/thwartlaw20.TimerTicks", spec := "timerTicks", apart := false, narrowed := true }
def TimerTicksUptoSaid : Prop := timerTicksUptoRow.holds Try.pinned (OpenSpec.upto timerTicksSpec)

/-- 'thwartlaw20.TimerLongest', WHERE WHAT IT READS IS OF BULK AT MOST 1048576: true; the input reads as it did. -/
def timerLongestUptoRow : OpenClaim := { program := "ytlnehjhhkfjggaa", sum := "7c35a0e3a0d2e30fb8ce0cd60cf8dc4a3aedc529ba96241d8860b7a635f3bb7c", func := "thwart/thwartlaw20.TimerLongest", spec := "timerLongest", apart := false, narrowed := true }
def TimerLongestUptoSaid : Prop := timerLongestUptoRow.holds Try.pinned (OpenSpec.upto timerLongestSpec)

end Rows
end Go.Proofs.Ytlnehjhhkfjggaa
