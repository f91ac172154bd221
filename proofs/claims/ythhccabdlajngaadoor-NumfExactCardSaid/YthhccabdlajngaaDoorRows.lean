/-
  NARROWER THAN 'FOR EVERY INPUT', by the rows' own cells (each row's printed sentence says how): NumfLays: laid · NumfReads: laid · NumfBack: laid · NumfExact: laid.
  DERIVED. THE GIVEN ROWS OF THIS SEAT. 4 by the template 'for every input the law returns true; each argument reads behind the call as it read before'; 0 by the template 'total and deterministic' (their statements: YthhccabdlajngaaDoorTotals.lean).
  GIVEN WITH THE SEED: the statements are not yours to turn. If you find one false, say at which input.
  Laid BY PROGRAM, IN A SANDBOX (cutbox-rows.mjs): the forced cells as the released guide's own fill.sh prints them over the translation b23a1dc39a03810d… (all of the seat's roots in one cut). By AI agents, Wed Nov 11 2026. No macro, syntax, notation, axiom, sorry.
-/
import Derived.Test.YthhccabdlajngaaDoorChecked
import GoSem.PinnedTables
import GoSem.Claim
import GoSem.ClaimJoined
import GoSem.ClaimMapViews
import Derived.JoinedTies
import Derived.KernelRfl
namespace Go.Proofs.YthhccabdlajngaaDoor
/- THE CELL 'sum', in the pinned program and in every row, IS THE sha256 OF THE DUMP (.gsa) THAT YthhccabdlajngaaDoorProg.lean LOADS. Nothing in Lean hashes anything: it is a label: what it is worth is what the hold of that sum in a sandbox is worth. -/
noncomputable def Tryd.pinned : Pinned := { name := "ythhccabdlajngaadoor", sum := "b23a1dc39a03810daa00af9e2e27f0eee1bf244626253618c6d777cf58a0fc77", checked := Tryd.checked }
namespace Rows
def none {H : Type} : Left H := { results := [], args := [] }

/- WHAT THE LISTED PACKAGE-LEVEL VARIABLES READ AS WHEN THE CALL BEGINS. Each datum BY PROGRAM (the guide's laid-datum.mjs) off the statement by which the dump's own 'gosem.cut.vars' lays the variable. In a bare row this is a premise. The card (YthhccabdlajngaaDoorCards.lean) ties it to the program's text. -/
def laid_unicode_utf8_acceptRanges {H : Type} : DataW H := .agg [.agg [.lit (.int .u8 128), .lit (.int .u8 191)], .agg [.lit (.int .u8 160), .lit (.int .u8 191)], .agg [.lit (.int .u8 128), .lit (.int .u8 159)], .agg [.lit (.int .u8 144), .lit (.int .u8 191)], .agg [.lit (.int .u8 128), .lit (.int .u8 143)], .agg [.lit (.int .u8 0), .lit (.int .u8 0)], .agg [.lit (.int .u8 0), .lit (.int .u8 0)], .agg [.lit (.int .u8 0), .lit (.int .u8 0)], .agg [.lit (.int .u8 0), .lit (.int .u8 0)], .agg [.lit (.int .u8 0), .lit (.int .u8 0)], .agg [.lit (.int .u8 0), .lit (.int .u8 0)], .agg [.lit (.int .u8 0), .lit (.int .u8 0)], .agg [.lit (.int .u8 0), .lit (.int .u8 0)], .agg [.lit (.int .u8 0), .lit (.int .u8 0)], .agg [.lit (.int .u8 0), .lit (.int .u8 0)], .agg [.lit (.int .u8 0), .lit (.int .u8 0)]]
/-- One of Go's own tables, pinned by name: the form's constant. -/
def laid_unicode_utf8_first : DataW Unit := Go.Pinned.utf8First

/-- 'thwartlaw01.NumfLays': WHATEVER THE INPUT: true; the input reads as it did. -/
def numfLaysSpec : ChangeSpec := { name := "numfLays", fn := fun _ => fun
  | [d1, d2, d3] => { results := [.lit (.bool true)], args := [d1, d2, d3] }
  | _ => none }
def numfLaysRow : OpenClaim := { program := "ythhccabdlajngaadoor", sum := "b23a1dc39a03810daa00af9e2e27f0eee1bf244626253618c6d777cf58a0fc77", func := "thwart/thwartlaw01.NumfLays", spec := "numfLays", named := ["unicode/utf8.first", "unicode/utf8.acceptRanges"], apart := false, laid := [("unicode/utf8.acceptRanges", laid_unicode_utf8_acceptRanges), ("unicode/utf8.first", laid_unicode_utf8_first)] }
def NumfLaysSaid : Prop := numfLaysRow.holds Tryd.pinned (OpenSpec.ofChange numfLaysSpec)

/-- ITS FALSE NEIGHBOUR: 'it returns false'. Refute it at one input. -/
def numfLaysWrong : ChangeSpec := { name := "numfLays", fn := fun _ => fun
  | [d1, d2, d3] => { results := [.lit (.bool false)], args := [d1, d2, d3] }
  | _ => none }
def NumfLaysWrongFalsely : Prop := numfLaysRow.holds Tryd.pinned (OpenSpec.ofChange numfLaysWrong)

/-- 'thwartlaw01.NumfReads': WHATEVER THE INPUT: true; the input reads as it did. -/
def numfReadsSpec : ChangeSpec := { name := "numfReads", fn := fun _ => fun
  | [d] => { results := [.lit (.bool true)], args := [d] }
  | _ => none }
def numfReadsRow : OpenClaim := { program := "ythhccabdlajngaadoor", sum := "b23a1dc39a03810daa00af9e2e27f0eee1bf244626253618c6d777cf58a0fc77", func := "thwart/thwartlaw01.NumfReads", spec := "numfReads", named := ["unicode/utf8.first", "unicode/utf8.acceptRanges"], apart := false, laid := [("unicode/utf8.acceptRanges", laid_unicode_utf8_acceptRanges), ("unicode/utf8.first", laid_unicode_utf8_first)] }
def NumfReadsSaid : Prop := numfReadsRow.holds Tryd.pinned (OpenSpec.ofChange numfReadsSpec)

/-- ITS FALSE NEIGHBOUR: 'it returns false'. Refute it at one input. -/
def numfReadsWrong : ChangeSpec := { name := "numfReads", fn := fun _ => fun
  | [d] => { results := [.lit (.bool false)], args := [d] }
  | _ => none }
def NumfReadsWrongFalsely : Prop := numfReadsRow.holds Tryd.pinned (OpenSpec.ofChange numfReadsWrong)

/-- 'thwartlaw01.NumfBack': WHATEVER THE INPUT: true; the input reads as it did. -/
def numfBackSpec : ChangeSpec := { name := "numfBack", fn := fun _ => fun
  | [d1, d2] => { results := [.lit (.bool true)], args := [d1, d2] }
  | _ => none }
def numfBackRow : OpenClaim := { program := "ythhccabdlajngaadoor", sum := "b23a1dc39a03810daa00af9e2e27f0eee1bf244626253618c6d777cf58a0fc77", func := "thwart/thwartlaw01.NumfBack", spec := "numfBack", named := ["unicode/utf8.first", "unicode/utf8.acceptRanges"], apart := false, laid := [("unicode/utf8.acceptRanges", laid_unicode_utf8_acceptRanges), ("unicode/utf8.first", laid_unicode_utf8_first)] }
def NumfBackSaid : Prop := numfBackRow.holds Tryd.pinned (OpenSpec.ofChange numfBackSpec)

/-- ITS FALSE NEIGHBOUR: 'it returns false'. Refute it at one input. -/
def numfBackWrong : ChangeSpec := { name := "numfBack", fn := fun _ => fun
  | [d1, d2] => { results := [.lit (.bool false)], args := [d1, d2] }
  | _ => none }
def NumfBackWrongFalsely : Prop := numfBackRow.holds Tryd.pinned (OpenSpec.ofChange numfBackWrong)

/-- 'thwartlaw01.NumfExact': WHATEVER THE INPUT: true; the input reads as it did. -/
def numfExactSpec : ChangeSpec := { name := "numfExact", fn := fun _ => fun
  | [d] => { results := [.lit (.bool true)], args := [d] }
  | _ => none }
def numfExactRow : OpenClaim := { program := "ythhccabdlajngaadoor", sum := "b23a1dc39a03810daa00af9e2e27f0eee1bf244626253618c6d777cf58a0fc77", func := "thwart/thwartlaw01.NumfExact", spec := "numfExact", named := ["unicode/utf8.first", "unicode/utf8.acceptRanges"], apart := false, laid := [("unicode/utf8.acceptRanges", laid_unicode_utf8_acceptRanges), ("unicode/utf8.first", laid_unicode_utf8_first)] }
def NumfExactSaid : Prop := numfExactRow.holds Tryd.pinned (OpenSpec.ofChange numfExactSpec)

/-- ITS FALSE NEIGHBOUR: 'it returns false'. Refute it at one input. -/
def numfExactWrong : ChangeSpec := { name := "numfExact", fn := fun _ => fun
  | [d] => { results := [.lit (.bool false)], args := [d] }
  | _ => none }
def NumfExactWrongFalsely : Prop := numfExactRow.holds Tryd.pinned (OpenSpec.ofChange numfExactWrong)

/- THE SECOND FORM. 'bulk': how many values and letters a reading holds, each counted each time it is reached (what is shared counts as often as it is met; a slice's spare places count too). A statement '..UptoSaid' is the law's where the arguments, and the package variables that the reading takes, are together of bulk at most 1048576: NARROWER than '..Said'. Prove '..Said' where nothing that the law and all that it calls make is longer than what came in: it says more and counts as full. Else prove '..UptoSaid'. A law counts once. -/
mutual
def uptoBulk {H : Type} : DataW H → Nat
  | .lit (.string bytes) => bytes.length + 1
  | .lit _ => 1
  | .nil => 1
  | .ptr d => uptoBulk d + 1
  | .slice elems spare => uptoBulkAll elems + uptoBulkAll spare + 1
  | .agg parts => uptoBulkAll parts + 1
  | .iface _ d => uptoBulk d + 1
  | .map entries => uptoBulkEntries entries + 1
  | .held _ => 1
def uptoBulkAll {H : Type} : List (DataW H) → Nat
  | [] => 0
  | d :: r => uptoBulk d + uptoBulkAll r
def uptoBulkEntries {H : Type} : List (Lit × DataW H) → Nat
  | [] => 0
  | x :: r => uptoBulkEntry x + uptoBulkEntries r
def uptoBulkEntry {H : Type} : Lit × DataW H → Nat
  | (.string bytes, d) => bytes.length + uptoBulk d + 1
  | (_, d) => uptoBulk d + 1
 end
def uptoSmall : (H : Type) → List (DataW H) → Bool := fun _ ds => decide (uptoBulkAll ds ≤ 1048576)
def OpenSpec.upto (s : _root_.Go.ChangeSpec) : _root_.Go.OpenSpec := { _root_.Go.OpenSpec.ofChange s with cond := some uptoSmall }

/-- 'thwartlaw01.NumfLays', WHERE WHAT IT READS IS OF BULK AT MOST 1048576: true; the input reads as it did. -/
def numfLaysUptoRow : OpenClaim := { program := "ythhccabdlajngaadoor", sum := "b23a1dc39a03810daa00af9e2e27f0eee1bf244626253618c6d777cf58a0fc77", func := "thwart/thwartlaw01.NumfLays", spec := "numfLays", named := ["unicode/utf8.first", "unicode/utf8.acceptRanges"], apart := false, laid := [("unicode/utf8.acceptRanges", laid_unicode_utf8_acceptRanges), ("unicode/utf8.first", laid_unicode_utf8_first)], narrowed := true }
def NumfLaysUptoSaid : Prop := numfLaysUptoRow.holds Tryd.pinned (OpenSpec.upto numfLaysSpec)

/-- 'thwartlaw01.NumfReads', WHERE WHAT IT READS IS OF BULK AT MOST 1048576: true; the input reads as it did. -/
def numfReadsUptoRow : OpenClaim := { program := "ythhccabdlajngaadoor", sum := "b23a1dc39a03810daa00af9e2e27f0eee1bf244626253618c6d777cf58a0fc77", func := "thwart/thwartlaw01.NumfReads", spec := "numfReads", named := ["unicode/utf8.first", "unicode/utf8.acceptRanges"], apart := false, laid := [("unicode/utf8.acceptRanges", laid_unicode_utf8_acceptRanges), ("unicode/utf8.first", laid_unicode_utf8_first)], narrowed := true }
def NumfReadsUptoSaid : Prop := numfReadsUptoRow.holds Tryd.pinned (OpenSpec.upto numfReadsSpec)

/-- 'thwartlaw01.NumfBack', WHERE WHAT IT READS IS OF BULK AT MOST 1048576: true; the input reads as it did. -/
def numfBackUptoRow : OpenClaim := { program := "ythhccabdlajngaadoor", sum := "b23a1dc39a03810daa00af9e2e27f0eee1bf244626253618c6d777cf58a0fc77", func := "thwart/thwartlaw01.NumfBack", spec := "numfBack", named := ["unicode/utf8.first", "unicode/utf8.acceptRanges"], apart := false, laid := [("unicode/utf8.acceptRanges", laid_unicode_utf8_acceptRanges), ("unicode/utf8.first", laid_unicode_utf8_first)], narrowed := true }
def NumfBackUptoSaid : Prop := numfBackUptoRow.holds Tryd.pinned (OpenSpec.upto numfBackSpec)

/-- 'thwartlaw01.NumfExact', WHERE WHAT IT READS IS OF BULK AT MOST 1048576: true; the input reads as it did. -/
def numfExactUptoRow : OpenClaim := { program := "ythhccabdlajngaadoor", sum := "b23a1dc39a03810daa00af9e2e27f0eee1bf244626253618c6d777cf58a0fc77", func := "thwart/thwartlaw01.NumfExact", spec := "numfExact", named := ["unicode/utf8.first", "unicode/utf8.acceptRanges"], apart := false, laid := [("unicode/utf8.acceptRanges", laid_unicode_utf8_acceptRanges), ("unicode/utf8.first", laid_unicode_utf8_first)], narrowed := true }
def NumfExactUptoSaid : Prop := numfExactUptoRow.holds Tryd.pinned (OpenSpec.upto numfExactSpec)

end Rows
end Go.Proofs.YthhccabdlajngaaDoor
