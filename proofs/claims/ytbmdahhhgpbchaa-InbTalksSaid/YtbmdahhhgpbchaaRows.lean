/-
  No cell of these rows narrows 'for every input' (looked for: loops, veiled, ifaces, maps, wideKeys, modest, calm, conditions, laid).
  DERIVED. THE GIVEN ROWS OF THIS SEAT. 8 by the template 'for every input the law returns true; each argument reads behind the call as it read before'; 0 by the template 'total and deterministic' (their statements: YtbmdahhhgpbchaaTotals.lean).
  GIVEN WITH THE SEED: the statements are not yours to turn. If you find one false, say at which input.
  Laid BY PROGRAM, IN A SANDBOX (cutbox-rows.mjs): the forced cells as the released guide's own fill.sh prints them over the translation 6cf331b4740fc84a… (all of the seat's roots in one cut). By AI agents, Wed Nov 11 2026. No macro, syntax, notation, axiom, sorry.
-/
import Derived.Test.YtbmdahhhgpbchaaChecked
import GoSem.Claim
import GoSem.ClaimJoined
import GoSem.ClaimMapViews
import Derived.JoinedTies
import Derived.KernelRfl
namespace Go.Proofs.Ytbmdahhhgpbchaa
/- THE CELL 'sum', in the pinned program and in every row, IS THE sha256 OF THE DUMP (.gsa) THAT YtbmdahhhgpbchaaProg.lean LOADS. Nothing in Lean hashes anything: it is a label: what it is worth is what the hold of that sum in a sandbox is worth. -/
noncomputable def Try.pinned : Pinned := { name := "ytbmdahhhgpbchaa", sum := "6cf331b4740fc84adf3ff39304535fede6e139dc63a98011b20982c27d6f7df4", checked := Try.checked }
namespace Rows
def none {H : Type} : Left H := { results := [], args := [] }

/-- 'thwartlaw25.InbSpans': WHATEVER THE INPUT: true; the input reads as it did. -/
def inbSpansSpec : ChangeSpec := { name := "inbSpans", fn := fun _ => fun
  | [d1, d2] => { results := [.lit (.bool true)], args := [d1, d2] }
  | _ => none }
def inbSpansRow : OpenClaim := { program := "ytbmdahhhgpbchaa", sum := "6cf331b4740fc84adf3ff39304535fede6e139dc63a98011b20982c27d6f7df4", func := "thwart/thwartlaw25.InbSpans", spec := "inbSpans", apart := false }
def InbSpansSaid : Prop := inbSpansRow.holds Try.pinned (OpenSpec.ofChange inbSpansSpec)

/-- ITS FALSE NEIGHBOUR: 'it returns false'. Refute it at one input. -/
def inbSpansWrong : ChangeSpec := { name := "inbSpans", fn := fun _ => fun
  | [d1, d2] => { results := [.lit (.bool false)], args := [d1, d2] }
  | _ => none }
def InbSpansWrongFalsely : Prop := inbSpansRow.holds Try.pinned (OpenSpec.ofChange inbSpansWrong)

/-- 'thwartlaw25.InbPlays': WHATEVER THE INPUT: true; the input reads as it did. -/
def inbPlaysSpec : ChangeSpec := { name := "inbPlays", fn := fun _ => fun
  | [d1, d2, d3] => { results := [.lit (.bool true)], args := [d1, d2, d3] }
  | _ => none }
def inbPlaysRow : OpenClaim := { program := "ytbmdahhhgpbchaa", sum := "6cf331b4740fc84adf3ff39304535fede6e139dc63a98011b20982c27d6f7df4", func := "thwart/thwartlaw25.InbPlays", spec := "inbPlays", apart := false }
def InbPlaysSaid : Prop := inbPlaysRow.holds Try.pinned (OpenSpec.ofChange inbPlaysSpec)

/-- ITS FALSE NEIGHBOUR: 'it returns false'. Refute it at one input. -/
def inbPlaysWrong : ChangeSpec := { name := "inbPlays", fn := fun _ => fun
  | [d1, d2, d3] => { results := [.lit (.bool false)], args := [d1, d2, d3] }
  | _ => none }
def InbPlaysWrongFalsely : Prop := inbPlaysRow.holds Try.pinned (OpenSpec.ofChange inbPlaysWrong)

/-- 'thwartlaw24.OutbEnds': WHATEVER THE INPUT: true; the input reads as it did. -/
def outbEndsSpec : ChangeSpec := { name := "outbEnds", fn := fun _ => fun
  | [d] => { results := [.lit (.bool true)], args := [d] }
  | _ => none }
def outbEndsRow : OpenClaim := { program := "ytbmdahhhgpbchaa", sum := "6cf331b4740fc84adf3ff39304535fede6e139dc63a98011b20982c27d6f7df4", func := "thwart/thwartlaw24.OutbEnds", spec := "outbEnds", unfollowed := true, recurses := true, apart := false }
def OutbEndsSaid : Prop := outbEndsRow.holds Try.pinned (OpenSpec.ofChange outbEndsSpec)

/-- ITS FALSE NEIGHBOUR: 'it returns false'. Refute it at one input. -/
def outbEndsWrong : ChangeSpec := { name := "outbEnds", fn := fun _ => fun
  | [d] => { results := [.lit (.bool false)], args := [d] }
  | _ => none }
def OutbEndsWrongFalsely : Prop := outbEndsRow.holds Try.pinned (OpenSpec.ofChange outbEndsWrong)

/-- 'thwartlaw24.OutbPieces': WHATEVER THE INPUT: true; the input reads as it did. -/
def outbPiecesSpec : ChangeSpec := { name := "outbPieces", fn := fun _ => fun
  | [d1, d2] => { results := [.lit (.bool true)], args := [d1, d2] }
  | _ => none }
def outbPiecesRow : OpenClaim := { program := "ytbmdahhhgpbchaa", sum := "6cf331b4740fc84adf3ff39304535fede6e139dc63a98011b20982c27d6f7df4", func := "thwart/thwartlaw24.OutbPieces", spec := "outbPieces", unfollowed := true, recurses := true, apart := false }
def OutbPiecesSaid : Prop := outbPiecesRow.holds Try.pinned (OpenSpec.ofChange outbPiecesSpec)

/-- ITS FALSE NEIGHBOUR: 'it returns false'. Refute it at one input. -/
def outbPiecesWrong : ChangeSpec := { name := "outbPieces", fn := fun _ => fun
  | [d1, d2] => { results := [.lit (.bool false)], args := [d1, d2] }
  | _ => none }
def OutbPiecesWrongFalsely : Prop := outbPiecesRow.holds Try.pinned (OpenSpec.ofChange outbPiecesWrong)

/-- 'thwartlaw24.OutbPlays': WHATEVER THE INPUT: true; the input reads as it did. -/
def outbPlaysSpec : ChangeSpec := { name := "outbPlays", fn := fun _ => fun
  | [d1, d2, d3] => { results := [.lit (.bool true)], args := [d1, d2, d3] }
  | _ => none }
def outbPlaysRow : OpenClaim := { program := "ytbmdahhhgpbchaa", sum := "6cf331b4740fc84adf3ff39304535fede6e139dc63a98011b20982c27d6f7df4", func := "thwart/thwartlaw24.OutbPlays", spec := "outbPlays", unfollowed := true, recurses := true, apart := false }
def OutbPlaysSaid : Prop := outbPlaysRow.holds Try.pinned (OpenSpec.ofChange outbPlaysSpec)

/-- ITS FALSE NEIGHBOUR: 'it returns false'. Refute it at one input. -/
def outbPlaysWrong : ChangeSpec := { name := "outbPlays", fn := fun _ => fun
  | [d1, d2, d3] => { results := [.lit (.bool false)], args := [d1, d2, d3] }
  | _ => none }
def OutbPlaysWrongFalsely : Prop := outbPlaysRow.holds Try.pinned (OpenSpec.ofChange outbPlaysWrong)

/-- 'thwartlaw30.SendmStrange': WHATEVER THE INPUT: true; the input reads as it did. -/
def sendmStrangeSpec : ChangeSpec := { name := "sendmStrange", fn := fun _ => fun
  | [d1, d2, d3] => { results := [.lit (.bool true)], args := [d1, d2, d3] }
  | _ => none }
def sendmStrangeRow : OpenClaim := { program := "ytbmdahhhgpbchaa", sum := "6cf331b4740fc84adf3ff39304535fede6e139dc63a98011b20982c27d6f7df4", func := "thwart/thwartlaw30.SendmStrange", spec := "sendmStrange", unfollowed := true, recurses := true, apart := false }
def SendmStrangeSaid : Prop := sendmStrangeRow.holds Try.pinned (OpenSpec.ofChange sendmStrangeSpec)

/-- ITS FALSE NEIGHBOUR: 'it returns false'. Refute it at one input. -/
def sendmStrangeWrong : ChangeSpec := { name := "sendmStrange", fn := fun _ => fun
  | [d1, d2, d3] => { results := [.lit (.bool false)], args := [d1, d2, d3] }
  | _ => none }
def SendmStrangeWrongFalsely : Prop := sendmStrangeRow.holds Try.pinned (OpenSpec.ofChange sendmStrangeWrong)

/-- 'thwartlaw25.InbTalks': WHATEVER THE INPUT: true; the input reads as it did. -/
def inbTalksSpec : ChangeSpec := { name := "inbTalks", fn := fun _ => fun
  | [d1, d2] => { results := [.lit (.bool true)], args := [d1, d2] }
  | _ => none }
def inbTalksRow : OpenClaim := { program := "ytbmdahhhgpbchaa", sum := "6cf331b4740fc84adf3ff39304535fede6e139dc63a98011b20982c27d6f7df4", func := "thwart/thwartlaw25.InbTalks", spec := "inbTalks", unfollowed := true, recurses := true, apart := false }
def InbTalksSaid : Prop := inbTalksRow.holds Try.pinned (OpenSpec.ofChange inbTalksSpec)

/-- ITS FALSE NEIGHBOUR: 'it returns false'. Refute it at one input. -/
def inbTalksWrong : ChangeSpec := { name := "inbTalks", fn := fun _ => fun
  | [d1, d2] => { results := [.lit (.bool false)], args := [d1, d2] }
  | _ => none }
def InbTalksWrongFalsely : Prop := inbTalksRow.holds Try.pinned (OpenSpec.ofChange inbTalksWrong)

/-- 'thwartlaw30.SendmSays': WHATEVER THE INPUT: true; the input reads as it did. -/
def sendmSaysSpec : ChangeSpec := { name := "sendmSays", fn := fun _ => fun
  | [d1, d2, d3] => { results := [.lit (.bool true)], args := [d1, d2, d3] }
  | _ => none }
def sendmSaysRow : OpenClaim := { program := "ytbmdahhhgpbchaa", sum := "6cf331b4740fc84adf3ff39304535fede6e139dc63a98011b20982c27d6f7df4", func := "thwart/thwartlaw30.SendmSays", spec := "sendmSays", unfollowed := true, recurses := true, apart := false }
def SendmSaysSaid : Prop := sendmSaysRow.holds Try.pinned (OpenSpec.ofChange sendmSaysSpec)

/-- ITS FALSE NEIGHBOUR: 'it returns false'. Refute it at one input. -/
def sendmSaysWrong : ChangeSpec := { name := "sendmSays", fn := fun _ => fun
  | [d1, d2, d3] => { results := [.lit (.bool false)], args := [d1, d2, d3] }
  | _ => none }
def SendmSaysWrongFalsely : Prop := sendmSaysRow.holds Try.pinned (OpenSpec.ofChange sendmSaysWrong)

/- THE SECOND FORM. 'bulk': how many values and letters a reading holds, each counted each time it is reached (what is shared counts as often as it is met; a slice's spare places count too). A statement '..UptoSaid' is the law's where the arguments, and the package variables that the reading takes, are together of bulk at most 1048576: NARROWER than '..Said'. Prove '..Said' where nothing that the law and all that it calls make is longer than what came in: it says more and counts as full. Else prove '..UptoSaid'. A law counts once. -/
mutual
def uptoBulk {H : Type} : DataW H → Nat
  | .lit (.string bytes) => bytes.length + 1
  | .lit _ => 1
  | .nil => 1
  | .ptr d => uptoBulk d + 1
  | .slice elems spare => uptoBulkAll elems + uptoBulkAll spare + 1
  | .agg parts => uptoBulkAll parts + 1
  | .iface _ d => uptoBulk d + 1
  | .map entries => uptoBulkEntries entries + 1
  | .held _ => 1
def uptoBulkAll {H : Type} : List (DataW H) → Nat
  | [] => 0
  | d :: r => uptoBulk d + uptoBulkAll r
def uptoBulkEntries {H : Type} : List (Lit × DataW H) → Nat
  | [] => 0
  | x :: r => uptoBulkEntry x + uptoBulkEntries r
def uptoBulkEntry {H : Type} : Lit × DataW H → Nat
  | (.string bytes, d) => bytes.length + uptoBulk d + 1
  | (_, d) => uptoBulk d + 1
 end
def uptoSmall : (H : Type) → List (DataW H) → Bool := fun _ ds => decide (uptoBulkAll ds ≤ 1048576)
def OpenSpec.upto (s : _root_.Go.ChangeSpec) : _root_.Go.OpenSpec := { _root_.Go.OpenSpec.ofChange s with cond := some uptoSmall }

/-- 'thwartlaw25.InbSpans', WHERE WHAT IT READS IS OF BULK AT MOST 1048576: true; the input reads as it did. -/
def inbSpansUptoRow : OpenClaim := { program := "ytbmdahhhgpbchaa", sum := "6cf331b4740fc84adf3ff39304535fede6e139dc63a98011b20982c27d6f7df4", func := "thwart/thwartlaw25.InbSpans", spec := "inbSpans", apart := false, narrowed := true }
def InbSpansUptoSaid : Prop := inbSpansUptoRow.holds Try.pinned (OpenSpec.upto inbSpansSpec)

/-- 'thwartlaw25.InbPlays', WHERE WHAT IT READS IS OF BULK AT MOST 1048576: true; the input reads as it did. -/
def inbPlaysUptoRow : OpenClaim := { program := "ytbmdahhhgpbchaa", sum := "6cf331b4740fc84adf3ff39304535fede6e139dc63a98011b20982c27d6f7df4", func := "thwart/thwartlaw25.InbPlays", spec := "inbPlays", apart := false, narrowed := true }
def InbPlaysUptoSaid : Prop := inbPlaysUptoRow.holds Try.pinned (OpenSpec.upto inbPlaysSpec)

/-- 'thwartlaw24.OutbEnds', WHERE WHAT IT READS IS OF BULK AT MOST 1048576: true; the input reads as it did. -/
def outbEndsUptoRow : OpenClaim := { program := "ytbmdahhhgpbchaa", sum := "6cf331b4740fc84adf3ff39304535fede6e139dc63a98011b20982c27d6f7df4", func := "thwart/thwartlaw24.OutbEnds", spec := "outbEnds", unfollowed := true, recurses := true, apart := false, narrowed := true }
def OutbEndsUptoSaid : Prop := outbEndsUptoRow.holds Try.pinned (OpenSpec.upto outbEndsSpec)

/-- 'thwartlaw24.OutbPieces', WHERE WHAT IT READS IS OF BULK AT MOST 1048576: true; the input reads as it did. -/
def outbPiecesUptoRow : OpenClaim := { program := "ytbmdahhhgpbchaa", sum := "6cf331b4740fc84adf3ff39304535fede6e139dc63a98011b20982c27d6f7df4", func := "thwart/thwartlaw24.OutbPieces", spec := "outbPieces", unfollowed := true, recurses := true, apart := false, narrowed := true }
def OutbPiecesUptoSaid : Prop := outbPiecesUptoRow.holds Try.pinned (OpenSpec.upto outbPiecesSpec)

/-- 'thwartlaw24.OutbPlays', WHERE WHAT IT READS IS OF BULK AT MOST 1048576: true; the input reads as it did. -/
def outbPlaysUptoRow : OpenClaim := { program := "ytbmdahhhgpbchaa", sum := "6cf331b4740fc84adf3ff39304535fede6e139dc63a98011b20982c27d6f7df4", func := "thwart/thwartlaw24.OutbPlays", spec := "outbPlays", unfollowed := true, recurses := true, apart := false, narrowed := true }
def OutbPlaysUptoSaid : Prop := outbPlaysUptoRow.holds Try.pinned (OpenSpec.upto outbPlaysSpec)

/-- 'thwartlaw30.SendmStrange', WHERE WHAT IT READS IS OF BULK AT MOST 1048576: true; the input reads as it did. -/
def sendmStrangeUptoRow : OpenClaim := { program := "ytbmdahhhgpbchaa", sum := "6cf331b4740fc84adf3ff39304535fede6e139dc63a98011b20982c27d6f7df4", func := "thwart/thwartlaw30.SendmStrange", spec := "sendmStrange", unfollowed := true, recurses := true, apart := false, narrowed := true }
def SendmStrangeUptoSaid : Prop := sendmStrangeUptoRow.holds Try.pinned (OpenSpec.upto sendmStrangeSpec)

/-- 'thwartlaw25.InbTalks', WHERE WHAT IT READS IS OF BULK AT MOST 1048576: true; the input reads as it did. -/
def inbTalksUptoRow : OpenClaim := { program := "ytbmdahhhgpbchaa", sum := "6cf331b4740fc84adf3ff39304535fede6e139dc63a98011b20982c27d6f7df4", func := "thwart/thwartlaw25.InbTalks", spec := "inbTalks", unfollowed := true, recurses := true, apart := false, narrowed := true }
def InbTalksUptoSaid : Prop := inbTalksUptoRow.holds Try.pinned (OpenSpec.upto inbTalksSpec)

/-- 'thwartlaw30.SendmSays', WHERE WHAT IT READS IS OF BULK AT MOST 1048576: true; the input reads as it did. -/
def sendmSaysUptoRow : OpenClaim := { program := "ytbmdahhhgpbchaa", sum := "6cf331b4740fc84adf3ff39304535fede6e139dc63a98011b20982c27d6f7df4", func := "thwart/thwartlaw30.SendmSays", spec := "sendmSays", unfollowed := true, recurses := true, apart := false, narrowed := true }
def SendmSaysUptoSaid : Prop := sendmSaysUptoRow.holds Try.pinned (OpenSpec.upto sendmSaysSpec)

end Rows
end Go.Proofs.Ytbmdahhhgpbchaa
