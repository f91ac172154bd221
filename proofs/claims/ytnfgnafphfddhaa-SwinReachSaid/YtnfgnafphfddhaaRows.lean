/-
  No cell of these rows narrows 'for every input' (looked for: loops, veiled, ifaces, maps, wideKeys, modest, calm, conditions, laid).
  DERIVED. THE GIVEN ROWS OF THIS SEAT. 11 by the template 'for every input the law returns true; each argument reads behind the call as it read before'; 0 by the template 'total and deterministic' (their statements: YtnfgnafphfddhaaTotals.lean).
  GIVEN WITH THE SEED: the statements are not yours to turn. If you find one false, say at which input.
  Laid BY PROGRAM, IN A SANDBOX (cutbox-rows.mjs): the forced cells as the released guide's own fill.sh prints them over the translation febb0eb3ae4a2bff… (all of the seat's roots in one cut). By AI agents, Wed Nov 11 2026. No macro, syntax, notation, axiom, sorry.
-/
import Derived.Test.YtnfgnafphfddhaaChecked
import GoSem.Claim
import GoSem.ClaimJoined
import GoSem.ClaimMapViews
import Derived.JoinedTies
import Derived.KernelRfl
namespace Go.Proofs.Ytnfgnafphfddhaa
/- THE CELL 'sum', in the pinned program and in every row, IS THE sha256 OF THE DUMP (.gsa) THAT YtnfgnafphfddhaaProg.lean LOADS. Nothing in Lean hashes anything: it is a label: what it is worth is what the hold of that sum in a sandbox is worth. -/
noncomputable def Try.pinned : Pinned := { name := "ytnfgnafphfddhaa", sum := "febb0eb3ae4a2bffe552442ab6c03ad36bbf3b6cfb3ee53105d272341ef60b26", checked := Try.checked }
namespace Rows
def none {H : Type} : Left H := { results := [], args := [] }

/-- 'thwartlaw26.LinkTurns': WHATEVER THE INPUT: true; the input reads as it did. -/
def linkTurnsSpec : ChangeSpec := { name := "linkTurns", fn := fun _ => fun
  | [d1, d2] => { results := [.lit (.bool true)], args := [d1, d2] }
  | _ => none }
def linkTurnsRow : OpenClaim := { program := "ytnfgnafphfddhaa", sum := "febb0eb3ae4a2bffe552442ab6c03ad36bbf3b6cfb3ee53105d272341ef60b26", func := "thwart/thwartlaw26.LinkTurns", spec := "linkTurns", apart := false }
def LinkTurnsSaid : Prop := linkTurnsRow.holds Try.pinned (OpenSpec.ofChange linkTurnsSpec)

/-- ITS FALSE NEIGHBOUR: 'it returns false'. Refute it at one input. -/
def linkTurnsWrong : ChangeSpec := { name := "linkTurns", fn := fun _ => fun
  | [d1, d2] => { results := [.lit (.bool false)], args := [d1, d2] }
  | _ => none }
def LinkTurnsWrongFalsely : Prop := linkTurnsRow.holds Try.pinned (OpenSpec.ofChange linkTurnsWrong)

/-- 'thwartlaw26.LinkOrder': WHATEVER THE INPUT: true; the input reads as it did. -/
def linkOrderSpec : ChangeSpec := { name := "linkOrder", fn := fun _ => fun
  | [d1, d2] => { results := [.lit (.bool true)], args := [d1, d2] }
  | _ => none }
def linkOrderRow : OpenClaim := { program := "ytnfgnafphfddhaa", sum := "febb0eb3ae4a2bffe552442ab6c03ad36bbf3b6cfb3ee53105d272341ef60b26", func := "thwart/thwartlaw26.LinkOrder", spec := "linkOrder", apart := false }
def LinkOrderSaid : Prop := linkOrderRow.holds Try.pinned (OpenSpec.ofChange linkOrderSpec)

/-- ITS FALSE NEIGHBOUR: 'it returns false'. Refute it at one input. -/
def linkOrderWrong : ChangeSpec := { name := "linkOrder", fn := fun _ => fun
  | [d1, d2] => { results := [.lit (.bool false)], args := [d1, d2] }
  | _ => none }
def LinkOrderWrongFalsely : Prop := linkOrderRow.holds Try.pinned (OpenSpec.ofChange linkOrderWrong)

/-- 'thwartlaw26.LinkComes': WHATEVER THE INPUT: true; the input reads as it did. -/
def linkComesSpec : ChangeSpec := { name := "linkComes", fn := fun _ => fun
  | [d1, d2] => { results := [.lit (.bool true)], args := [d1, d2] }
  | _ => none }
def linkComesRow : OpenClaim := { program := "ytnfgnafphfddhaa", sum := "febb0eb3ae4a2bffe552442ab6c03ad36bbf3b6cfb3ee53105d272341ef60b26", func := "thwart/thwartlaw26.LinkComes", spec := "linkComes", apart := false }
def LinkComesSaid : Prop := linkComesRow.holds Try.pinned (OpenSpec.ofChange linkComesSpec)

/-- ITS FALSE NEIGHBOUR: 'it returns false'. Refute it at one input. -/
def linkComesWrong : ChangeSpec := { name := "linkComes", fn := fun _ => fun
  | [d1, d2] => { results := [.lit (.bool false)], args := [d1, d2] }
  | _ => none }
def LinkComesWrongFalsely : Prop := linkComesRow.holds Try.pinned (OpenSpec.ofChange linkComesWrong)

/-- 'thwartlaw23.RbufOrder': WHATEVER THE INPUT: true; the input reads as it did. -/
def rbufOrderSpec : ChangeSpec := { name := "rbufOrder", fn := fun _ => fun
  | [d1, d2, d3] => { results := [.lit (.bool true)], args := [d1, d2, d3] }
  | _ => none }
def rbufOrderRow : OpenClaim := { program := "ytnfgnafphfddhaa", sum := "febb0eb3ae4a2bffe552442ab6c03ad36bbf3b6cfb3ee53105d272341ef60b26", func := "thwart/thwartlaw23.RbufOrder", spec := "rbufOrder", unfollowed := true, recurses := true, apart := false }
def RbufOrderSaid : Prop := rbufOrderRow.holds Try.pinned (OpenSpec.ofChange rbufOrderSpec)

/-- ITS FALSE NEIGHBOUR: 'it returns false'. Refute it at one input. -/
def rbufOrderWrong : ChangeSpec := { name := "rbufOrder", fn := fun _ => fun
  | [d1, d2, d3] => { results := [.lit (.bool false)], args := [d1, d2, d3] }
  | _ => none }
def RbufOrderWrongFalsely : Prop := rbufOrderRow.holds Try.pinned (OpenSpec.ofChange rbufOrderWrong)

/-- 'thwartlaw23.RbufKept': WHATEVER THE INPUT: true; the input reads as it did. -/
def rbufKeptSpec : ChangeSpec := { name := "rbufKept", fn := fun _ => fun
  | [d] => { results := [.lit (.bool true)], args := [d] }
  | _ => none }
def rbufKeptRow : OpenClaim := { program := "ytnfgnafphfddhaa", sum := "febb0eb3ae4a2bffe552442ab6c03ad36bbf3b6cfb3ee53105d272341ef60b26", func := "thwart/thwartlaw23.RbufKept", spec := "rbufKept", apart := false }
def RbufKeptSaid : Prop := rbufKeptRow.holds Try.pinned (OpenSpec.ofChange rbufKeptSpec)

/-- ITS FALSE NEIGHBOUR: 'it returns false'. Refute it at one input. -/
def rbufKeptWrong : ChangeSpec := { name := "rbufKept", fn := fun _ => fun
  | [d] => { results := [.lit (.bool false)], args := [d] }
  | _ => none }
def RbufKeptWrongFalsely : Prop := rbufKeptRow.holds Try.pinned (OpenSpec.ofChange rbufKeptWrong)

/-- 'thwartlaw21.SpanPlays': WHATEVER THE INPUT: true; the input reads as it did. -/
def spanPlaysSpec : ChangeSpec := { name := "spanPlays", fn := fun _ => fun
  | [d1, d2] => { results := [.lit (.bool true)], args := [d1, d2] }
  | _ => none }
def spanPlaysRow : OpenClaim := { program := "ytnfgnafphfddhaa", sum := "febb0eb3ae4a2bffe552442ab6c03ad36bbf3b6cfb3ee53105d272341ef60b26", func := "thwart/thwartlaw21.SpanPlays", spec := "spanPlays", unfollowed := true, recurses := true, apart := false }
def SpanPlaysSaid : Prop := spanPlaysRow.holds Try.pinned (OpenSpec.ofChange spanPlaysSpec)

/-- ITS FALSE NEIGHBOUR: 'it returns false'. Refute it at one input. -/
def spanPlaysWrong : ChangeSpec := { name := "spanPlays", fn := fun _ => fun
  | [d1, d2] => { results := [.lit (.bool false)], args := [d1, d2] }
  | _ => none }
def SpanPlaysWrongFalsely : Prop := spanPlaysRow.holds Try.pinned (OpenSpec.ofChange spanPlaysWrong)

/-- 'thwartlaw21.SpanOrder': WHATEVER THE INPUT: true; the input reads as it did. -/
def spanOrderSpec : ChangeSpec := { name := "spanOrder", fn := fun _ => fun
  | [d1, d2] => { results := [.lit (.bool true)], args := [d1, d2] }
  | _ => none }
def spanOrderRow : OpenClaim := { program := "ytnfgnafphfddhaa", sum := "febb0eb3ae4a2bffe552442ab6c03ad36bbf3b6cfb3ee53105d272341ef60b26", func := "thwart/thwartlaw21.SpanOrder", spec := "spanOrder", unfollowed := true, recurses := true, apart := false }
def SpanOrderSaid : Prop := spanOrderRow.holds Try.pinned (OpenSpec.ofChange spanOrderSpec)

/-- ITS FALSE NEIGHBOUR: 'it returns false'. Refute it at one input. -/
def spanOrderWrong : ChangeSpec := { name := "spanOrder", fn := fun _ => fun
  | [d1, d2] => { results := [.lit (.bool false)], args := [d1, d2] }
  | _ => none }
def SpanOrderWrongFalsely : Prop := spanOrderRow.holds Try.pinned (OpenSpec.ofChange spanOrderWrong)

/-- 'thwartlaw21.SpanParts': WHATEVER THE INPUT: true; the input reads as it did. -/
def spanPartsSpec : ChangeSpec := { name := "spanParts", fn := fun _ => fun
  | [d1, d2] => { results := [.lit (.bool true)], args := [d1, d2] }
  | _ => none }
def spanPartsRow : OpenClaim := { program := "ytnfgnafphfddhaa", sum := "febb0eb3ae4a2bffe552442ab6c03ad36bbf3b6cfb3ee53105d272341ef60b26", func := "thwart/thwartlaw21.SpanParts", spec := "spanParts", unfollowed := true, recurses := true, apart := false }
def SpanPartsSaid : Prop := spanPartsRow.holds Try.pinned (OpenSpec.ofChange spanPartsSpec)

/-- ITS FALSE NEIGHBOUR: 'it returns false'. Refute it at one input. -/
def spanPartsWrong : ChangeSpec := { name := "spanParts", fn := fun _ => fun
  | [d1, d2] => { results := [.lit (.bool false)], args := [d1, d2] }
  | _ => none }
def SpanPartsWrongFalsely : Prop := spanPartsRow.holds Try.pinned (OpenSpec.ofChange spanPartsWrong)

/-- 'thwartlaw21.SpanAsks': WHATEVER THE INPUT: true; the input reads as it did. -/
def spanAsksSpec : ChangeSpec := { name := "spanAsks", fn := fun _ => fun
  | [d1, d2, d3] => { results := [.lit (.bool true)], args := [d1, d2, d3] }
  | _ => none }
def spanAsksRow : OpenClaim := { program := "ytnfgnafphfddhaa", sum := "febb0eb3ae4a2bffe552442ab6c03ad36bbf3b6cfb3ee53105d272341ef60b26", func := "thwart/thwartlaw21.SpanAsks", spec := "spanAsks", unfollowed := true, recurses := true, apart := false }
def SpanAsksSaid : Prop := spanAsksRow.holds Try.pinned (OpenSpec.ofChange spanAsksSpec)

/-- ITS FALSE NEIGHBOUR: 'it returns false'. Refute it at one input. -/
def spanAsksWrong : ChangeSpec := { name := "spanAsks", fn := fun _ => fun
  | [d1, d2, d3] => { results := [.lit (.bool false)], args := [d1, d2, d3] }
  | _ => none }
def SpanAsksWrongFalsely : Prop := spanAsksRow.holds Try.pinned (OpenSpec.ofChange spanAsksWrong)

/-- 'thwartlaw22.SwinSends': WHATEVER THE INPUT: true; the input reads as it did. -/
def swinSendsSpec : ChangeSpec := { name := "swinSends", fn := fun _ => fun
  | [d1, d2] => { results := [.lit (.bool true)], args := [d1, d2] }
  | _ => none }
def swinSendsRow : OpenClaim := { program := "ytnfgnafphfddhaa", sum := "febb0eb3ae4a2bffe552442ab6c03ad36bbf3b6cfb3ee53105d272341ef60b26", func := "thwart/thwartlaw22.SwinSends", spec := "swinSends", unfollowed := true, recurses := true, apart := false }
def SwinSendsSaid : Prop := swinSendsRow.holds Try.pinned (OpenSpec.ofChange swinSendsSpec)

/-- ITS FALSE NEIGHBOUR: 'it returns false'. Refute it at one input. -/
def swinSendsWrong : ChangeSpec := { name := "swinSends", fn := fun _ => fun
  | [d1, d2] => { results := [.lit (.bool false)], args := [d1, d2] }
  | _ => none }
def SwinSendsWrongFalsely : Prop := swinSendsRow.holds Try.pinned (OpenSpec.ofChange swinSendsWrong)

/-- 'thwartlaw22.SwinReach': WHATEVER THE INPUT: true; the input reads as it did. -/
def swinReachSpec : ChangeSpec := { name := "swinReach", fn := fun _ => fun
  | [d1, d2, d3] => { results := [.lit (.bool true)], args := [d1, d2, d3] }
  | _ => none }
def swinReachRow : OpenClaim := { program := "ytnfgnafphfddhaa", sum := "febb0eb3ae4a2bffe552442ab6c03ad36bbf3b6cfb3ee53105d272341ef60b26", func := "thwart/thwartlaw22.SwinReach", spec := "swinReach", unfollowed := true, recurses := true, apart := false }
def SwinReachSaid : Prop := swinReachRow.holds Try.pinned (OpenSpec.ofChange swinReachSpec)

/-- ITS FALSE NEIGHBOUR: 'it returns false'. Refute it at one input. -/
def swinReachWrong : ChangeSpec := { name := "swinReach", fn := fun _ => fun
  | [d1, d2, d3] => { results := [.lit (.bool false)], args := [d1, d2, d3] }
  | _ => none }
def SwinReachWrongFalsely : Prop := swinReachRow.holds Try.pinned (OpenSpec.ofChange swinReachWrong)

/- THE SECOND FORM. 'bulk': how many values and letters a reading holds, each counted each time it is reached (what is shared counts as often as it is met; a slice's spare places count too). A statement '..UptoSaid' is the law's where the arguments, and the package variables that the reading takes, are together of bulk at most 1048576: NARROWER than '..Said'. Prove '..Said' where nothing that the law and all that it calls make is longer than what came in: it says more and counts as full. Else prove '..UptoSaid'. A law counts once. -/
mutual
def uptoBulk {H : Type} : DataW H → Nat
  | .lit (.string bytes) => bytes.length + 1
  | .lit _ => 1
  | .nil => 1
  | .ptr d => uptoBulk d + 1
  | .slice elems spare => uptoBulkAll elems + uptoBulkAll spare + 1
  | .agg parts => uptoBulkAll parts + 1
  | .iface _ d => uptoBulk d + 1
  | .map entries => uptoBulkEntries entries + 1
  | .held _ => 1
def uptoBulkAll {H : Type} : List (DataW H) → Nat
  | [] => 0
  | d :: r => uptoBulk d + uptoBulkAll r
def uptoBulkEntries {H : Type} : List (Lit × DataW H) → Nat
  | [] => 0
  | x :: r => uptoBulkEntry x + uptoBulkEntries r
def uptoBulkEntry {H : Type} : Lit × DataW H → Nat
  | (.string bytes, d) => bytes.length + uptoBulk d + 1
  | (_, d) => uptoBulk d + 1
 end
def uptoSmall : (H : Type) → List (DataW H) → Bool := fun _ ds => decide (uptoBulkAll ds ≤ 1048576)
def OpenSpec.upto (s : _root_.Go.ChangeSpec) : _root_.Go.OpenSpec := { _root_.Go.OpenSpec.ofChange s with cond := some uptoSmall }

/-- 'thwartlaw26.LinkTurns', WHERE WHAT IT READS IS OF BULK AT MOST 1048576: true; the input reads as it did. -/
def linkTurnsUptoRow : OpenClaim := { program := "ytnfgnafphfddhaa", sum := "febb0eb3ae4a2bffe552442ab6c03ad36bbf3b6cfb3ee53105d272341ef60b26", func := "thwart/thwartlaw26.LinkTurns", spec := "linkTurns", apart := false, narrowed := true }
def LinkTurnsUptoSaid : Prop := linkTurnsUptoRow.holds Try.pinned (OpenSpec.upto linkTurnsSpec)

/-- 'thwartlaw26.LinkOrder', WHERE WHAT IT READS IS OF BULK AT MOST 1048576: true; the input reads as it did. -/
def linkOrderUptoRow : OpenClaim := { program := "ytnfgnafphfddhaa", sum := "febb0eb3ae4a2bffe552442ab6c03ad36bbf3b6cfb3ee53105d272341ef60b26", func := "thwart/thwartlaw26.LinkOrder", spec := "linkOrder", apart := false, narrowed := true }
def LinkOrderUptoSaid : Prop := linkOrderUptoRow.holds Try.pinned (OpenSpec.upto linkOrderSpec)

/-- 'thwartlaw26.LinkComes', WHERE WHAT IT READS IS OF BULK AT MOST 1048576: true; the input reads as it did. -/
def linkComesUptoRow : OpenClaim := { program := "ytnfgnafphfddhaa", sum := "febb0eb3ae4a2bffe552442ab6c03ad36bbf3b6cfb3ee53105d272341ef60b26", func := "thwart/thwartlaw26.LinkComes", spec := "linkComes", apart := false, narrowed := true }
def LinkComesUptoSaid : Prop := linkComesUptoRow.holds Try.pinned (OpenSpec.upto linkComesSpec)

/-- 'thwartlaw23.RbufOrder', WHERE WHAT IT READS IS OF BULK AT MOST 1048576: true; the input reads as it did. -/
def rbufOrderUptoRow : OpenClaim := { program := "ytnfgnafphfddhaa", sum := "febb0eb3ae4a2bffe552442ab6c03ad36bbf3b6cfb3ee53105d272341ef60b26", func := "thwart/thwartlaw23.RbufOrder", spec := "rbufOrder", unfollowed := true, recurses := true, apart := false, narrowed := true }
def RbufOrderUptoSaid : Prop := rbufOrderUptoRow.holds Try.pinned (OpenSpec.upto rbufOrderSpec)

/-- 'thwartlaw23.RbufKept', WHERE WHAT IT READS IS OF BULK AT MOST 1048576: true; the input reads as it did. -/
def rbufKeptUptoRow : OpenClaim := { program := "ytnfgnafphfddhaa", sum := "febb0eb3ae4a2bffe552442ab6c03ad36bbf3b6cfb3ee53105d272341ef60b26", func := "thwart/thwartlaw23.RbufKept", spec := "rbufKept", apart := false, narrowed := true }
def RbufKeptUptoSaid : Prop := rbufKeptUptoRow.holds Try.pinned (OpenSpec.upto rbufKeptSpec)

/-- 'thwartlaw21.SpanPlays', WHERE WHAT IT READS IS OF BULK AT MOST 1048576: true; the input reads as it did. -/
def spanPlaysUptoRow : OpenClaim := { program := "ytnfgnafphfddhaa", sum := "febb0eb3ae4a2bffe552442ab6c03ad36bbf3b6cfb3ee53105d272341ef60b26", func := "thwart/thwartlaw21.SpanPlays", spec := "spanPlays", unfollowed := true, recurses := true, apart := false, narrowed := true }
def SpanPlaysUptoSaid : Prop := spanPlaysUptoRow.holds Try.pinned (OpenSpec.upto spanPlaysSpec)

/-- 'thwartlaw21.SpanOrder', WHERE WHAT IT READS IS OF BULK AT MOST 1048576: true; the input reads as it did. -/
def spanOrderUptoRow : OpenClaim := { program := "ytnfgnafphfddhaa", sum := "febb0eb3ae4a2bffe552442ab6c03ad36bbf3b6cfb3ee53105d272341ef60b26", func := "thwart/thwartlaw21.SpanOrder", spec := "spanOrder", unfollowed := true, recurses := true, apart := false, narrowed := true }
def SpanOrderUptoSaid : Prop := spanOrderUptoRow.holds Try.pinned (OpenSpec.upto spanOrderSpec)

/-- 'thwartlaw21.SpanParts', WHERE WHAT IT READS IS OF BULK AT MOST 1048576: true; the input reads as it did. -/
def spanPartsUptoRow : OpenClaim := { program := "ytnfgnafphfddhaa", sum := "febb0eb3ae4a2bffe552442ab6c03ad36bbf3b6cfb3ee53105d272341ef60b26", func := "thwart/thwartlaw21.SpanParts", spec := "spanParts", unfollowed := true, recurses := true, apart := false, narrowed := true }
def SpanPartsUptoSaid : Prop := spanPartsUptoRow.holds Try.pinned (OpenSpec.upto spanPartsSpec)

/-- 'thwartlaw21.SpanAsks', WHERE WHAT IT READS IS OF BULK AT MOST 1048576: true; the input reads as it did. -/
def spanAsksUptoRow : OpenClaim := { program := "ytnfgnafphfddhaa", sum := "febb0eb3ae4a2bffe552442ab6c03ad36bbf3b6cfb3ee53105d272341ef60b26", func := "thwart/thwartlaw21.SpanAsks", spec := "spanAsks", unfollowed := true, recurses := true, apart := false, narrowed := true }
def SpanAsksUptoSaid : Prop := spanAsksUptoRow.holds Try.pinned (OpenSpec.upto spanAsksSpec)

/-- 'thwartlaw22.SwinSends', WHERE WHAT IT READS IS OF BULK AT MOST 1048576: true; the input reads as it did. -/
def swinSendsUptoRow : OpenClaim := { program := "ytnfgnafphfddhaa", sum := "febb0eb3ae4a2bffe552442ab6c03ad36bbf3b6cfb3ee53105d272341ef60b26", func := "thwart/thwartlaw22.SwinSends", spec := "swinSends", unfollowed := true, recurses := true, apart := false, narrowed := true }
def SwinSendsUptoSaid : Prop := swinSendsUptoRow.holds Try.pinned (OpenSpec.upto swinSendsSpec)

/-- 'thwartlaw22.SwinReach', WHERE WHAT IT READS IS OF BULK AT MOST 1048576: true; the input reads as it did. -/
def swinReachUptoRow : OpenClaim := { program := "ytnfgnafphfddhaa", sum := "febb0eb3ae4a2bffe552442ab6c03ad36bbf3b6cfb3ee53105d272341ef60b26", func := "thwart/thwartlaw22.SwinReach", spec := "swinReach", unfollowed := true, recurses := true, apart := false, narrowed := true }
def SwinReachUptoSaid : Prop := swinReachUptoRow.holds Try.pinned (OpenSpec.upto swinReachSpec)

end Rows
end Go.Proofs.Ytnfgnafphfddhaa
