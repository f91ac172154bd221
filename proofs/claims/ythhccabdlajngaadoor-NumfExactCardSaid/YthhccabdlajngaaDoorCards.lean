/-
  DERIVED. GIVEN WITH THE SEED: THE CARDS: each row of YthhccabdlajngaaDoorRows.lean that lists a variable, with what it lists TIED to the program's text (the seventh form; the later family's looks); each row that meets fmt, with fmt's text TOLD by the authors' own Lean function (tested against real Go, not proved from fmt's source: count such statements apart). THE CARD IS WHAT COUNTS. Prove the row's statement (the work); the ties are given (YthhccabdlajngaaDoorTie.lean); close each card by the builder's one call (the guide's Derived/Test/ToyasCard.lean, 'card_holds'). Laid BY PROGRAM, IN A SANDBOX (cutbox-door.mjs). By AI agents, Wed Nov 11 2026. No macro, syntax, notation, axiom, sorry.
-/
import Derived.Test.YthhccabdlajngaaDoorRows
import GoSem.ClaimSeven
namespace Go.Proofs.YthhccabdlajngaaDoor
namespace Rows

/-- THE TIED CARD OF 'thwartlaw01.NumfLays'. -/
def numfLaysCard : Claim7 := { stood := { row := numfLaysRow, standIns := [], harness := (true, "a0d50b8a6eb6ee9afb29e59fcab3d42c6f3c66a0a17909e972b10a1e63c17671"), looks := false }, kinds := [], alts := [], laidByText := true, laidKinds := [.data, .pinned], laidTests := true, laidLooks := .later }
def NumfLaysCardSaid : Prop := Claim7.holds Tryd.pinned (.plain (OpenSpec.ofChange numfLaysSpec)) numfLaysCard

/-- THE TIED CARD OF 'thwartlaw01.NumfReads'. -/
def numfReadsCard : Claim7 := { stood := { row := numfReadsRow, standIns := [], harness := (true, "a0d50b8a6eb6ee9afb29e59fcab3d42c6f3c66a0a17909e972b10a1e63c17671"), looks := false }, kinds := [], alts := [], laidByText := true, laidKinds := [.data, .pinned], laidTests := true, laidLooks := .later }
def NumfReadsCardSaid : Prop := Claim7.holds Tryd.pinned (.plain (OpenSpec.ofChange numfReadsSpec)) numfReadsCard

/-- THE TIED CARD OF 'thwartlaw01.NumfBack'. -/
def numfBackCard : Claim7 := { stood := { row := numfBackRow, standIns := [], harness := (true, "a0d50b8a6eb6ee9afb29e59fcab3d42c6f3c66a0a17909e972b10a1e63c17671"), looks := false }, kinds := [], alts := [], laidByText := true, laidKinds := [.data, .pinned], laidTests := true, laidLooks := .later }
def NumfBackCardSaid : Prop := Claim7.holds Tryd.pinned (.plain (OpenSpec.ofChange numfBackSpec)) numfBackCard

/-- THE TIED CARD OF 'thwartlaw01.NumfExact'. -/
def numfExactCard : Claim7 := { stood := { row := numfExactRow, standIns := [], harness := (true, "a0d50b8a6eb6ee9afb29e59fcab3d42c6f3c66a0a17909e972b10a1e63c17671"), looks := false }, kinds := [], alts := [], laidByText := true, laidKinds := [.data, .pinned], laidTests := true, laidLooks := .later }
def NumfExactCardSaid : Prop := Claim7.holds Tryd.pinned (.plain (OpenSpec.ofChange numfExactSpec)) numfExactCard

/-- THE SECOND FORM's CARD OF 'thwartlaw01.NumfLays'. -/
def numfLaysUptoCard : Claim7 := { stood := { row := numfLaysUptoRow, standIns := [], harness := (true, "a0d50b8a6eb6ee9afb29e59fcab3d42c6f3c66a0a17909e972b10a1e63c17671"), looks := false }, kinds := [], alts := [], laidByText := true, laidKinds := [.data, .pinned], laidTests := true, laidLooks := .later }
def NumfLaysUptoCardSaid : Prop := Claim7.holds Tryd.pinned (.plain (OpenSpec.upto numfLaysSpec)) numfLaysUptoCard

/-- THE SECOND FORM's CARD OF 'thwartlaw01.NumfReads'. -/
def numfReadsUptoCard : Claim7 := { stood := { row := numfReadsUptoRow, standIns := [], harness := (true, "a0d50b8a6eb6ee9afb29e59fcab3d42c6f3c66a0a17909e972b10a1e63c17671"), looks := false }, kinds := [], alts := [], laidByText := true, laidKinds := [.data, .pinned], laidTests := true, laidLooks := .later }
def NumfReadsUptoCardSaid : Prop := Claim7.holds Tryd.pinned (.plain (OpenSpec.upto numfReadsSpec)) numfReadsUptoCard

/-- THE SECOND FORM's CARD OF 'thwartlaw01.NumfBack'. -/
def numfBackUptoCard : Claim7 := { stood := { row := numfBackUptoRow, standIns := [], harness := (true, "a0d50b8a6eb6ee9afb29e59fcab3d42c6f3c66a0a17909e972b10a1e63c17671"), looks := false }, kinds := [], alts := [], laidByText := true, laidKinds := [.data, .pinned], laidTests := true, laidLooks := .later }
def NumfBackUptoCardSaid : Prop := Claim7.holds Tryd.pinned (.plain (OpenSpec.upto numfBackSpec)) numfBackUptoCard

/-- THE SECOND FORM's CARD OF 'thwartlaw01.NumfExact'. -/
def numfExactUptoCard : Claim7 := { stood := { row := numfExactUptoRow, standIns := [], harness := (true, "a0d50b8a6eb6ee9afb29e59fcab3d42c6f3c66a0a17909e972b10a1e63c17671"), looks := false }, kinds := [], alts := [], laidByText := true, laidKinds := [.data, .pinned], laidTests := true, laidLooks := .later }
def NumfExactUptoCardSaid : Prop := Claim7.holds Tryd.pinned (.plain (OpenSpec.upto numfExactSpec)) numfExactUptoCard
end Rows
end Go.Proofs.YthhccabdlajngaaDoor
