/-
  DERIVED. GIVEN WITH THE SEED: THE CARDS: each row of YtdjjibmjinllnaaDoorRows.lean that lists a variable, with what it lists TIED to the program's text (the seventh form; the later family's looks); each row that meets fmt, with fmt's text TOLD by the authors' own Lean function (tested against real Go, not proved from fmt's source: count such statements apart). THE CARD IS WHAT COUNTS. Prove the row's statement (the work); the ties are given (YtdjjibmjinllnaaDoorTie.lean); close each card by the builder's one call (the guide's Derived/Test/ToyasCard.lean, 'card_holds'). Laid BY PROGRAM, IN A SANDBOX (cutbox-door.mjs). By AI agents, Wed Nov 11 2026. No macro, syntax, notation, axiom, sorry.
-/
import Derived.Test.YtdjjibmjinllnaaDoorRows
import GoSem.ClaimSeven
namespace Go.Proofs.YtdjjibmjinllnaaDoor
namespace Rows

/-- THE TIED CARD OF 'thwartlaw07.BlocksCounts'. -/
def blocksCountsCard : Claim7 := { stood := { row := blocksCountsRow, standIns := [], harness := (true, "093e41f6aae25fb01552069df7a46c634e9d88a9f0ba912aa51005b0bdf768b2"), looks := false }, kinds := [], alts := [], laidByText := true, laidKinds := [.data, .pinned], laidTests := true, laidLooks := .later }
def BlocksCountsCardSaid : Prop := Claim7.holds Tryd.pinned (.plain (OpenSpec.ofChange blocksCountsSpec)) blocksCountsCard

/-- THE TIED CARD OF 'thwartlaw07.BlocksBack'. -/
def blocksBackCard : Claim7 := { stood := { row := blocksBackRow, standIns := [], harness := (true, "093e41f6aae25fb01552069df7a46c634e9d88a9f0ba912aa51005b0bdf768b2"), looks := false }, kinds := [], alts := [], laidByText := true, laidKinds := [.data, .pinned], laidTests := true, laidLooks := .later }
def BlocksBackCardSaid : Prop := Claim7.holds Tryd.pinned (.plain (OpenSpec.ofChange blocksBackSpec)) blocksBackCard

/-- THE SECOND FORM's CARD OF 'thwartlaw07.BlocksCounts'. -/
def blocksCountsUptoCard : Claim7 := { stood := { row := blocksCountsUptoRow, standIns := [], harness := (true, "093e41f6aae25fb01552069df7a46c634e9d88a9f0ba912aa51005b0bdf768b2"), looks := false }, kinds := [], alts := [], laidByText := true, laidKinds := [.data, .pinned], laidTests := true, laidLooks := .later }
def BlocksCountsUptoCardSaid : Prop := Claim7.holds Tryd.pinned (.plain (OpenSpec.upto blocksCountsSpec)) blocksCountsUptoCard

/-- THE SECOND FORM's CARD OF 'thwartlaw07.BlocksBack'. -/
def blocksBackUptoCard : Claim7 := { stood := { row := blocksBackUptoRow, standIns := [], harness := (true, "093e41f6aae25fb01552069df7a46c634e9d88a9f0ba912aa51005b0bdf768b2"), looks := false }, kinds := [], alts := [], laidByText := true, laidKinds := [.data, .pinned], laidTests := true, laidLooks := .later }
def BlocksBackUptoCardSaid : Prop := Claim7.holds Tryd.pinned (.plain (OpenSpec.upto blocksBackSpec)) blocksBackUptoCard
end Rows
end Go.Proofs.YtdjjibmjinllnaaDoor
