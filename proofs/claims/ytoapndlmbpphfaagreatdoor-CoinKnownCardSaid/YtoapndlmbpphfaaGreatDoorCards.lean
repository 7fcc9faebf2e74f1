/-
  DERIVED. GIVEN WITH THE SEED: THE CARDS: each row of YtoapndlmbpphfaaGreatDoorRows.lean that lists a variable, with what it lists TIED to the program's text (the seventh form; the later family's looks); each row that meets fmt, with fmt's text TOLD by the authors' own Lean function (tested against real Go, not proved from fmt's source: count such statements apart). THE CARD IS WHAT COUNTS. Prove the row's statement (the work); the ties are given (YtoapndlmbpphfaaGreatDoorTie.lean); close each card by the builder's one call (the guide's Derived/Test/ToyasCard.lean, 'card_holds'). Laid BY PROGRAM, IN A SANDBOX (cutbox-door.mjs). By AI agents, Wed Nov 11 2026. No macro, syntax, notation, axiom, sorry.
-/
import Derived.Test.YtoapndlmbpphfaaGreatDoorRows
import GoSem.ClaimSeven
namespace Go.Proofs.YtoapndlmbpphfaaGreatDoor
namespace Rows

/-- THE TIED CARD OF 'couchettelaw09.CoinKnown'. -/
def coinKnownCard : Claim7 := { stood := { row := coinKnownRow, standIns := [], harness := (true, "452c279d7d7807625cef99b0f8c9aadb00545a81f79672aaf2e1d7426eb101e6"), looks := false }, kinds := [], alts := [], laidByText := true, laidKinds := [.data, .data, .data], laidTests := true, laidLooks := .later }
def CoinKnownCardSaid : Prop := Claim7.holds Tryz.pinned (.plain (OpenSpec.ofChange coinKnownSpec)) coinKnownCard

/-- THE SECOND FORM's CARD OF 'couchettelaw09.CoinKnown'. -/
def coinKnownUptoCard : Claim7 := { stood := { row := coinKnownUptoRow, standIns := [], harness := (true, "452c279d7d7807625cef99b0f8c9aadb00545a81f79672aaf2e1d7426eb101e6"), looks := false }, kinds := [], alts := [], laidByText := true, laidKinds := [.data, .data, .data], laidTests := true, laidLooks := .later }
def CoinKnownUptoCardSaid : Prop := Claim7.holds Tryz.pinned (.plain (OpenSpec.upto coinKnownSpec)) coinKnownUptoCard
end Rows
end Go.Proofs.YtoapndlmbpphfaaGreatDoor
