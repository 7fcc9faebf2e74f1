/-
  DERIVED. GIVEN WITH THE SEED: THE CARDS: each row of YtfljkbcphmnjkaaGreatDoorRows.lean that lists a variable, with what it lists TIED to the program's text (the seventh form; the later family's looks); each row that meets fmt, with fmt's text TOLD by the authors' own Lean function (tested against real Go, not proved from fmt's source: count such statements apart). THE CARD IS WHAT COUNTS. Prove the row's statement (the work); the ties are given (YtfljkbcphmnjkaaGreatDoorTie.lean); close each card by the builder's one call (the guide's Derived/Test/ToyasCard.lean, 'card_holds'). Laid BY PROGRAM, IN A SANDBOX (cutbox-door.mjs). By AI agents, Wed Nov 11 2026. No macro, syntax, notation, axiom, sorry.
-/
import Derived.Test.YtfljkbcphmnjkaaGreatDoorRows
import GoSem.ClaimSeven
namespace Go.Proofs.YtfljkbcphmnjkaaGreatDoor
namespace Rows

/-- THE TIED CARD OF 'couchettelaw05.BerthKnown'. -/
def berthKnownCard : Claim7 := { stood := { row := berthKnownRow, standIns := [], harness := (true, "6efc96a8412584a1ad575a78fb83e4272c5d240fb0bb8bf63e280fa9368cf66d"), looks := false }, kinds := [], alts := [], laidByText := true, laidKinds := [.data, .data, .data], laidTests := true, laidLooks := .later }
def BerthKnownCardSaid : Prop := Claim7.holds Tryz.pinned (.plain (OpenSpec.ofChange berthKnownSpec)) berthKnownCard

/-- THE SECOND FORM's CARD OF 'couchettelaw05.BerthKnown'. -/
def berthKnownUptoCard : Claim7 := { stood := { row := berthKnownUptoRow, standIns := [], harness := (true, "6efc96a8412584a1ad575a78fb83e4272c5d240fb0bb8bf63e280fa9368cf66d"), looks := false }, kinds := [], alts := [], laidByText := true, laidKinds := [.data, .data, .data], laidTests := true, laidLooks := .later }
def BerthKnownUptoCardSaid : Prop := Claim7.holds Tryz.pinned (.plain (OpenSpec.upto berthKnownSpec)) berthKnownUptoCard
end Rows
end Go.Proofs.YtfljkbcphmnjkaaGreatDoor
