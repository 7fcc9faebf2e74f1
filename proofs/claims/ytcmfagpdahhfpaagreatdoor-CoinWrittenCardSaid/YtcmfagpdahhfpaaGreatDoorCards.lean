/-
  DERIVED. GIVEN WITH THE SEED: THE CARDS: each row of YtcmfagpdahhfpaaGreatDoorRows.lean that lists a variable, with what it lists TIED to the program's text (the seventh form; the later family's looks); each row that meets fmt, with fmt's text TOLD by the authors' own Lean function (tested against real Go, not proved from fmt's source: count such statements apart). THE CARD IS WHAT COUNTS. Prove the row's statement (the work); the ties are given (YtcmfagpdahhfpaaGreatDoorTie.lean); close each card by the builder's one call (the guide's Derived/Test/ToyasCard.lean, 'card_holds'). Laid BY PROGRAM, IN A SANDBOX (cutbox-door.mjs). By AI agents, Wed Nov 11 2026. No macro, syntax, notation, axiom, sorry.
-/
import Derived.Test.YtcmfagpdahhfpaaGreatDoorRows
import GoSem.ClaimSeven
namespace Go.Proofs.YtcmfagpdahhfpaaGreatDoor
namespace Rows

/-- THE TIED CARD OF 'couchettelaw05.BerthTexts'. -/
def berthTextsCard : Claim7 := { stood := { row := berthTextsRow, standIns := [], harness := (true, "082a1ba36ab09a8693ffa169f773773feca9e152af168a18232b2dec2cd2f36d"), looks := true }, kinds := [], alts := [], laidByText := true, laidKinds := [.data, .data, .data, .data, .sentinel, .sentinel, .pinned], laidTests := true, laidLooks := .later }
def BerthTextsCardSaid : Prop := Claim7.holds Tryz.pinned (.plain (OpenSpec.ofChange berthTextsSpec)) berthTextsCard

/-- THE TIED CARD OF 'couchettelaw05.BerthWritten'. -/
def berthWrittenCard : Claim7 := { stood := { row := berthWrittenRow, standIns := [], harness := (true, "082a1ba36ab09a8693ffa169f773773feca9e152af168a18232b2dec2cd2f36d"), looks := true }, kinds := [], alts := [], laidByText := true, laidKinds := [.data, .data, .data, .data, .sentinel, .sentinel, .pinned], laidTests := true, laidLooks := .later }
def BerthWrittenCardSaid : Prop := Claim7.holds Tryz.pinned (.plain (OpenSpec.ofChange berthWrittenSpec)) berthWrittenCard

/-- THE TIED CARD OF 'couchettelaw09.CoinTexts'. -/
def coinTextsCard : Claim7 := { stood := { row := coinTextsRow, standIns := [], harness := (true, "082a1ba36ab09a8693ffa169f773773feca9e152af168a18232b2dec2cd2f36d"), looks := true }, kinds := [], alts := [], laidByText := true, laidKinds := [.data, .data, .data, .data, .sentinel, .sentinel, .pinned], laidTests := true, laidLooks := .later }
def CoinTextsCardSaid : Prop := Claim7.holds Tryz.pinned (.plain (OpenSpec.ofChange coinTextsSpec)) coinTextsCard

/-- THE TIED CARD OF 'couchettelaw09.CoinWritten'. -/
def coinWrittenCard : Claim7 := { stood := { row := coinWrittenRow, standIns := [], harness := (true, "082a1ba36ab09a8693ffa169f773773feca9e152af168a18232b2dec2cd2f36d"), looks := true }, kinds := [], alts := [], laidByText := true, laidKinds := [.data, .data, .data, .data, .sentinel, .sentinel, .pinned], laidTests := true, laidLooks := .later }
def CoinWrittenCardSaid : Prop := Claim7.holds Tryz.pinned (.plain (OpenSpec.ofChange coinWrittenSpec)) coinWrittenCard

/-- THE SECOND FORM's CARD OF 'couchettelaw05.BerthTexts'. -/
def berthTextsUptoCard : Claim7 := { stood := { row := berthTextsUptoRow, standIns := [], harness := (true, "082a1ba36ab09a8693ffa169f773773feca9e152af168a18232b2dec2cd2f36d"), looks := true }, kinds := [], alts := [], laidByText := true, laidKinds := [.data, .data, .data, .data, .sentinel, .sentinel, .pinned], laidTests := true, laidLooks := .later }
def BerthTextsUptoCardSaid : Prop := Claim7.holds Tryz.pinned (.plain (OpenSpec.upto berthTextsSpec)) berthTextsUptoCard

/-- THE SECOND FORM's CARD OF 'couchettelaw05.BerthWritten'. -/
def berthWrittenUptoCard : Claim7 := { stood := { row := berthWrittenUptoRow, standIns := [], harness := (true, "082a1ba36ab09a8693ffa169f773773feca9e152af168a18232b2dec2cd2f36d"), looks := true }, kinds := [], alts := [], laidByText := true, laidKinds := [.data, .data, .data, .data, .sentinel, .sentinel, .pinned], laidTests := true, laidLooks := .later }
def BerthWrittenUptoCardSaid : Prop := Claim7.holds Tryz.pinned (.plain (OpenSpec.upto berthWrittenSpec)) berthWrittenUptoCard

/-- THE SECOND FORM's CARD OF 'couchettelaw09.CoinTexts'. -/
def coinTextsUptoCard : Claim7 := { stood := { row := coinTextsUptoRow, standIns := [], harness := (true, "082a1ba36ab09a8693ffa169f773773feca9e152af168a18232b2dec2cd2f36d"), looks := true }, kinds := [], alts := [], laidByText := true, laidKinds := [.data, .data, .data, .data, .sentinel, .sentinel, .pinned], laidTests := true, laidLooks := .later }
def CoinTextsUptoCardSaid : Prop := Claim7.holds Tryz.pinned (.plain (OpenSpec.upto coinTextsSpec)) coinTextsUptoCard

/-- THE SECOND FORM's CARD OF 'couchettelaw09.CoinWritten'. -/
def coinWrittenUptoCard : Claim7 := { stood := { row := coinWrittenUptoRow, standIns := [], harness := (true, "082a1ba36ab09a8693ffa169f773773feca9e152af168a18232b2dec2cd2f36d"), looks := true }, kinds := [], alts := [], laidByText := true, laidKinds := [.data, .data, .data, .data, .sentinel, .sentinel, .pinned], laidTests := true, laidLooks := .later }
def CoinWrittenUptoCardSaid : Prop := Claim7.holds Tryz.pinned (.plain (OpenSpec.upto coinWrittenSpec)) coinWrittenUptoCard
end Rows
end Go.Proofs.YtcmfagpdahhfpaaGreatDoor
