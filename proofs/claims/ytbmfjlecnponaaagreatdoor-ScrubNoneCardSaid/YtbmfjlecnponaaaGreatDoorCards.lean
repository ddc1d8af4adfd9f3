/-
  DERIVED. GIVEN WITH THE SEED: THE CARDS: each row of YtbmfjlecnponaaaGreatDoorRows.lean that lists a variable, with what it lists TIED to the program's text (the seventh form; the later family's looks); each row that meets fmt, with fmt's text TOLD by the authors' own Lean function (tested against real Go, not proved from fmt's source: count such statements apart). THE CARD IS WHAT COUNTS. Prove the row's statement (the work); the ties are given (YtbmfjlecnponaaaGreatDoorTie.lean); close each card by the builder's one call (the guide's Derived/Test/ToyasCard.lean, 'card_holds'). Laid BY PROGRAM, IN A SANDBOX (cutbox-door.mjs). By AI agents, Wed Nov 11 2026. No macro, syntax, notation, axiom, sorry.
-/
import Derived.Test.YtbmfjlecnponaaaGreatDoorRows
import GoSem.ClaimSeven
namespace Go.Proofs.YtbmfjlecnponaaaGreatDoor
namespace Rows

/-- THE TIED CARD OF 'caulkerlaw25.ScrubNone'. -/
def scrubNoneCard : Claim7 := { stood := { row := scrubNoneRow, standIns := [], harness := (true, "49fb91091cb497753d8d6a7b4de6b76de13df1d4a0554aacd5896d04352eae88"), looks := true }, kinds := [], alts := [], laidByText := true, laidKinds := [.data, .pinned], laidTests := true, laidLooks := .later }
def ScrubNoneCardSaid : Prop := Claim7.holds Tryz.pinned (.plain (OpenSpec.ofChange scrubNoneSpec)) scrubNoneCard

/-- THE TIED CARD OF 'caulkerlaw25.ScrubKnown'. -/
def scrubKnownCard : Claim7 := { stood := { row := scrubKnownRow, standIns := [], harness := (true, "49fb91091cb497753d8d6a7b4de6b76de13df1d4a0554aacd5896d04352eae88"), looks := true }, kinds := [], alts := [], laidByText := true, laidKinds := [.data, .pinned], laidTests := true, laidLooks := .later }
def ScrubKnownCardSaid : Prop := Claim7.holds Tryz.pinned (.plain (OpenSpec.ofChange scrubKnownSpec)) scrubKnownCard

/-- THE SECOND FORM's CARD OF 'caulkerlaw25.ScrubNone'. -/
def scrubNoneUptoCard : Claim7 := { stood := { row := scrubNoneUptoRow, standIns := [], harness := (true, "49fb91091cb497753d8d6a7b4de6b76de13df1d4a0554aacd5896d04352eae88"), looks := true }, kinds := [], alts := [], laidByText := true, laidKinds := [.data, .pinned], laidTests := true, laidLooks := .later }
def ScrubNoneUptoCardSaid : Prop := Claim7.holds Tryz.pinned (.plain (OpenSpec.upto scrubNoneSpec)) scrubNoneUptoCard

/-- THE SECOND FORM's CARD OF 'caulkerlaw25.ScrubKnown'. -/
def scrubKnownUptoCard : Claim7 := { stood := { row := scrubKnownUptoRow, standIns := [], harness := (true, "49fb91091cb497753d8d6a7b4de6b76de13df1d4a0554aacd5896d04352eae88"), looks := true }, kinds := [], alts := [], laidByText := true, laidKinds := [.data, .pinned], laidTests := true, laidLooks := .later }
def ScrubKnownUptoCardSaid : Prop := Claim7.holds Tryz.pinned (.plain (OpenSpec.upto scrubKnownSpec)) scrubKnownUptoCard
end Rows
end Go.Proofs.YtbmfjlecnponaaaGreatDoor
