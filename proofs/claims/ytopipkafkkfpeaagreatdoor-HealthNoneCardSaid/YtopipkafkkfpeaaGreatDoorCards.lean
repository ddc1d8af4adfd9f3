/-
  DERIVED. GIVEN WITH THE SEED: THE CARDS: each row of YtopipkafkkfpeaaGreatDoorRows.lean that lists a variable, with what it lists TIED to the program's text (the seventh form; the later family's looks); each row that meets fmt, with fmt's text TOLD by the authors' own Lean function (tested against real Go, not proved from fmt's source: count such statements apart). THE CARD IS WHAT COUNTS. Prove the row's statement (the work); the ties are given (YtopipkafkkfpeaaGreatDoorTie.lean); close each card by the builder's one call (the guide's Derived/Test/ToyasCard.lean, 'card_holds'). Laid BY PROGRAM, IN A SANDBOX (cutbox-door.mjs). By AI agents, Wed Nov 11 2026. No macro, syntax, notation, axiom, sorry.
-/
import Derived.Test.YtopipkafkkfpeaaGreatDoorRows
import GoSem.ClaimSeven
namespace Go.Proofs.YtopipkafkkfpeaaGreatDoor
namespace Rows

/-- THE TIED CARD OF 'caulkerlaw27.HealthNone'. -/
def healthNoneCard : Claim7 := { stood := { row := healthNoneRow, standIns := [], harness := (true, "40fb32e5d642eb3322c4ce376737c8b0de7696c97193ef7e3eb9ce38e6a9b847"), looks := true }, kinds := [], alts := [], laidByText := true, laidKinds := [.data, .pinned], laidTests := true, laidLooks := .later }
def HealthNoneCardSaid : Prop := Claim7.holds Tryz.pinned (.plain (OpenSpec.ofChange healthNoneSpec)) healthNoneCard

/-- THE TIED CARD OF 'caulkerlaw27.HealthKnown'. -/
def healthKnownCard : Claim7 := { stood := { row := healthKnownRow, standIns := [], harness := (true, "40fb32e5d642eb3322c4ce376737c8b0de7696c97193ef7e3eb9ce38e6a9b847"), looks := true }, kinds := [], alts := [], laidByText := true, laidKinds := [.data, .pinned], laidTests := true, laidLooks := .later }
def HealthKnownCardSaid : Prop := Claim7.holds Tryz.pinned (.plain (OpenSpec.ofChange healthKnownSpec)) healthKnownCard

/-- THE SECOND FORM's CARD OF 'caulkerlaw27.HealthNone'. -/
def healthNoneUptoCard : Claim7 := { stood := { row := healthNoneUptoRow, standIns := [], harness := (true, "40fb32e5d642eb3322c4ce376737c8b0de7696c97193ef7e3eb9ce38e6a9b847"), looks := true }, kinds := [], alts := [], laidByText := true, laidKinds := [.data, .pinned], laidTests := true, laidLooks := .later }
def HealthNoneUptoCardSaid : Prop := Claim7.holds Tryz.pinned (.plain (OpenSpec.upto healthNoneSpec)) healthNoneUptoCard

/-- THE SECOND FORM's CARD OF 'caulkerlaw27.HealthKnown'. -/
def healthKnownUptoCard : Claim7 := { stood := { row := healthKnownUptoRow, standIns := [], harness := (true, "40fb32e5d642eb3322c4ce376737c8b0de7696c97193ef7e3eb9ce38e6a9b847"), looks := true }, kinds := [], alts := [], laidByText := true, laidKinds := [.data, .pinned], laidTests := true, laidLooks := .later }
def HealthKnownUptoCardSaid : Prop := Claim7.holds Tryz.pinned (.plain (OpenSpec.upto healthKnownSpec)) healthKnownUptoCard
end Rows
end Go.Proofs.YtopipkafkkfpeaaGreatDoor
