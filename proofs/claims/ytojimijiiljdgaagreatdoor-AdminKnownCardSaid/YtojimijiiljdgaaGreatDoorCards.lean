/-
  DERIVED. GIVEN WITH THE SEED: THE CARDS: each row of YtojimijiiljdgaaGreatDoorRows.lean that lists a variable, with what it lists TIED to the program's text (the seventh form; the later family's looks); each row that meets fmt, with fmt's text TOLD by the authors' own Lean function (tested against real Go, not proved from fmt's source: count such statements apart). THE CARD IS WHAT COUNTS. Prove the row's statement (the work); the ties are given (YtojimijiiljdgaaGreatDoorTie.lean); close each card by the builder's one call (the guide's Derived/Test/ToyasCard.lean, 'card_holds'). Laid BY PROGRAM, IN A SANDBOX (cutbox-door.mjs). By AI agents, Wed Nov 11 2026. No macro, syntax, notation, axiom, sorry.
-/
import Derived.Test.YtojimijiiljdgaaGreatDoorRows
import GoSem.ClaimSeven
namespace Go.Proofs.YtojimijiiljdgaaGreatDoor
namespace Rows

/-- THE TIED CARD OF 'caulkerlaw24.AdminKnown'. -/
def adminKnownCard : Claim7 := { stood := { row := adminKnownRow, standIns := [], harness := (true, "776cc997eb1aa013d89eee7ca5ff3d0030597a0259e479a4a9f15a2a4ee62dcd"), looks := true }, kinds := [], alts := [], laidByText := true, laidKinds := [.data, .pinned], laidTests := true, laidLooks := .later }
def AdminKnownCardSaid : Prop := Claim7.holds Tryz.pinned (.plain (OpenSpec.ofChange adminKnownSpec)) adminKnownCard

/-- THE SECOND FORM's CARD OF 'caulkerlaw24.AdminKnown'. -/
def adminKnownUptoCard : Claim7 := { stood := { row := adminKnownUptoRow, standIns := [], harness := (true, "776cc997eb1aa013d89eee7ca5ff3d0030597a0259e479a4a9f15a2a4ee62dcd"), looks := true }, kinds := [], alts := [], laidByText := true, laidKinds := [.data, .pinned], laidTests := true, laidLooks := .later }
def AdminKnownUptoCardSaid : Prop := Claim7.holds Tryz.pinned (.plain (OpenSpec.upto adminKnownSpec)) adminKnownUptoCard
end Rows
end Go.Proofs.YtojimijiiljdgaaGreatDoor
