/-
  DERIVED. GIVEN WITH THE SEED: THE CARDS: each row of YtkgcignjblgifaaGreatDoorRows.lean that lists a variable, with what it lists TIED to the program's text (the seventh form; the later family's looks); each row that meets fmt, with fmt's text TOLD by the authors' own Lean function (tested against real Go, not proved from fmt's source: count such statements apart). THE CARD IS WHAT COUNTS. Prove the row's statement (the work); the ties are given (YtkgcignjblgifaaGreatDoorTie.lean); close each card by the builder's one call (the guide's Derived/Test/ToyasCard.lean, 'card_holds'). Laid BY PROGRAM, IN A SANDBOX (cutbox-door.mjs). By AI agents, Wed Nov 11 2026. No macro, syntax, notation, axiom, sorry.
-/
import Derived.Test.YtkgcignjblgifaaGreatDoorRows
import GoSem.ClaimSeven
namespace Go.Proofs.YtkgcignjblgifaaGreatDoor
namespace Rows

/-- THE TIED CARD OF 'caulkerlaw22.PoolNone'. -/
def poolNoneCard : Claim7 := { stood := { row := poolNoneRow, standIns := [], harness := (true, "cbb7302e7709ae8de86530219339a063e1d96191601844cbf93c27ad55cd13e3"), looks := true }, kinds := [], alts := [], laidByText := true, laidKinds := [.data, .sentinel, .sentinel, .pinned], laidTests := true, laidLooks := .later }
def PoolNoneCardSaid : Prop := Claim7.holds Tryz.pinned (.plain (OpenSpec.ofChange poolNoneSpec)) poolNoneCard

/-- THE TIED CARD OF 'caulkerlaw22.PoolKnown'. -/
def poolKnownCard : Claim7 := { stood := { row := poolKnownRow, standIns := [], harness := (true, "cbb7302e7709ae8de86530219339a063e1d96191601844cbf93c27ad55cd13e3"), looks := true }, kinds := [], alts := [], laidByText := true, laidKinds := [.data, .sentinel, .sentinel, .pinned], laidTests := true, laidLooks := .later }
def PoolKnownCardSaid : Prop := Claim7.holds Tryz.pinned (.plain (OpenSpec.ofChange poolKnownSpec)) poolKnownCard

/-- THE SECOND FORM's CARD OF 'caulkerlaw22.PoolNone'. -/
def poolNoneUptoCard : Claim7 := { stood := { row := poolNoneUptoRow, standIns := [], harness := (true, "cbb7302e7709ae8de86530219339a063e1d96191601844cbf93c27ad55cd13e3"), looks := true }, kinds := [], alts := [], laidByText := true, laidKinds := [.data, .sentinel, .sentinel, .pinned], laidTests := true, laidLooks := .later }
def PoolNoneUptoCardSaid : Prop := Claim7.holds Tryz.pinned (.plain (OpenSpec.upto poolNoneSpec)) poolNoneUptoCard

/-- THE SECOND FORM's CARD OF 'caulkerlaw22.PoolKnown'. -/
def poolKnownUptoCard : Claim7 := { stood := { row := poolKnownUptoRow, standIns := [], harness := (true, "cbb7302e7709ae8de86530219339a063e1d96191601844cbf93c27ad55cd13e3"), looks := true }, kinds := [], alts := [], laidByText := true, laidKinds := [.data, .sentinel, .sentinel, .pinned], laidTests := true, laidLooks := .later }
def PoolKnownUptoCardSaid : Prop := Claim7.holds Tryz.pinned (.plain (OpenSpec.upto poolKnownSpec)) poolKnownUptoCard
end Rows
end Go.Proofs.YtkgcignjblgifaaGreatDoor
