/-
  DERIVED. GIVEN WITH THE SEED: THE CARDS: each row of YtkihlgfcjhbgmaaGreatDoorRows.lean that lists a variable, with what it lists TIED to the program's text (the seventh form; the later family's looks); each row that meets fmt, with fmt's text TOLD by the authors' own Lean function (tested against real Go, not proved from fmt's source: count such statements apart). THE CARD IS WHAT COUNTS. Prove the row's statement (the work); the ties are given (YtkihlgfcjhbgmaaGreatDoorTie.lean); close each card by the builder's one call (the guide's Derived/Test/ToyasCard.lean, 'card_holds'). Laid BY PROGRAM, IN A SANDBOX (cutbox-door.mjs). By AI agents, Wed Nov 11 2026. No macro, syntax, notation, axiom, sorry.
-/
import Derived.Test.YtkihlgfcjhbgmaaGreatDoorRows
import GoSem.ClaimSeven
namespace Go.Proofs.YtkihlgfcjhbgmaaGreatDoor
namespace Rows

/-- THE TIED CARD OF 'caulkerlaw29.BaseKnown'. -/
def baseKnownCard : Claim7 := { stood := { row := baseKnownRow, standIns := [], harness := (true, "a17345b7c5a0ee6677c3b52a0c605021c8c3c9654d9ad4db46fe97f360c1b6af"), looks := true }, kinds := [], alts := [], laidByText := true, laidKinds := [.pinned, .data], laidTests := true, laidLooks := .later }
def BaseKnownCardSaid : Prop := Claim7.holds Tryz.pinned (.plain (OpenSpec.ofChange baseKnownSpec)) baseKnownCard

/-- THE TIED CARD OF 'caulkerlaw29.BaseNone'. -/
def baseNoneCard : Claim7 := { stood := { row := baseNoneRow, standIns := [], harness := (true, "a17345b7c5a0ee6677c3b52a0c605021c8c3c9654d9ad4db46fe97f360c1b6af"), looks := true }, kinds := [], alts := [], laidByText := true, laidKinds := [.pinned, .data, .sentinel, .sentinel], laidTests := true, laidLooks := .later }
def BaseNoneCardSaid : Prop := Claim7.holds Tryz.pinned (.plain (OpenSpec.ofChange baseNoneSpec)) baseNoneCard

/-- THE TIED CARD OF 'caulkerlaw31.ScriptKnown'. -/
def scriptKnownCard : Claim7 := { stood := { row := scriptKnownRow, standIns := [], harness := (true, "a17345b7c5a0ee6677c3b52a0c605021c8c3c9654d9ad4db46fe97f360c1b6af"), looks := true }, kinds := [], alts := [], laidByText := true, laidKinds := [.pinned, .data, .sentinel, .sentinel], laidTests := true, laidLooks := .later }
def ScriptKnownCardSaid : Prop := Claim7.holds Tryz.pinned (.plain (OpenSpec.ofChange scriptKnownSpec)) scriptKnownCard

/-- THE TIED CARD OF 'caulkerlaw31.ScriptNone'. -/
def scriptNoneCard : Claim7 := { stood := { row := scriptNoneRow, standIns := [], harness := (true, "a17345b7c5a0ee6677c3b52a0c605021c8c3c9654d9ad4db46fe97f360c1b6af"), looks := true }, kinds := [], alts := [], laidByText := true, laidKinds := [.pinned, .data, .sentinel, .sentinel], laidTests := true, laidLooks := .later }
def ScriptNoneCardSaid : Prop := Claim7.holds Tryz.pinned (.plain (OpenSpec.ofChange scriptNoneSpec)) scriptNoneCard

/-- THE SECOND FORM's CARD OF 'caulkerlaw29.BaseKnown'. -/
def baseKnownUptoCard : Claim7 := { stood := { row := baseKnownUptoRow, standIns := [], harness := (true, "a17345b7c5a0ee6677c3b52a0c605021c8c3c9654d9ad4db46fe97f360c1b6af"), looks := true }, kinds := [], alts := [], laidByText := true, laidKinds := [.pinned, .data], laidTests := true, laidLooks := .later }
def BaseKnownUptoCardSaid : Prop := Claim7.holds Tryz.pinned (.plain (OpenSpec.upto baseKnownSpec)) baseKnownUptoCard

/-- THE SECOND FORM's CARD OF 'caulkerlaw29.BaseNone'. -/
def baseNoneUptoCard : Claim7 := { stood := { row := baseNoneUptoRow, standIns := [], harness := (true, "a17345b7c5a0ee6677c3b52a0c605021c8c3c9654d9ad4db46fe97f360c1b6af"), looks := true }, kinds := [], alts := [], laidByText := true, laidKinds := [.pinned, .data, .sentinel, .sentinel], laidTests := true, laidLooks := .later }
def BaseNoneUptoCardSaid : Prop := Claim7.holds Tryz.pinned (.plain (OpenSpec.upto baseNoneSpec)) baseNoneUptoCard

/-- THE SECOND FORM's CARD OF 'caulkerlaw31.ScriptKnown'. -/
def scriptKnownUptoCard : Claim7 := { stood := { row := scriptKnownUptoRow, standIns := [], harness := (true, "a17345b7c5a0ee6677c3b52a0c605021c8c3c9654d9ad4db46fe97f360c1b6af"), looks := true }, kinds := [], alts := [], laidByText := true, laidKinds := [.pinned, .data, .sentinel, .sentinel], laidTests := true, laidLooks := .later }
def ScriptKnownUptoCardSaid : Prop := Claim7.holds Tryz.pinned (.plain (OpenSpec.upto scriptKnownSpec)) scriptKnownUptoCard

/-- THE SECOND FORM's CARD OF 'caulkerlaw31.ScriptNone'. -/
def scriptNoneUptoCard : Claim7 := { stood := { row := scriptNoneUptoRow, standIns := [], harness := (true, "a17345b7c5a0ee6677c3b52a0c605021c8c3c9654d9ad4db46fe97f360c1b6af"), looks := true }, kinds := [], alts := [], laidByText := true, laidKinds := [.pinned, .data, .sentinel, .sentinel], laidTests := true, laidLooks := .later }
def ScriptNoneUptoCardSaid : Prop := Claim7.holds Tryz.pinned (.plain (OpenSpec.upto scriptNoneSpec)) scriptNoneUptoCard
end Rows
end Go.Proofs.YtkihlgfcjhbgmaaGreatDoor
