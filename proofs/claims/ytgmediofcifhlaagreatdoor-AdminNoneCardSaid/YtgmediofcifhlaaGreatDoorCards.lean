/-
  DERIVED. GIVEN WITH THE SEED: THE CARDS: each row of YtgmediofcifhlaaGreatDoorRows.lean that lists a variable, with what it lists TIED to the program's text (the seventh form; the later family's looks); each row that meets fmt, with fmt's text TOLD by the authors' own Lean function (tested against real Go, not proved from fmt's source: count such statements apart). THE CARD IS WHAT COUNTS. Prove the row's statement (the work); the ties are given (YtgmediofcifhlaaGreatDoorTie.lean); close each card by the builder's one call (the guide's Derived/Test/ToyasCard.lean, 'card_holds'). Laid BY PROGRAM, IN A SANDBOX (cutbox-door.mjs). By AI agents, Wed Nov 11 2026. No macro, syntax, notation, axiom, sorry.
-/
import Derived.Test.YtgmediofcifhlaaGreatDoorRows
import GoSem.ClaimSeven
namespace Go.Proofs.YtgmediofcifhlaaGreatDoor
namespace Rows

/-- THE TIED CARD OF 'caulkerlaw24.AdminNone'. -/
def adminNoneCard : Claim7 := { stood := { row := adminNoneRow, standIns := [], harness := (true, "395d791b5e49655cfa9035e41b4fa4461567162b32954090a168055bb2cb30f1"), looks := true }, kinds := [], alts := [], laidByText := true, laidKinds := [.data, .pinned], laidTests := true, laidLooks := .later }
def AdminNoneCardSaid : Prop := Claim7.holds Tryz.pinned (.plain (OpenSpec.ofChange adminNoneSpec)) adminNoneCard

/-- THE SECOND FORM's CARD OF 'caulkerlaw24.AdminNone'. -/
def adminNoneUptoCard : Claim7 := { stood := { row := adminNoneUptoRow, standIns := [], harness := (true, "395d791b5e49655cfa9035e41b4fa4461567162b32954090a168055bb2cb30f1"), looks := true }, kinds := [], alts := [], laidByText := true, laidKinds := [.data, .pinned], laidTests := true, laidLooks := .later }
def AdminNoneUptoCardSaid : Prop := Claim7.holds Tryz.pinned (.plain (OpenSpec.upto adminNoneSpec)) adminNoneUptoCard
end Rows
end Go.Proofs.YtgmediofcifhlaaGreatDoor
