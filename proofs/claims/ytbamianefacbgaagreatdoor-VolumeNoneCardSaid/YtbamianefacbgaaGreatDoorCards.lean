/-
  DERIVED. GIVEN WITH THE SEED: THE CARDS: each row of YtbamianefacbgaaGreatDoorRows.lean that lists a variable, with what it lists TIED to the program's text (the seventh form; the later family's looks); each row that meets fmt, with fmt's text TOLD by the authors' own Lean function (tested against real Go, not proved from fmt's source: count such statements apart). THE CARD IS WHAT COUNTS. Prove the row's statement (the work); the ties are given (YtbamianefacbgaaGreatDoorTie.lean); close each card by the builder's one call (the guide's Derived/Test/ToyasCard.lean, 'card_holds'). Laid BY PROGRAM, IN A SANDBOX (cutbox-door.mjs). By AI agents, Wed Nov 11 2026. No macro, syntax, notation, axiom, sorry.
-/
import Derived.Test.YtbamianefacbgaaGreatDoorRows
import GoSem.ClaimSeven
namespace Go.Proofs.YtbamianefacbgaaGreatDoor
namespace Rows

/-- THE TIED CARD OF 'caulkerlaw23.VolumeNone'. -/
def volumeNoneCard : Claim7 := { stood := { row := volumeNoneRow, standIns := [], harness := (true, "7027be25ff07ab6982452c4339c87bc0ca108be1ea9a9dc1bc13c51c3fb37d3d"), looks := true }, kinds := [], alts := [], laidByText := true, laidKinds := [.data, .pinned], laidTests := true, laidLooks := .later }
def VolumeNoneCardSaid : Prop := Claim7.holds Tryz.pinned (.plain (OpenSpec.ofChange volumeNoneSpec)) volumeNoneCard

/-- THE TIED CARD OF 'caulkerlaw23.VolumeKnown'. -/
def volumeKnownCard : Claim7 := { stood := { row := volumeKnownRow, standIns := [], harness := (true, "7027be25ff07ab6982452c4339c87bc0ca108be1ea9a9dc1bc13c51c3fb37d3d"), looks := true }, kinds := [], alts := [], laidByText := true, laidKinds := [.data, .pinned], laidTests := true, laidLooks := .later }
def VolumeKnownCardSaid : Prop := Claim7.holds Tryz.pinned (.plain (OpenSpec.ofChange volumeKnownSpec)) volumeKnownCard

/-- THE TIED CARD OF 'caulkerlaw26.ResilverNone'. -/
def resilverNoneCard : Claim7 := { stood := { row := resilverNoneRow, standIns := [], harness := (true, "7027be25ff07ab6982452c4339c87bc0ca108be1ea9a9dc1bc13c51c3fb37d3d"), looks := true }, kinds := [], alts := [], laidByText := true, laidKinds := [.data, .pinned], laidTests := true, laidLooks := .later }
def ResilverNoneCardSaid : Prop := Claim7.holds Tryz.pinned (.plain (OpenSpec.ofChange resilverNoneSpec)) resilverNoneCard

/-- THE TIED CARD OF 'caulkerlaw26.ResilverKnown'. -/
def resilverKnownCard : Claim7 := { stood := { row := resilverKnownRow, standIns := [], harness := (true, "7027be25ff07ab6982452c4339c87bc0ca108be1ea9a9dc1bc13c51c3fb37d3d"), looks := true }, kinds := [], alts := [], laidByText := true, laidKinds := [.data, .pinned], laidTests := true, laidLooks := .later }
def ResilverKnownCardSaid : Prop := Claim7.holds Tryz.pinned (.plain (OpenSpec.ofChange resilverKnownSpec)) resilverKnownCard

/-- THE SECOND FORM's CARD OF 'caulkerlaw23.VolumeNone'. -/
def volumeNoneUptoCard : Claim7 := { stood := { row := volumeNoneUptoRow, standIns := [], harness := (true, "7027be25ff07ab6982452c4339c87bc0ca108be1ea9a9dc1bc13c51c3fb37d3d"), looks := true }, kinds := [], alts := [], laidByText := true, laidKinds := [.data, .pinned], laidTests := true, laidLooks := .later }
def VolumeNoneUptoCardSaid : Prop := Claim7.holds Tryz.pinned (.plain (OpenSpec.upto volumeNoneSpec)) volumeNoneUptoCard

/-- THE SECOND FORM's CARD OF 'caulkerlaw23.VolumeKnown'. -/
def volumeKnownUptoCard : Claim7 := { stood := { row := volumeKnownUptoRow, standIns := [], harness := (true, "7027be25ff07ab6982452c4339c87bc0ca108be1ea9a9dc1bc13c51c3fb37d3d"), looks := true }, kinds := [], alts := [], laidByText := true, laidKinds := [.data, .pinned], laidTests := true, laidLooks := .later }
def VolumeKnownUptoCardSaid : Prop := Claim7.holds Tryz.pinned (.plain (OpenSpec.upto volumeKnownSpec)) volumeKnownUptoCard

/-- THE SECOND FORM's CARD OF 'caulkerlaw26.ResilverNone'. -/
def resilverNoneUptoCard : Claim7 := { stood := { row := resilverNoneUptoRow, standIns := [], harness := (true, "7027be25ff07ab6982452c4339c87bc0ca108be1ea9a9dc1bc13c51c3fb37d3d"), looks := true }, kinds := [], alts := [], laidByText := true, laidKinds := [.data, .pinned], laidTests := true, laidLooks := .later }
def ResilverNoneUptoCardSaid : Prop := Claim7.holds Tryz.pinned (.plain (OpenSpec.upto resilverNoneSpec)) resilverNoneUptoCard

/-- THE SECOND FORM's CARD OF 'caulkerlaw26.ResilverKnown'. -/
def resilverKnownUptoCard : Claim7 := { stood := { row := resilverKnownUptoRow, standIns := [], harness := (true, "7027be25ff07ab6982452c4339c87bc0ca108be1ea9a9dc1bc13c51c3fb37d3d"), looks := true }, kinds := [], alts := [], laidByText := true, laidKinds := [.data, .pinned], laidTests := true, laidLooks := .later }
def ResilverKnownUptoCardSaid : Prop := Claim7.holds Tryz.pinned (.plain (OpenSpec.upto resilverKnownSpec)) resilverKnownUptoCard
end Rows
end Go.Proofs.YtbamianefacbgaaGreatDoor
