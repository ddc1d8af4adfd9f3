import Derived.Test.YtojimijiiljdgaaGreatDoorRows
import Derived.Test.YtojimijiiljdgaaGreatDoorCards
import Derived.JoinedOf
import Derived.KernelRfl
import Derived.ProofKit
import Derived.SevenTiedAt
import Derived.Stop.Joined
import Derived.Test.YtojimijiiljdgaaGreatDoorVABF
set_option maxHeartbeats 8000000
namespace Go.Proofs.YtojimijiiljdgaaGreatDoor
open Go
namespace adminKnown
set_option maxRecDepth 100000
theorem cf1 : Tryz.pinned.checked.prog.funcNamed Rows.adminKnownRow.func = some 3 := by kernel_rfl
theorem cf2 : Tryz.f3.isInstance Tryz.pinned.checked.prog Rows.adminKnownRow.origin Rows.adminKnownRow.targs := of_decide_eq_true (by kernel_rfl)
theorem cf3 : Tryz.f3.isWrapper Tryz.pinned.checked.prog Rows.adminKnownRow.wrapper Rows.adminKnownRow.mainSum := by unfold Func.isWrapper; first | (rw [if_pos (by decide +kernel)]; kernel_rfl) | (rw [if_neg (by decide +kernel)]; exact ⟨rfl, rfl⟩)
theorem cf4 : Rows.adminKnownRow.wfByText (OpenSpec.ofChange Rows.adminKnownSpec) = true := by kernel_rfl
theorem cf5 : Tryz.pinned.checked.prog.mainIs = some (((true, "776cc997eb1aa013d89eee7ca5ff3d0030597a0259e479a4a9f15a2a4ee62dcd") : Bool × String).1, ((true, "776cc997eb1aa013d89eee7ca5ff3d0030597a0259e479a4a9f15a2a4ee62dcd") : Bool × String).2.toList) := by kernel_rfl
theorem cf6 : true = Tryz.pinned.checked.prog.looks [] := by kernel_rfl
theorem hg : Tryz.prog.funcs.any Func.goes = false := by kernel_rfl
theorem cf7 : false = Rows.adminKnownRow.goesBy Tryz.pinned.checked.prog := Go.Ev.goesBy_none (P := Tryz.prog) hg Rows.adminKnownRow
end adminKnown
end Go.Proofs.YtojimijiiljdgaaGreatDoor
