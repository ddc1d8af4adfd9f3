import Derived.Test.YtkihlgfcjhbgmaaGreatDoorRows
import Derived.Test.YtkihlgfcjhbgmaaGreatDoorCards
import Derived.JoinedOf
import Derived.KernelRfl
import Derived.ProofKit
import Derived.SevenTiedAt
import Derived.Stop.Joined
import Derived.Test.YtkihlgfcjhbgmaaGreatDoorVAAJ
set_option maxHeartbeats 8000000
namespace Go.Proofs.YtkihlgfcjhbgmaaGreatDoor
open Go
namespace baseKnown
set_option maxRecDepth 100000
theorem cf1 : Tryz.pinned.checked.prog.funcNamed Rows.baseKnownRow.func = some 3 := by kernel_rfl
theorem cf2 : Tryz.f3.isInstance Tryz.pinned.checked.prog Rows.baseKnownRow.origin Rows.baseKnownRow.targs := of_decide_eq_true (by kernel_rfl)
theorem cf3 : Tryz.f3.isWrapper Tryz.pinned.checked.prog Rows.baseKnownRow.wrapper Rows.baseKnownRow.mainSum := by unfold Func.isWrapper; first | (rw [if_pos (by decide +kernel)]; kernel_rfl) | (rw [if_neg (by decide +kernel)]; exact ⟨rfl, rfl⟩)
theorem cf4 : Rows.baseKnownRow.wfByText (OpenSpec.ofChange Rows.baseKnownSpec) = true := by kernel_rfl
theorem cf5 : Tryz.pinned.checked.prog.mainIs = some (((true, "a17345b7c5a0ee6677c3b52a0c605021c8c3c9654d9ad4db46fe97f360c1b6af") : Bool × String).1, ((true, "a17345b7c5a0ee6677c3b52a0c605021c8c3c9654d9ad4db46fe97f360c1b6af") : Bool × String).2.toList) := by kernel_rfl
theorem cf6 : true = Tryz.pinned.checked.prog.looks [] := by kernel_rfl
theorem hg : Tryz.prog.funcs.any Func.goes = false := by kernel_rfl
theorem cf7 : false = Rows.baseKnownRow.goesBy Tryz.pinned.checked.prog := Go.Ev.goesBy_none (P := Tryz.prog) hg Rows.baseKnownRow
end baseKnown
end Go.Proofs.YtkihlgfcjhbgmaaGreatDoor
