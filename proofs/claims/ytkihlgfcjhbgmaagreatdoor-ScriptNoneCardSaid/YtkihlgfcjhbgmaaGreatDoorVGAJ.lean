import Derived.Test.YtkihlgfcjhbgmaaGreatDoorRows
import Derived.Test.YtkihlgfcjhbgmaaGreatDoorCards
import Derived.JoinedOf
import Derived.KernelRfl
import Derived.ProofKit
import Derived.SevenTiedAt
import Derived.Stop.Joined
import Derived.Test.YtkihlgfcjhbgmaaGreatDoorVAAJ
set_option maxHeartbeats 8000000
namespace Go.Proofs.YtkihlgfcjhbgmaaGreatDoor
open Go
namespace scriptNone
set_option maxRecDepth 100000
theorem cf1 : Tryz.pinned.checked.prog.funcNamed Rows.scriptNoneRow.func = some 6 := by kernel_rfl
theorem cf2 : Tryz.f6.isInstance Tryz.pinned.checked.prog Rows.scriptNoneRow.origin Rows.scriptNoneRow.targs := of_decide_eq_true (by kernel_rfl)
theorem cf3 : Tryz.f6.isWrapper Tryz.pinned.checked.prog Rows.scriptNoneRow.wrapper Rows.scriptNoneRow.mainSum := by unfold Func.isWrapper; first | (rw [if_pos (by decide +kernel)]; kernel_rfl) | (rw [if_neg (by decide +kernel)]; exact ⟨rfl, rfl⟩)
theorem cf4 : Rows.scriptNoneRow.wfByText (OpenSpec.ofChange Rows.scriptNoneSpec) = true := by kernel_rfl
theorem cf5 : Tryz.pinned.checked.prog.mainIs = some (((true, "a17345b7c5a0ee6677c3b52a0c605021c8c3c9654d9ad4db46fe97f360c1b6af") : Bool × String).1, ((true, "a17345b7c5a0ee6677c3b52a0c605021c8c3c9654d9ad4db46fe97f360c1b6af") : Bool × String).2.toList) := by kernel_rfl
theorem cf6 : true = Tryz.pinned.checked.prog.looks [] := by kernel_rfl
theorem hg : Tryz.prog.funcs.any Func.goes = false := by kernel_rfl
theorem cf7 : false = Rows.scriptNoneRow.goesBy Tryz.pinned.checked.prog := Go.Ev.goesBy_none (P := Tryz.prog) hg Rows.scriptNoneRow
theorem cf8 : ([68].all fun u => !Tryz.prog.wantsStandIn u) = true := by kernel_rfl
end scriptNone
end Go.Proofs.YtkihlgfcjhbgmaaGreatDoor
