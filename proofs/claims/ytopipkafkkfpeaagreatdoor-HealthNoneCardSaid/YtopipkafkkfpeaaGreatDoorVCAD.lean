import Derived.Test.YtopipkafkkfpeaaGreatDoorRows
import Derived.Test.YtopipkafkkfpeaaGreatDoorCards
import Derived.JoinedOf
import Derived.KernelRfl
import Derived.ProofKit
import Derived.SevenTiedAt
import Derived.Stop.Joined
import Derived.Test.YtopipkafkkfpeaaGreatDoorVAAT
set_option maxHeartbeats 8000000
namespace Go.Proofs.YtopipkafkkfpeaaGreatDoor
open Go
namespace healthNone
set_option maxRecDepth 100000
theorem cf1 : Tryz.pinned.checked.prog.funcNamed Rows.healthNoneRow.func = some 3 := by kernel_rfl
theorem cf2 : Tryz.f3.isInstance Tryz.pinned.checked.prog Rows.healthNoneRow.origin Rows.healthNoneRow.targs := of_decide_eq_true (by kernel_rfl)
theorem cf3 : Tryz.f3.isWrapper Tryz.pinned.checked.prog Rows.healthNoneRow.wrapper Rows.healthNoneRow.mainSum := by unfold Func.isWrapper; first | (rw [if_pos (by decide +kernel)]; kernel_rfl) | (rw [if_neg (by decide +kernel)]; exact ⟨rfl, rfl⟩)
theorem cf4 : Rows.healthNoneRow.wfByText (OpenSpec.ofChange Rows.healthNoneSpec) = true := by kernel_rfl
theorem cf5 : Tryz.pinned.checked.prog.mainIs = some (((true, "40fb32e5d642eb3322c4ce376737c8b0de7696c97193ef7e3eb9ce38e6a9b847") : Bool × String).1, ((true, "40fb32e5d642eb3322c4ce376737c8b0de7696c97193ef7e3eb9ce38e6a9b847") : Bool × String).2.toList) := by kernel_rfl
theorem cf6 : true = Tryz.pinned.checked.prog.looks [] := by kernel_rfl
theorem hg : Tryz.prog.funcs.any Func.goes = false := by kernel_rfl
theorem cf7 : false = Rows.healthNoneRow.goesBy Tryz.pinned.checked.prog := Go.Ev.goesBy_none (P := Tryz.prog) hg Rows.healthNoneRow
theorem cf8 : ([9].all fun u => !Tryz.prog.wantsStandIn u) = true := by kernel_rfl
end healthNone
end Go.Proofs.YtopipkafkkfpeaaGreatDoor
