import Derived.Test.YtgmediofcifhlaaGreatDoorRows
import Derived.Test.YtgmediofcifhlaaGreatDoorCards
import Derived.JoinedOf
import Derived.KernelRfl
import Derived.ProofKit
import Derived.SevenTiedAt
import Derived.Stop.Joined
import Derived.Test.YtgmediofcifhlaaGreatDoorVAAZ
set_option maxHeartbeats 8000000
namespace Go.Proofs.YtgmediofcifhlaaGreatDoor
open Go
namespace adminNone
set_option maxRecDepth 100000
theorem cf1 : Tryz.pinned.checked.prog.funcNamed Rows.adminNoneRow.func = some 3 := by kernel_rfl
theorem cf2 : Tryz.f3.isInstance Tryz.pinned.checked.prog Rows.adminNoneRow.origin Rows.adminNoneRow.targs := of_decide_eq_true (by kernel_rfl)
theorem cf3 : Tryz.f3.isWrapper Tryz.pinned.checked.prog Rows.adminNoneRow.wrapper Rows.adminNoneRow.mainSum := by unfold Func.isWrapper; first | (rw [if_pos (by decide +kernel)]; kernel_rfl) | (rw [if_neg (by decide +kernel)]; exact ⟨rfl, rfl⟩)
theorem cf4 : Rows.adminNoneRow.wfByText (OpenSpec.ofChange Rows.adminNoneSpec) = true := by kernel_rfl
theorem cf5 : Tryz.pinned.checked.prog.mainIs = some (((true, "395d791b5e49655cfa9035e41b4fa4461567162b32954090a168055bb2cb30f1") : Bool × String).1, ((true, "395d791b5e49655cfa9035e41b4fa4461567162b32954090a168055bb2cb30f1") : Bool × String).2.toList) := by kernel_rfl
theorem cf6 : true = Tryz.pinned.checked.prog.looks [] := by kernel_rfl
theorem hg : Tryz.prog.funcs.any Func.goes = false := by kernel_rfl
theorem cf7 : false = Rows.adminNoneRow.goesBy Tryz.pinned.checked.prog := Go.Ev.goesBy_none (P := Tryz.prog) hg Rows.adminNoneRow
theorem cf8 : ([37].all fun u => !Tryz.prog.wantsStandIn u) = true := by kernel_rfl
end adminNone
end Go.Proofs.YtgmediofcifhlaaGreatDoor
