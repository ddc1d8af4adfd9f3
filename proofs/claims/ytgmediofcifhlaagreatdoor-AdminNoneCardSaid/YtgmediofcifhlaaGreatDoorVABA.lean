import Derived.Test.YtgmediofcifhlaaGreatDoorRows
import Derived.Test.YtgmediofcifhlaaGreatDoorCards
import Derived.JoinedOf
import Derived.KernelRfl
import Derived.ProofKit
import Derived.SevenTiedAt
import Derived.Stop.Joined
import Derived.Test.YtgmediofcifhlaaGreatDoorVAAZ
set_option maxHeartbeats 8000000
namespace Go.Proofs.YtgmediofcifhlaaGreatDoor
open Go
namespace adminNone
set_option maxRecDepth 100000
theorem un : Tryz.prog.unfollowed 3 = true := by unfold Program.unfollowed; rw [Go.Ev.closure_fast]; kernel_rfl
theorem jf9 : (((Rows.adminNoneRow).inPlace == Tryz.prog.inPlace 3)) = true := by unfold Program.inPlace; rw [Go.Ev.closure_fast]; kernel_rfl
theorem jf10 : (((Rows.adminNoneRow).unfollowed == Tryz.prog.unfollowed 3)) = true := by unfold Program.unfollowed; rw [Go.Ev.closure_fast]; kernel_rfl
theorem jf11 : (((Rows.adminNoneRow).recurses == Tryz.prog.recurses 3)) = true := by rw [Go.Ev.recurses_un un]; kernel_rfl
theorem jf12 : (((Rows.adminNoneRow).named == Tryz.prog.varsNamed 3)) = true := by unfold Program.varsNamed; rw [Go.Ev.closure_fast]; kernel_rfl
end adminNone
end Go.Proofs.YtgmediofcifhlaaGreatDoor
