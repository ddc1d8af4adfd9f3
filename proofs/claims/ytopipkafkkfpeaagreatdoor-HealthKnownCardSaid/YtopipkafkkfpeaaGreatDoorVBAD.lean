import Derived.Test.YtopipkafkkfpeaaGreatDoorRows
import Derived.Test.YtopipkafkkfpeaaGreatDoorCards
import Derived.JoinedOf
import Derived.KernelRfl
import Derived.ProofKit
import Derived.SevenTiedAt
import Derived.Stop.Joined
import Derived.Test.YtopipkafkkfpeaaGreatDoorVAAT
set_option maxHeartbeats 8000000
namespace Go.Proofs.YtopipkafkkfpeaaGreatDoor
open Go
namespace healthKnown
set_option maxRecDepth 100000
theorem un : Tryz.prog.unfollowed 4 = true := by unfold Program.unfollowed; rw [Go.Ev.closure_fast]; kernel_rfl
theorem jf9 : (((Rows.healthKnownRow).inPlace == Tryz.prog.inPlace 4)) = true := by unfold Program.inPlace; rw [Go.Ev.closure_fast]; kernel_rfl
theorem jf10 : (((Rows.healthKnownRow).unfollowed == Tryz.prog.unfollowed 4)) = true := by unfold Program.unfollowed; rw [Go.Ev.closure_fast]; kernel_rfl
theorem jf11 : (((Rows.healthKnownRow).recurses == Tryz.prog.recurses 4)) = true := by rw [Go.Ev.recurses_un un]; kernel_rfl
theorem jf12 : (((Rows.healthKnownRow).named == Tryz.prog.varsNamed 4)) = true := by unfold Program.varsNamed; rw [Go.Ev.closure_fast]; kernel_rfl
end healthKnown
end Go.Proofs.YtopipkafkkfpeaaGreatDoor
