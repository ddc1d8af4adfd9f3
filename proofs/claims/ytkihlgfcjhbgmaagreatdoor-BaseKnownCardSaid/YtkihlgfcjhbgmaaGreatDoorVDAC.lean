import Derived.Test.YtkihlgfcjhbgmaaGreatDoorRows
import Derived.Test.YtkihlgfcjhbgmaaGreatDoorCards
import Derived.JoinedOf
import Derived.KernelRfl
import Derived.ProofKit
import Derived.SevenTiedAt
import Derived.Stop.Joined
import Derived.Test.YtkihlgfcjhbgmaaGreatDoorVAAJ
set_option maxHeartbeats 8000000
namespace Go.Proofs.YtkihlgfcjhbgmaaGreatDoor
open Go
namespace baseKnown
set_option maxRecDepth 100000
theorem un : Tryz.prog.unfollowed 3 = true := by unfold Program.unfollowed; rw [Go.Ev.closure_fast]; kernel_rfl
theorem jf9 : (((Rows.baseKnownRow).inPlace == Tryz.prog.inPlace 3)) = true := by unfold Program.inPlace; rw [Go.Ev.closure_fast]; kernel_rfl
theorem jf10 : (((Rows.baseKnownRow).unfollowed == Tryz.prog.unfollowed 3)) = true := by unfold Program.unfollowed; rw [Go.Ev.closure_fast]; kernel_rfl
theorem jf11 : (((Rows.baseKnownRow).recurses == Tryz.prog.recurses 3)) = true := by rw [Go.Ev.recurses_un un]; kernel_rfl
theorem jf12 : (((Rows.baseKnownRow).named == Tryz.prog.varsNamed 3)) = true := by unfold Program.varsNamed; rw [Go.Ev.closure_fast]; kernel_rfl
end baseKnown
end Go.Proofs.YtkihlgfcjhbgmaaGreatDoor
