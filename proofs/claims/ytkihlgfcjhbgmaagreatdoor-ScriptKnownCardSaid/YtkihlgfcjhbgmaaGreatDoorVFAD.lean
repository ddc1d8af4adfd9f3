import Derived.Test.YtkihlgfcjhbgmaaGreatDoorRows
import Derived.Test.YtkihlgfcjhbgmaaGreatDoorCards
import Derived.JoinedOf
import Derived.KernelRfl
import Derived.ProofKit
import Derived.SevenTiedAt
import Derived.Stop.Joined
import Derived.Test.YtkihlgfcjhbgmaaGreatDoorVAAJ
set_option maxHeartbeats 8000000
namespace Go.Proofs.YtkihlgfcjhbgmaaGreatDoor
open Go
namespace scriptKnown
set_option maxRecDepth 100000
theorem un : Tryz.prog.unfollowed 5 = true := by unfold Program.unfollowed; rw [Go.Ev.closure_fast]; kernel_rfl
theorem jf9 : (((Rows.scriptKnownRow).inPlace == Tryz.prog.inPlace 5)) = true := by unfold Program.inPlace; rw [Go.Ev.closure_fast]; kernel_rfl
theorem jf10 : (((Rows.scriptKnownRow).unfollowed == Tryz.prog.unfollowed 5)) = true := by unfold Program.unfollowed; rw [Go.Ev.closure_fast]; kernel_rfl
theorem jf11 : (((Rows.scriptKnownRow).recurses == Tryz.prog.recurses 5)) = true := by rw [Go.Ev.recurses_un un]; kernel_rfl
theorem jf12 : (((Rows.scriptKnownRow).named == Tryz.prog.varsNamed 5)) = true := by unfold Program.varsNamed; rw [Go.Ev.closure_fast]; kernel_rfl
end scriptKnown
end Go.Proofs.YtkihlgfcjhbgmaaGreatDoor
