import Derived.Test.YtkihlgfcjhbgmaaGreatDoorRows
import Derived.Test.YtkihlgfcjhbgmaaGreatDoorCards
import Derived.JoinedOf
import Derived.KernelRfl
import Derived.ProofKit
import Derived.SevenTiedAt
import Derived.Stop.Joined
import Derived.Test.YtkihlgfcjhbgmaaGreatDoorVAAJ
set_option maxHeartbeats 8000000
namespace Go.Proofs.YtkihlgfcjhbgmaaGreatDoor
open Go
namespace baseNone
set_option maxRecDepth 100000
theorem un : Tryz.prog.unfollowed 4 = true := by unfold Program.unfollowed; rw [Go.Ev.closure_fast]; kernel_rfl
theorem jf9 : (((Rows.baseNoneRow).inPlace == Tryz.prog.inPlace 4)) = true := by unfold Program.inPlace; rw [Go.Ev.closure_fast]; kernel_rfl
theorem jf10 : (((Rows.baseNoneRow).unfollowed == Tryz.prog.unfollowed 4)) = true := by unfold Program.unfollowed; rw [Go.Ev.closure_fast]; kernel_rfl
theorem jf11 : (((Rows.baseNoneRow).recurses == Tryz.prog.recurses 4)) = true := by rw [Go.Ev.recurses_un un]; kernel_rfl
theorem jf12 : (((Rows.baseNoneRow).named == Tryz.prog.varsNamed 4)) = true := by unfold Program.varsNamed; rw [Go.Ev.closure_fast]; kernel_rfl
end baseNone
end Go.Proofs.YtkihlgfcjhbgmaaGreatDoor
