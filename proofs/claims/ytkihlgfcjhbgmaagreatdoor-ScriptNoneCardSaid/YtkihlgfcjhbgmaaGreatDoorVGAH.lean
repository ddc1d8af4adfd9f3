import Derived.Test.YtkihlgfcjhbgmaaGreatDoorRows
import Derived.Test.YtkihlgfcjhbgmaaGreatDoorCards
import Derived.JoinedOf
import Derived.KernelRfl
import Derived.ProofKit
import Derived.SevenTiedAt
import Derived.Stop.Joined
import Derived.Test.YtkihlgfcjhbgmaaGreatDoorVAAJ
set_option maxHeartbeats 8000000
namespace Go.Proofs.YtkihlgfcjhbgmaaGreatDoor
open Go
namespace scriptNone
set_option maxRecDepth 100000
theorem un : Tryz.prog.unfollowed 6 = true := by unfold Program.unfollowed; rw [Go.Ev.closure_fast]; kernel_rfl
theorem jf9 : (((Rows.scriptNoneRow).inPlace == Tryz.prog.inPlace 6)) = true := by unfold Program.inPlace; rw [Go.Ev.closure_fast]; kernel_rfl
theorem jf10 : (((Rows.scriptNoneRow).unfollowed == Tryz.prog.unfollowed 6)) = true := by unfold Program.unfollowed; rw [Go.Ev.closure_fast]; kernel_rfl
theorem jf11 : (((Rows.scriptNoneRow).recurses == Tryz.prog.recurses 6)) = true := by rw [Go.Ev.recurses_un un]; kernel_rfl
theorem jf12 : (((Rows.scriptNoneRow).named == Tryz.prog.varsNamed 6)) = true := by unfold Program.varsNamed; rw [Go.Ev.closure_fast]; kernel_rfl
end scriptNone
end Go.Proofs.YtkihlgfcjhbgmaaGreatDoor
