import Derived.Test.YtkihlgfcjhbgmaaGreatDoorVCAH
import Derived.Test.YtkihlgfcjhbgmaaGreatDoorVAAF
set_option maxHeartbeats 8000000
set_option linter.unusedSimpArgs false
set_option linter.unusedVariables false
open Go Go.Ev Go.Proofs Go.RowKit
namespace HS
set_option maxRecDepth 1000000
noncomputable def lookZ : Lk := lkt Fs.t68
theorem zor : LOk lookZ Tryz.prog := zre1 Fs.t68
theorem zkn (B : Nat) : ExtOk lookZ Tryz.prog B := zoj Fs.s68.2 B
noncomputable def glbZ : List ABlk := [.glob 0 (.ifc 736 (.ptr 5 0)), .glob 1 (.ifc 736 (.ptr 6 0)), .defd, .defd, .defd, .defd, .defd]
end HS
