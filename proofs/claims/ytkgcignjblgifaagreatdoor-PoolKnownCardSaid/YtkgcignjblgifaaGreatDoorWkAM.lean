import Derived.Test.YtkgcignjblgifaaGreatDoorWkAL
import Derived.Test.YtkgcignjblgifaaGreatDoorVAF
set_option maxHeartbeats 8000000
set_option linter.unusedSimpArgs false
set_option linter.unusedVariables false
open Go Go.Ev Go.Proofs Go.RowKit
namespace HS
set_option maxRecDepth 1000000
noncomputable def lookZ : Lk := lk Fkt57
theorem lookZ_ok : LOk lookZ Tryz.prog := lk_ok Fkt57
theorem lookZ_ext (B : Nat) : ExtOk lookZ Tryz.prog B := extOkD_of (Fkt57_ok B)
noncomputable def glbZ : List ABlk := [.glob 0 (.ifc 508 (.ptr 2 0)), .glob 1 (.ifc 508 (.ptr 3 0)), .defd, .defd]
end HS
