import Derived.Test.YtbmfjlecnponaaaGreatDoorVAAJ
set_option maxHeartbeats 8000000
set_option linter.unusedSimpArgs false
set_option linter.unusedVariables false
open Go Go.Proofs Go.RowKit
namespace HS
open Go.Ev
set_option maxRecDepth 1000000
namespace Fs
theorem c70 : chk t69 174 F70 = true := by kernel_rfl
theorem c71 : chk t70 174 F71 = true := by kernel_rfl
theorem c72 : chk t71 174 F72 = true := by kernel_rfl
theorem c73 : chk t72 94 F73 = true := by kernel_rfl
theorem c74 : chk t73 168 F74 = true := by kernel_rfl
theorem c75 : chk t74 96 F75 = true := by kernel_rfl
theorem c76 : chk t75 275 F76 = true := by kernel_rfl
theorem c77 : chk t76 275 F77 = true := by kernel_rfl
theorem c78 : chk t77 75 F78 = true := by kernel_rfl
theorem c79 : chk t78 18 F79 = true := by kernel_rfl
theorem c80 : chk t79 174 F80 = true := by kernel_rfl
theorem c81 : chk t80 174 F81 = true := by kernel_rfl
theorem c82 : chk t81 174 F82 = true := by kernel_rfl
end Fs
end HS
