import Derived.Test.YtbmfjlecnponaaaGreatDoorVAAJ
set_option maxHeartbeats 8000000
set_option linter.unusedSimpArgs false
set_option linter.unusedVariables false
open Go Go.Proofs Go.RowKit
namespace HS
open Go.Ev
set_option maxRecDepth 1000000
namespace Fs
theorem c83 : chk t82 174 F83 = true := by kernel_rfl
theorem c84 : chk t83 174 F84 = true := by kernel_rfl
theorem c85 : chk t84 174 F85 = true := by kernel_rfl
theorem c86 : chk t85 94 F86 = true := by kernel_rfl
theorem c87 : chk t86 6 F87 = true := by kernel_rfl
theorem c88 : chk t87 65 F88 = true := by kernel_rfl
theorem c89 : chk t88 65 F89 = true := by kernel_rfl
theorem c90 : chk t89 65 F90 = true := by kernel_rfl
theorem c91 : chk t90 175 F91 = true := by kernel_rfl
theorem c92 : chk t91 159 F92 = true := by kernel_rfl
theorem c93 : chk t92 159 F93 = true := by kernel_rfl
theorem c94 : chk t93 159 F94 = true := by kernel_rfl
theorem c95 : chk t94 174 F95 = true := by kernel_rfl
end Fs
end HS
