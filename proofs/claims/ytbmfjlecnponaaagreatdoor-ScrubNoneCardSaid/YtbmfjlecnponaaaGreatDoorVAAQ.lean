import Derived.Test.YtbmfjlecnponaaaGreatDoorVAAJ
set_option maxHeartbeats 8000000
set_option linter.unusedSimpArgs false
set_option linter.unusedVariables false
open Go Go.Proofs Go.RowKit
namespace HS
open Go.Ev
set_option maxRecDepth 1000000
namespace Fs
theorem c55 : chk t54 96 F55 = true := by kernel_rfl
theorem c56 : chk t55 275 F56 = true := by kernel_rfl
theorem c57 : chk t56 275 F57 = true := by kernel_rfl
theorem c58 : chk t57 75 F58 = true := by kernel_rfl
theorem c59 : chk t58 21 F59 = true := by kernel_rfl
theorem c60 : chk t59 175 F60 = true := by kernel_rfl
end Fs
end HS
