import Derived.Test.YtbmfjlecnponaaaGreatDoorVAAJ
set_option maxHeartbeats 8000000
set_option linter.unusedSimpArgs false
set_option linter.unusedVariables false
open Go Go.Proofs Go.RowKit
namespace HS
open Go.Ev
set_option maxRecDepth 1000000
namespace Fs
theorem c40 : chk t39 51 F40 = true := by kernel_rfl
theorem c41 : chk t40 174 F41 = true := by kernel_rfl
theorem c42 : chk t41 250 F42 = true := by kernel_rfl
theorem c43 : chk t42 174 F43 = true := by kernel_rfl
theorem c44 : chk t43 250 F44 = true := by kernel_rfl
theorem c45 : chk t44 174 F45 = true := by kernel_rfl
end Fs
end HS
