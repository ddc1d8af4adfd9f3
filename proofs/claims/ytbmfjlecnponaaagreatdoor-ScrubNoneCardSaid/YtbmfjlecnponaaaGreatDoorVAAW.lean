import Derived.Test.YtbmfjlecnponaaaGreatDoorVAAJ
set_option maxHeartbeats 8000000
set_option linter.unusedSimpArgs false
set_option linter.unusedVariables false
open Go Go.Proofs Go.RowKit
namespace HS
open Go.Ev
set_option maxRecDepth 1000000
namespace Fs
theorem c120 : chk t119 175 F120 = true := by kernel_rfl
theorem c121 : chk t120 159 F121 = true := by kernel_rfl
theorem c122 : chk t121 159 F122 = true := by kernel_rfl
theorem c123 : chk t122 159 F123 = true := by kernel_rfl
theorem c124 : chk t123 174 F124 = true := by kernel_rfl
theorem c125 : chk t124 250 F125 = true := by kernel_rfl
theorem c126 : chk t125 174 F126 = true := by kernel_rfl
theorem c127 : chk t126 250 F127 = true := by kernel_rfl
theorem c128 : chk t127 174 F128 = true := by kernel_rfl
end Fs
end HS
