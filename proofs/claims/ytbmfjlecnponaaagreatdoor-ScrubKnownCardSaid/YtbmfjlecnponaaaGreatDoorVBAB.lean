import Derived.Test.YtbmfjlecnponaaaGreatDoorVAAJ
set_option maxHeartbeats 8000000
set_option linter.unusedSimpArgs false
set_option linter.unusedVariables false
open Go Go.Proofs Go.RowKit
namespace HS
open Go.Ev
set_option maxRecDepth 1000000
namespace Fs
theorem c153 : chk t152 168 F153 = true := by kernel_rfl
theorem c154 : chk t153 96 F154 = true := by kernel_rfl
theorem c155 : chk t154 224 F155 = true := by kernel_rfl
theorem c156 : chk t155 18 F156 = true := by kernel_rfl
theorem c157 : chk t156 175 F157 = true := by kernel_rfl
theorem c158 : chk t157 159 F158 = true := by kernel_rfl
theorem c159 : chk t158 159 F159 = true := by kernel_rfl
theorem c160 : chk t159 159 F160 = true := by kernel_rfl
theorem c161 : chk t160 174 F161 = true := by kernel_rfl
theorem c162 : chk t161 250 F162 = true := by kernel_rfl
end Fs
end HS
