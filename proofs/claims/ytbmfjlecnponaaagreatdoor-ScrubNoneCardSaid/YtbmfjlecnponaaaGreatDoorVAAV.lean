import Derived.Test.YtbmfjlecnponaaaGreatDoorVAAJ
set_option maxHeartbeats 8000000
set_option linter.unusedSimpArgs false
set_option linter.unusedVariables false
open Go Go.Proofs Go.RowKit
namespace HS
open Go.Ev
set_option maxRecDepth 1000000
namespace Fs
theorem c107 : chk t106 275 F107 = true := by kernel_rfl
theorem c108 : chk t107 275 F108 = true := by kernel_rfl
theorem c109 : chk t108 75 F109 = true := by kernel_rfl
theorem c110 : chk t109 18 F110 = true := by kernel_rfl
theorem c111 : chk t110 7 F111 = true := by kernel_rfl
theorem c112 : chk t111 174 F112 = true := by kernel_rfl
theorem c113 : chk t112 174 F113 = true := by kernel_rfl
theorem c114 : chk t113 174 F114 = true := by kernel_rfl
theorem c115 : chk t114 174 F115 = true := by kernel_rfl
theorem c116 : chk t115 174 F116 = true := by kernel_rfl
theorem c117 : chk t116 174 F117 = true := by kernel_rfl
theorem c118 : chk t117 94 F118 = true := by kernel_rfl
theorem c119 : chk t118 65 F119 = true := by kernel_rfl
end Fs
end HS
