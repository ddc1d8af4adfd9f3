import Derived.Test.YtbmfjlecnponaaaGreatDoorVAAJ
set_option maxHeartbeats 8000000
set_option linter.unusedSimpArgs false
set_option linter.unusedVariables false
open Go Go.Proofs Go.RowKit
namespace HS
open Go.Ev
set_option maxRecDepth 1000000
namespace Fs
theorem c129 : chk t128 250 F129 = true := by kernel_rfl
theorem c130 : chk t129 174 F130 = true := by kernel_rfl
theorem c131 : chk t130 174 F131 = true := by kernel_rfl
theorem c132 : chk t131 174 F132 = true := by kernel_rfl
theorem c133 : chk t132 94 F133 = true := by kernel_rfl
theorem c134 : chk t133 168 F134 = true := by kernel_rfl
theorem c135 : chk t134 96 F135 = true := by kernel_rfl
theorem c136 : chk t135 50 F136 = true := by kernel_rfl
theorem c137 : chk t136 18 F137 = true := by kernel_rfl
theorem c138 : chk t137 7 F138 = true := by kernel_rfl
theorem c139 : chk t138 5 F139 = true := by kernel_rfl
theorem c140 : saysT (evF (lkt t139) 1000000 (.call 5 [] H0)) = true := by kernel_rfl
end Fs
end HS
