import Derived.Test.YtbamianefacbgaaGreatDoorVCAB
set_option maxHeartbeats 8000000
set_option linter.unusedSimpArgs false
set_option linter.unusedVariables false
open Go Go.Proofs Go.RowKit
namespace HS
open Go.Ev
set_option maxRecDepth 1000000
namespace Fv
theorem c178 : chk t177 179 F178 = true := by kernel_rfl
theorem c179 : chk t178 191 F179 = true := by kernel_rfl
theorem c180 : chk t179 179 F180 = true := by kernel_rfl
theorem c181 : chk t180 191 F181 = true := by kernel_rfl
theorem c182 : chk t181 179 F182 = true := by kernel_rfl
theorem c183 : chk t182 179 F183 = true := by kernel_rfl
theorem c184 : chk t183 179 F184 = true := by kernel_rfl
theorem c185 : chk t184 179 F185 = true := by kernel_rfl
theorem c186 : chk t185 179 F186 = true := by kernel_rfl
theorem c187 : chk t186 179 F187 = true := by kernel_rfl
theorem c188 : chk t187 134 F188 = true := by kernel_rfl
end Fv
end HS
