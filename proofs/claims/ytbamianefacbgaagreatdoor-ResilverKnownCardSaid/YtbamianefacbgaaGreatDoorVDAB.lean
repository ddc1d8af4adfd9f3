import Derived.Test.YtbamianefacbgaaGreatDoorVBAB
set_option maxHeartbeats 8000000
set_option linter.unusedSimpArgs false
set_option linter.unusedVariables false
open Go Go.Proofs Go.RowKit
namespace HS
open Go.Ev
set_option maxRecDepth 1000000
namespace Fr
theorem c175 : chk t174 191 F175 = true := by kernel_rfl
theorem c176 : chk t175 237 F176 = true := by kernel_rfl
theorem c177 : chk t176 237 F177 = true := by kernel_rfl
theorem c178 : chk t177 237 F178 = true := by kernel_rfl
theorem c179 : chk t178 349 F179 = true := by kernel_rfl
theorem c180 : chk t179 349 F180 = true := by kernel_rfl
theorem c181 : chk t180 349 F181 = true := by kernel_rfl
theorem c182 : chk t181 223 F182 = true := by kernel_rfl
theorem c183 : chk t182 136 F183 = true := by kernel_rfl
theorem c184 : chk t183 63 F184 = true := by kernel_rfl
theorem c185 : chk t184 65 F185 = true := by kernel_rfl
theorem c186 : chk t185 6 F186 = true := by kernel_rfl
theorem c187 : saysT (evF (lkt t186) 1000000 (.call 6 [] H0)) = true := by kernel_rfl
end Fr
end HS
