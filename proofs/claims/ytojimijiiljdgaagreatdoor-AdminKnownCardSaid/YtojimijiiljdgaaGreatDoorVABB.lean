import Derived.Test.YtojimijiiljdgaaGreatDoorVAAJ
set_option maxHeartbeats 8000000
set_option linter.unusedSimpArgs false
set_option linter.unusedVariables false
open Go Go.Proofs Go.RowKit
namespace HS
open Go.Ev
set_option maxRecDepth 1000000
namespace Fa
theorem c177 : chk t176 207 F177 = true := by kernel_rfl
theorem c178 : chk t177 226 F178 = true := by kernel_rfl
theorem c179 : chk t178 172 F179 = true := by kernel_rfl
theorem c180 : chk t179 158 F180 = true := by kernel_rfl
theorem c181 : chk t180 93 F181 = true := by kernel_rfl
theorem c182 : chk t181 31 F182 = true := by kernel_rfl
theorem c183 : chk t182 204 F183 = true := by kernel_rfl
theorem c184 : chk t183 169 F184 = true := by kernel_rfl
theorem c185 : chk t184 169 F185 = true := by kernel_rfl
theorem c186 : chk t185 333 F186 = true := by kernel_rfl
theorem c187 : chk t186 169 F187 = true := by kernel_rfl
theorem c188 : chk t187 169 F188 = true := by kernel_rfl
theorem c189 : chk t188 259 F189 = true := by kernel_rfl
theorem c190 : chk t189 161 F190 = true := by kernel_rfl
end Fa
end HS
