import Derived.Test.YtbamianefacbgaaGreatDoorVBAB
set_option maxHeartbeats 8000000
set_option linter.unusedSimpArgs false
set_option linter.unusedVariables false
open Go Go.Proofs Go.RowKit
namespace HS
open Go.Ev
set_option maxRecDepth 1000000
namespace Fr
theorem c164 : chk t163 185 F164 = true := by kernel_rfl
theorem c165 : chk t164 185 F165 = true := by kernel_rfl
theorem c166 : chk t165 275 F166 = true := by kernel_rfl
theorem c167 : chk t166 185 F167 = true := by kernel_rfl
theorem c168 : chk t167 185 F168 = true := by kernel_rfl
theorem c169 : chk t168 214 F169 = true := by kernel_rfl
theorem c170 : chk t169 179 F170 = true := by kernel_rfl
theorem c171 : chk t170 191 F171 = true := by kernel_rfl
theorem c172 : chk t171 179 F172 = true := by kernel_rfl
theorem c173 : chk t172 191 F173 = true := by kernel_rfl
theorem c174 : chk t173 179 F174 = true := by kernel_rfl
end Fr
end HS
