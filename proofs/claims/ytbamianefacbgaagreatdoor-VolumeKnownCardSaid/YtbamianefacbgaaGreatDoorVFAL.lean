import Derived.Test.YtbamianefacbgaaGreatDoorVCAB
set_option maxHeartbeats 8000000
set_option linter.unusedSimpArgs false
set_option linter.unusedVariables false
open Go Go.Proofs Go.RowKit
namespace HS
open Go.Ev
set_option maxRecDepth 1000000
namespace Fv
theorem c226 : chk t225 179 F226 = true := by kernel_rfl
theorem c227 : chk t226 191 F227 = true := by kernel_rfl
theorem c228 : chk t227 179 F228 = true := by kernel_rfl
theorem c229 : chk t228 191 F229 = true := by kernel_rfl
theorem c230 : chk t229 179 F230 = true := by kernel_rfl
theorem c231 : chk t230 179 F231 = true := by kernel_rfl
theorem c232 : chk t231 179 F232 = true := by kernel_rfl
theorem c233 : chk t232 134 F233 = true := by kernel_rfl
theorem c234 : chk t233 223 F234 = true := by kernel_rfl
theorem c235 : chk t234 136 F235 = true := by kernel_rfl
theorem c236 : chk t235 21 F236 = true := by kernel_rfl
end Fv
end HS
