import Derived.Test.YtbmfjlecnponaaaGreatDoorVAAJ
set_option maxHeartbeats 8000000
set_option linter.unusedSimpArgs false
set_option linter.unusedVariables false
open Go Go.Proofs Go.RowKit
namespace HS
open Go.Ev
set_option maxRecDepth 1000000
namespace Fs
theorem c227 : chk t226 250 F227 = true := by kernel_rfl
theorem c228 : chk t227 174 F228 = true := by kernel_rfl
theorem c229 : chk t228 250 F229 = true := by kernel_rfl
theorem c230 : chk t229 174 F230 = true := by kernel_rfl
theorem c231 : chk t230 250 F231 = true := by kernel_rfl
theorem c232 : chk t231 168 F232 = true := by kernel_rfl
theorem c233 : chk t232 96 F233 = true := by kernel_rfl
theorem c234 : chk t233 48 F234 = true := by kernel_rfl
theorem c235 : chk t234 50 F235 = true := by kernel_rfl
theorem c236 : chk t235 7 F236 = true := by kernel_rfl
end Fs
end HS
