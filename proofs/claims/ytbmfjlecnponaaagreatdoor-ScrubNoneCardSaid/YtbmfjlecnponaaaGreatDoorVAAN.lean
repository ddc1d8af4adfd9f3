import Derived.Test.YtbmfjlecnponaaaGreatDoorVAAJ
set_option maxHeartbeats 8000000
set_option linter.unusedSimpArgs false
set_option linter.unusedVariables false
open Go Go.Proofs Go.RowKit
namespace HS
open Go.Ev
set_option maxRecDepth 1000000
namespace Fs
theorem c30 : chk t29 174 F30 = true := by kernel_rfl
theorem c31 : chk t30 250 F31 = true := by kernel_rfl
theorem c32 : chk t31 168 F32 = true := by kernel_rfl
theorem c33 : chk t32 96 F33 = true := by kernel_rfl
theorem c34 : chk t33 48 F34 = true := by kernel_rfl
theorem c35 : chk t34 275 F35 = true := by kernel_rfl
theorem c36 : chk t35 275 F36 = true := by kernel_rfl
theorem c37 : chk t36 50 F37 = true := by kernel_rfl
theorem c38 : chk t37 53 F38 = true := by kernel_rfl
theorem c39 : chk t38 175 F39 = true := by kernel_rfl
end Fs
end HS
