import Derived.Test.YtbmfjlecnponaaaGreatDoorVAAJ
set_option maxHeartbeats 8000000
set_option linter.unusedSimpArgs false
set_option linter.unusedVariables false
open Go Go.Proofs Go.RowKit
namespace HS
open Go.Ev
set_option maxRecDepth 1000000
namespace Fs
theorem c61 : chk t60 159 F61 = true := by kernel_rfl
theorem c62 : chk t61 159 F62 = true := by kernel_rfl
theorem c63 : chk t62 159 F63 = true := by kernel_rfl
theorem c64 : chk t63 174 F64 = true := by kernel_rfl
theorem c65 : chk t64 250 F65 = true := by kernel_rfl
theorem c66 : chk t65 174 F66 = true := by kernel_rfl
theorem c67 : chk t66 250 F67 = true := by kernel_rfl
theorem c68 : chk t67 174 F68 = true := by kernel_rfl
theorem c69 : chk t68 250 F69 = true := by kernel_rfl
end Fs
end HS
