import Derived.Test.YtkihlgfcjhbgmaaGreatDoorVCAA
set_option maxHeartbeats 8000000
set_option linter.unusedSimpArgs false
set_option linter.unusedVariables false
open Go Go.Proofs Go.RowKit
namespace HS
open Go.Ev
set_option maxRecDepth 1000000
namespace Fs
theorem c62 : chk t61 425 F62 = true := by kernel_rfl
theorem c63 : chk t62 425 F63 = true := by kernel_rfl
theorem c64 : chk t63 425 F64 = true := by kernel_rfl
theorem c65 : chk t64 527 F65 = true := by kernel_rfl
theorem c66 : chk t65 45 F66 = true := by kernel_rfl
theorem c67 : chk t66 46 F67 = true := by kernel_rfl
theorem c68 : chk t67 46 F68 = true := by kernel_rfl
end Fs
end HS
