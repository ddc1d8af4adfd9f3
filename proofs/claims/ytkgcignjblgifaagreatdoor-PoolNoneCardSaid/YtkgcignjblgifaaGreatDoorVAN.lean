import Derived.Test.YtkgcignjblgifaaGreatDoorVAI
set_option linter.unusedSimpArgs false
set_option linter.unusedVariables false
open Go Go.Proofs Go.RowKit
namespace HS
open Go.Ev
set_option maxRecDepth 1000000
theorem FpF15_ok : FpF15.ok = true := by kernel_rfl
theorem FpF15_run : FpF15.res (evF (lk Fpt14) 1000000 (.call 96 FpF15.args (hA FpF15.pre))) = true := by kernel_rfl
theorem FpF16_ok : FpF16.ok = true := by kernel_rfl
theorem FpF16_run : FpF16.res (evF (lk Fpt15) 1000000 (.call 16 FpF16.args (hA FpF16.pre))) = true := by kernel_rfl
theorem FpF17_ok : FpF17.ok = true := by kernel_rfl
theorem FpF17_run : FpF17.res (evF (lk Fpt16) 1000000 (.call 130 FpF17.args (hA FpF17.pre))) = true := by kernel_rfl
end HS
