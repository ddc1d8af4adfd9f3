import Derived.Test.YtkgcignjblgifaaGreatDoorVAI
set_option linter.unusedSimpArgs false
set_option linter.unusedVariables false
open Go Go.Proofs Go.RowKit
namespace HS
open Go.Ev
set_option maxRecDepth 1000000
theorem FpF7_ok : FpF7.ok = true := by kernel_rfl
theorem FpF7_run : FpF7.res (evF (lk Fpt6) 1000000 (.call 308 FpF7.args (hA FpF7.pre))) = true := by kernel_rfl
theorem FpF8_ok : FpF8.ok = true := by kernel_rfl
theorem FpF8_run : FpF8.res (evF (lk Fpt7) 1000000 (.call 231 FpF8.args (hA FpF8.pre))) = true := by kernel_rfl
theorem FpF9_ok : FpF9.ok = true := by kernel_rfl
theorem FpF9_run : FpF9.res (evF (lk Fpt8) 1000000 (.call 308 FpF9.args (hA FpF9.pre))) = true := by kernel_rfl
theorem FpF10_ok : FpF10.ok = true := by kernel_rfl
theorem FpF10_run : FpF10.res (evF (lk Fpt9) 1000000 (.call 231 FpF10.args (hA FpF10.pre))) = true := by kernel_rfl
end HS
