import Derived.Test.YtkgcignjblgifaaGreatDoorVAI
set_option linter.unusedSimpArgs false
set_option linter.unusedVariables false
open Go Go.Proofs Go.RowKit
namespace HS
open Go.Ev
set_option maxRecDepth 1000000
theorem FpF4_ok : FpF4.ok = true := by kernel_rfl
theorem FpF4_run : FpF4.res (evF (lk Fpt3) 1000000 (.call 162 FpF4.args (hA FpF4.pre))) = true := by kernel_rfl
theorem FpF5_ok : FpF5.ok = true := by kernel_rfl
theorem FpF5_run : FpF5.res (evF (lk Fpt4) 1000000 (.call 162 FpF5.args (hA FpF5.pre))) = true := by kernel_rfl
theorem FpF6_ok : FpF6.ok = true := by kernel_rfl
theorem FpF6_run : FpF6.res (evF (lk Fpt5) 1000000 (.call 231 FpF6.args (hA FpF6.pre))) = true := by kernel_rfl
end HS
