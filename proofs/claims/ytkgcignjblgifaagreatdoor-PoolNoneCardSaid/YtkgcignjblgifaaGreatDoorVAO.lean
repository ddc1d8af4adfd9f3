import Derived.Test.YtkgcignjblgifaaGreatDoorVAI
set_option linter.unusedSimpArgs false
set_option linter.unusedVariables false
open Go Go.Proofs Go.RowKit
namespace HS
open Go.Ev
set_option maxRecDepth 1000000
theorem FpF18_ok : FpF18.ok = true := by kernel_rfl
theorem FpF18_run : FpF18.res (evF (lk Fpt17) 1000000 (.call 130 FpF18.args (hA FpF18.pre))) = true := by kernel_rfl
theorem FpF19_ok : FpF19.ok = true := by kernel_rfl
theorem FpF19_run : FpF19.res (evF (lk Fpt18) 1000000 (.call 130 FpF19.args (hA FpF19.pre))) = true := by kernel_rfl
theorem Fprun_awake : saysT (evF (lk Fpt19) 1000000 (.call 6 [] H0)) = true := by kernel_rfl
end HS
