import Derived.Test.YtkgcignjblgifaaGreatDoorVAI
set_option linter.unusedSimpArgs false
set_option linter.unusedVariables false
open Go Go.Proofs Go.RowKit
namespace HS
open Go.Ev
set_option maxRecDepth 1000000
theorem FpF11_ok : FpF11.ok = true := by kernel_rfl
theorem FpF11_run : FpF11.res (evF (lk Fpt10) 1000000 (.call 308 FpF11.args (hA FpF11.pre))) = true := by kernel_rfl
theorem FpF12_ok : FpF12.ok = true := by kernel_rfl
theorem FpF12_run : FpF12.res (evF (lk Fpt11) 1000000 (.call 248 FpF12.args (hA FpF12.pre))) = true := by kernel_rfl
theorem FpF13_ok : FpF13.ok = true := by kernel_rfl
theorem FpF13_run : FpF13.res (evF (lk Fpt12) 1000000 (.call 262 FpF13.args (hA FpF13.pre))) = true := by kernel_rfl
theorem FpF14_ok : FpF14.ok = true := by kernel_rfl
theorem FpF14_run : FpF14.res (evF (lk Fpt13) 1000000 (.call 169 FpF14.args (hA FpF14.pre))) = true := by kernel_rfl
end HS
