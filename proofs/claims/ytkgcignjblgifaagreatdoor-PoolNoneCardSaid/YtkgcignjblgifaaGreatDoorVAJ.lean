import Derived.Test.YtkgcignjblgifaaGreatDoorVAI
set_option linter.unusedSimpArgs false
set_option linter.unusedVariables false
open Go Go.Proofs Go.RowKit
namespace HS
open Go.Ev
set_option maxRecDepth 1000000
theorem FpF1_ok : FpF1.ok = true := by kernel_rfl
theorem FpF1_run : FpF1.res (evF (lk tab0) 1000000 (.call 31 FpF1.args (hA FpF1.pre))) = true := by kernel_rfl
theorem FpF2_ok : FpF2.ok = true := by kernel_rfl
theorem FpF2_run : FpF2.res (evF (lk Fpt1) 1000000 (.call 317 FpF2.args (hA FpF2.pre))) = true := by kernel_rfl
theorem FpF3_ok : FpF3.ok = true := by kernel_rfl
theorem FpF3_run : FpF3.res (evF (lk Fpt2) 1000000 (.call 162 FpF3.args (hA FpF3.pre))) = true := by kernel_rfl
end HS
