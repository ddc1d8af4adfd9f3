import Derived.Test.YtkgcignjblgifaaGreatDoorWkAA
set_option maxHeartbeats 8000000
set_option linter.unusedSimpArgs false
set_option linter.unusedVariables false
open Go Go.Proofs Go.RowKit
namespace HS
open Go.Ev
set_option maxRecDepth 1000000
theorem FkF1_ok : FkF1.ok = true := by kernel_rfl
theorem FkF1_run : FkF1.res (evF (lk tab0) 1000000 (.call 62 FkF1.args (hA FkF1.pre))) = true := by kernel_rfl
theorem FkF2_ok : FkF2.ok = true := by kernel_rfl
theorem FkF2_run : FkF2.res (evF (lk Fkt1) 1000000 (.call 62 FkF2.args (hA FkF2.pre))) = true := by kernel_rfl
theorem FkF3_ok : FkF3.ok = true := by kernel_rfl
theorem FkF3_run : FkF3.res (evF (lk Fkt2) 1000000 (.call 211 FkF3.args (hA FkF3.pre))) = true := by kernel_rfl
theorem FkF4_ok : FkF4.ok = true := by kernel_rfl
theorem FkF4_run : FkF4.res (evF (lk Fkt3) 1000000 (.call 120 FkF4.args (hA FkF4.pre))) = true := by kernel_rfl
theorem FkF5_ok : FkF5.ok = true := by kernel_rfl
theorem FkF5_run : FkF5.res (evF (lk Fkt4) 1000000 (.call 120 FkF5.args (hA FkF5.pre))) = true := by kernel_rfl
theorem FkF6_ok : FkF6.ok = true := by kernel_rfl
theorem FkF6_run : FkF6.res (evF (lk Fkt5) 1000000 (.call 317 FkF6.args (hA FkF6.pre))) = true := by kernel_rfl
theorem FkF7_ok : FkF7.ok = true := by kernel_rfl
theorem FkF7_run : FkF7.res (evF (lk Fkt6) 1000000 (.call 162 FkF7.args (hA FkF7.pre))) = true := by kernel_rfl
theorem FkF8_ok : FkF8.ok = true := by kernel_rfl
theorem FkF8_run : FkF8.res (evF (lk Fkt7) 1000000 (.call 162 FkF8.args (hA FkF8.pre))) = true := by kernel_rfl
end HS
