import Derived.Test.YtkgcignjblgifaaGreatDoorWkAA
set_option maxHeartbeats 8000000
set_option linter.unusedSimpArgs false
set_option linter.unusedVariables false
open Go Go.Proofs Go.RowKit
namespace HS
open Go.Ev
set_option maxRecDepth 1000000
theorem FkF9_ok : FkF9.ok = true := by kernel_rfl
theorem FkF9_run : FkF9.res (evF (lk Fkt8) 1000000 (.call 162 FkF9.args (hA FkF9.pre))) = true := by kernel_rfl
theorem FkF10_ok : FkF10.ok = true := by kernel_rfl
theorem FkF10_run : FkF10.res (evF (lk Fkt9) 1000000 (.call 130 FkF10.args (hA FkF10.pre))) = true := by kernel_rfl
theorem FkF11_ok : FkF11.ok = true := by kernel_rfl
theorem FkF11_run : FkF11.res (evF (lk Fkt10) 1000000 (.call 308 FkF11.args (hA FkF11.pre))) = true := by kernel_rfl
theorem FkF12_ok : FkF12.ok = true := by kernel_rfl
theorem FkF12_run : FkF12.res (evF (lk Fkt11) 1000000 (.call 130 FkF12.args (hA FkF12.pre))) = true := by kernel_rfl
theorem FkF13_ok : FkF13.ok = true := by kernel_rfl
theorem FkF13_run : FkF13.res (evF (lk Fkt12) 1000000 (.call 308 FkF13.args (hA FkF13.pre))) = true := by kernel_rfl
theorem FkF14_ok : FkF14.ok = true := by kernel_rfl
theorem FkF14_run : FkF14.res (evF (lk Fkt13) 1000000 (.call 130 FkF14.args (hA FkF14.pre))) = true := by kernel_rfl
end HS
