import Derived.Test.YtkgcignjblgifaaGreatDoorWkAA
set_option maxHeartbeats 8000000
set_option linter.unusedSimpArgs false
set_option linter.unusedVariables false
open Go Go.Proofs Go.RowKit
namespace HS
open Go.Ev
set_option maxRecDepth 1000000
theorem FkF31_ok : FkF31.ok = true := by kernel_rfl
theorem FkF31_run : FkF31.res (evF (lk Fkt30) 1000000 (.call 130 FkF31.args (hA FkF31.pre))) = true := by kernel_rfl
theorem FkF32_ok : FkF32.ok = true := by kernel_rfl
theorem FkF32_run : FkF32.res (evF (lk Fkt31) 1000000 (.call 308 FkF32.args (hA FkF32.pre))) = true := by kernel_rfl
theorem FkF33_ok : FkF33.ok = true := by kernel_rfl
theorem FkF33_run : FkF33.res (evF (lk Fkt32) 1000000 (.call 130 FkF33.args (hA FkF33.pre))) = true := by kernel_rfl
theorem FkF34_ok : FkF34.ok = true := by kernel_rfl
theorem FkF34_run : FkF34.res (evF (lk Fkt33) 1000000 (.call 308 FkF34.args (hA FkF34.pre))) = true := by kernel_rfl
theorem FkF35_ok : FkF35.ok = true := by kernel_rfl
theorem FkF35_run : FkF35.res (evF (lk Fkt34) 1000000 (.call 169 FkF35.args (hA FkF35.pre))) = true := by kernel_rfl
theorem FkF36_ok : FkF36.ok = true := by kernel_rfl
theorem FkF36_run : FkF36.res (evF (lk Fkt35) 1000000 (.call 96 FkF36.args (hA FkF36.pre))) = true := by kernel_rfl
theorem FkF37_ok : FkF37.ok = true := by kernel_rfl
theorem FkF37_run : FkF37.res (evF (lk Fkt36) 1000000 (.call 43 FkF37.args (hA FkF37.pre))) = true := by kernel_rfl
end HS
