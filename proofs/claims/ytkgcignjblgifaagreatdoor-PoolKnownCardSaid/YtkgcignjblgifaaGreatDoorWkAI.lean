import Derived.Test.YtkgcignjblgifaaGreatDoorWkAA
set_option maxHeartbeats 8000000
set_option linter.unusedSimpArgs false
set_option linter.unusedVariables false
open Go Go.Proofs Go.RowKit
namespace HS
open Go.Ev
set_option maxRecDepth 1000000
theorem FkF38_ok : FkF38.ok = true := by kernel_rfl
theorem FkF38_run : FkF38.res (evF (lk Fkt37) 1000000 (.call 211 FkF38.args (hA FkF38.pre))) = true := by kernel_rfl
theorem FkF39_ok : FkF39.ok = true := by kernel_rfl
theorem FkF39_run : FkF39.res (evF (lk Fkt38) 1000000 (.call 39 FkF39.args (hA FkF39.pre))) = true := by kernel_rfl
theorem FkF40_ok : FkF40.ok = true := by kernel_rfl
theorem FkF40_run : FkF40.res (evF (lk Fkt39) 1000000 (.call 130 FkF40.args (hA FkF40.pre))) = true := by kernel_rfl
theorem FkF41_ok : FkF41.ok = true := by kernel_rfl
theorem FkF41_run : FkF41.res (evF (lk Fkt40) 1000000 (.call 130 FkF41.args (hA FkF41.pre))) = true := by kernel_rfl
theorem FkF42_ok : FkF42.ok = true := by kernel_rfl
theorem FkF42_run : FkF42.res (evF (lk Fkt41) 1000000 (.call 130 FkF42.args (hA FkF42.pre))) = true := by kernel_rfl
theorem FkF43_ok : FkF43.ok = true := by kernel_rfl
theorem FkF43_run : FkF43.res (evF (lk Fkt42) 1000000 (.call 128 FkF43.args (hA FkF43.pre))) = true := by kernel_rfl
theorem FkF44_ok : FkF44.ok = true := by kernel_rfl
theorem FkF44_run : FkF44.res (evF (lk Fkt43) 1000000 (.call 130 FkF44.args (hA FkF44.pre))) = true := by kernel_rfl
theorem FkF45_ok : FkF45.ok = true := by kernel_rfl
theorem FkF45_run : FkF45.res (evF (lk Fkt44) 1000000 (.call 130 FkF45.args (hA FkF45.pre))) = true := by kernel_rfl
end HS
