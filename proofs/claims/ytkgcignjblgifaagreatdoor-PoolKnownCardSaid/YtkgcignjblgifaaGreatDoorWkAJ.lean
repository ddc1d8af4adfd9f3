import Derived.Test.YtkgcignjblgifaaGreatDoorWkAA
set_option maxHeartbeats 8000000
set_option linter.unusedSimpArgs false
set_option linter.unusedVariables false
open Go Go.Proofs Go.RowKit
namespace HS
open Go.Ev
set_option maxRecDepth 1000000
theorem FkF46_ok : FkF46.ok = true := by kernel_rfl
theorem FkF46_run : FkF46.res (evF (lk Fkt45) 1000000 (.call 130 FkF46.args (hA FkF46.pre))) = true := by kernel_rfl
theorem FkF47_ok : FkF47.ok = true := by kernel_rfl
theorem FkF47_run : FkF47.res (evF (lk Fkt46) 1000000 (.call 130 FkF47.args (hA FkF47.pre))) = true := by kernel_rfl
theorem FkF48_ok : FkF48.ok = true := by kernel_rfl
theorem FkF48_run : FkF48.res (evF (lk Fkt47) 1000000 (.call 130 FkF48.args (hA FkF48.pre))) = true := by kernel_rfl
theorem FkF49_ok : FkF49.ok = true := by kernel_rfl
theorem FkF49_run : FkF49.res (evF (lk Fkt48) 1000000 (.call 35 FkF49.args (hA FkF49.pre))) = true := by kernel_rfl
theorem FkF50_ok : FkF50.ok = true := by kernel_rfl
theorem FkF50_run : FkF50.res (evF (lk Fkt49) 1000000 (.call 36 FkF50.args (hA FkF50.pre))) = true := by kernel_rfl
theorem FkF51_ok : FkF51.ok = true := by kernel_rfl
theorem FkF51_run : FkF51.res (evF (lk Fkt50) 1000000 (.call 130 FkF51.args (hA FkF51.pre))) = true := by kernel_rfl
theorem FkF52_ok : FkF52.ok = true := by kernel_rfl
theorem FkF52_run : FkF52.res (evF (lk Fkt51) 1000000 (.call 130 FkF52.args (hA FkF52.pre))) = true := by kernel_rfl
theorem FkF53_ok : FkF53.ok = true := by kernel_rfl
theorem FkF53_run : FkF53.res (evF (lk Fkt52) 1000000 (.call 130 FkF53.args (hA FkF53.pre))) = true := by kernel_rfl
theorem FkF54_ok : FkF54.ok = true := by kernel_rfl
theorem FkF54_run : FkF54.res (evF (lk Fkt53) 1000000 (.call 211 FkF54.args (hA FkF54.pre))) = true := by kernel_rfl
theorem FkF55_ok : FkF55.ok = true := by kernel_rfl
theorem FkF55_run : FkF55.res (evF (lk Fkt54) 1000000 (.call 130 FkF55.args (hA FkF55.pre))) = true := by kernel_rfl
end HS
