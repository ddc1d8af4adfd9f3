import Derived.Test.YtkgcignjblgifaaGreatDoorWkAA
set_option maxHeartbeats 8000000
set_option linter.unusedSimpArgs false
set_option linter.unusedVariables false
open Go Go.Proofs Go.RowKit
namespace HS
open Go.Ev
set_option maxRecDepth 1000000
theorem FkF25_ok : FkF25.ok = true := by kernel_rfl
theorem FkF25_run : FkF25.res (evF (lk Fkt24) 1000000 (.call 317 FkF25.args (hA FkF25.pre))) = true := by kernel_rfl
theorem FkF26_ok : FkF26.ok = true := by kernel_rfl
theorem FkF26_run : FkF26.res (evF (lk Fkt25) 1000000 (.call 162 FkF26.args (hA FkF26.pre))) = true := by kernel_rfl
theorem FkF27_ok : FkF27.ok = true := by kernel_rfl
theorem FkF27_run : FkF27.res (evF (lk Fkt26) 1000000 (.call 162 FkF27.args (hA FkF27.pre))) = true := by kernel_rfl
theorem FkF28_ok : FkF28.ok = true := by kernel_rfl
theorem FkF28_run : FkF28.res (evF (lk Fkt27) 1000000 (.call 162 FkF28.args (hA FkF28.pre))) = true := by kernel_rfl
theorem FkF29_ok : FkF29.ok = true := by kernel_rfl
theorem FkF29_run : FkF29.res (evF (lk Fkt28) 1000000 (.call 130 FkF29.args (hA FkF29.pre))) = true := by kernel_rfl
theorem FkF30_ok : FkF30.ok = true := by kernel_rfl
theorem FkF30_run : FkF30.res (evF (lk Fkt29) 1000000 (.call 308 FkF30.args (hA FkF30.pre))) = true := by kernel_rfl
end HS
