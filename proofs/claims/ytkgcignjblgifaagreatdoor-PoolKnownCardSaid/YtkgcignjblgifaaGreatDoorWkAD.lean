import Derived.Test.YtkgcignjblgifaaGreatDoorWkAA
set_option maxHeartbeats 8000000
set_option linter.unusedSimpArgs false
set_option linter.unusedVariables false
open Go Go.Proofs Go.RowKit
namespace HS
open Go.Ev
set_option maxRecDepth 1000000
theorem FkF15_ok : FkF15.ok = true := by kernel_rfl
theorem FkF15_run : FkF15.res (evF (lk Fkt14) 1000000 (.call 308 FkF15.args (hA FkF15.pre))) = true := by kernel_rfl
theorem FkF16_ok : FkF16.ok = true := by kernel_rfl
theorem FkF16_run : FkF16.res (evF (lk Fkt15) 1000000 (.call 169 FkF16.args (hA FkF16.pre))) = true := by kernel_rfl
theorem FkF17_ok : FkF17.ok = true := by kernel_rfl
theorem FkF17_run : FkF17.res (evF (lk Fkt16) 1000000 (.call 96 FkF17.args (hA FkF17.pre))) = true := by kernel_rfl
theorem FkF18_ok : FkF18.ok = true := by kernel_rfl
theorem FkF18_run : FkF18.res (evF (lk Fkt17) 1000000 (.call 211 FkF18.args (hA FkF18.pre))) = true := by kernel_rfl
theorem FkF19_ok : FkF19.ok = true := by kernel_rfl
theorem FkF19_run : FkF19.res (evF (lk Fkt18) 1000000 (.call 12 FkF19.args (hA FkF19.pre))) = true := by kernel_rfl
theorem FkF20_ok : FkF20.ok = true := by kernel_rfl
theorem FkF20_run : FkF20.res (evF (lk Fkt19) 1000000 (.call 130 FkF20.args (hA FkF20.pre))) = true := by kernel_rfl
theorem FkF21_ok : FkF21.ok = true := by kernel_rfl
theorem FkF21_run : FkF21.res (evF (lk Fkt20) 1000000 (.call 130 FkF21.args (hA FkF21.pre))) = true := by kernel_rfl
theorem FkF22_ok : FkF22.ok = true := by kernel_rfl
theorem FkF22_run : FkF22.res (evF (lk Fkt21) 1000000 (.call 130 FkF22.args (hA FkF22.pre))) = true := by kernel_rfl
end HS
