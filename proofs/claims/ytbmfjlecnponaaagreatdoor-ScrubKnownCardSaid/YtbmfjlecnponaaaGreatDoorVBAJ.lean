import Derived.Test.YtbmfjlecnponaaaGreatDoorVAAJ
set_option maxHeartbeats 8000000
set_option linter.unusedSimpArgs false
set_option linter.unusedVariables false
open Go Go.Proofs Go.RowKit
namespace HS
open Go.Ev
set_option maxRecDepth 1000000
namespace Fs
theorem c237 : chk t236 4 F237 = true := by kernel_rfl
theorem c238 : saysT (evF (lkt t237) 1000000 (.call 4 [] H0)) = true := by kernel_rfl
end Fs
end HS
