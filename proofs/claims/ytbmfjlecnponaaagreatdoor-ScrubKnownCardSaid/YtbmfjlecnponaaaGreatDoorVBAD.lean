import Derived.Test.YtbmfjlecnponaaaGreatDoorVAAJ
set_option maxHeartbeats 8000000
set_option linter.unusedSimpArgs false
set_option linter.unusedVariables false
open Go Go.Proofs Go.RowKit
namespace HS
open Go.Ev
set_option maxRecDepth 1000000
namespace Fs
theorem c175 : chk t174 175 F175 = true := by kernel_rfl
theorem c176 : chk t175 159 F176 = true := by kernel_rfl
theorem c177 : chk t176 159 F177 = true := by kernel_rfl
theorem c178 : chk t177 159 F178 = true := by kernel_rfl
theorem c179 : chk t178 174 F179 = true := by kernel_rfl
theorem c180 : chk t179 250 F180 = true := by kernel_rfl
theorem c181 : chk t180 174 F181 = true := by kernel_rfl
theorem c182 : chk t181 250 F182 = true := by kernel_rfl
theorem c183 : chk t182 174 F183 = true := by kernel_rfl
end Fs
end HS
