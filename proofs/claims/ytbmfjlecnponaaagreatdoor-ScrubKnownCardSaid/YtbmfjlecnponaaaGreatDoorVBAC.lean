import Derived.Test.YtbmfjlecnponaaaGreatDoorVAAJ
set_option maxHeartbeats 8000000
set_option linter.unusedSimpArgs false
set_option linter.unusedVariables false
open Go Go.Proofs Go.RowKit
namespace HS
open Go.Ev
set_option maxRecDepth 1000000
namespace Fs
theorem c163 : chk t162 174 F163 = true := by kernel_rfl
theorem c164 : chk t163 250 F164 = true := by kernel_rfl
theorem c165 : chk t164 174 F165 = true := by kernel_rfl
theorem c166 : chk t165 250 F166 = true := by kernel_rfl
theorem c167 : chk t166 168 F167 = true := by kernel_rfl
theorem c168 : chk t167 96 F168 = true := by kernel_rfl
theorem c169 : chk t168 224 F169 = true := by kernel_rfl
theorem c170 : chk t169 50 F170 = true := by kernel_rfl
theorem c171 : chk t170 18 F171 = true := by kernel_rfl
theorem c172 : chk t171 174 F172 = true := by kernel_rfl
theorem c173 : chk t172 174 F173 = true := by kernel_rfl
theorem c174 : chk t173 174 F174 = true := by kernel_rfl
end Fs
end HS
