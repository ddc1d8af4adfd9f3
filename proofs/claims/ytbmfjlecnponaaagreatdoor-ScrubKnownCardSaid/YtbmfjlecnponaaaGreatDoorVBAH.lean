import Derived.Test.YtbmfjlecnponaaaGreatDoorVAAJ
set_option maxHeartbeats 8000000
set_option linter.unusedSimpArgs false
set_option linter.unusedVariables false
open Go Go.Proofs Go.RowKit
namespace HS
open Go.Ev
set_option maxRecDepth 1000000
namespace Fs
theorem c215 : chk t214 168 F215 = true := by kernel_rfl
theorem c216 : chk t215 96 F216 = true := by kernel_rfl
theorem c217 : chk t216 48 F217 = true := by kernel_rfl
theorem c218 : chk t217 50 F218 = true := by kernel_rfl
theorem c219 : chk t218 174 F219 = true := by kernel_rfl
theorem c220 : chk t219 174 F220 = true := by kernel_rfl
theorem c221 : chk t220 174 F221 = true := by kernel_rfl
theorem c222 : chk t221 175 F222 = true := by kernel_rfl
theorem c223 : chk t222 159 F223 = true := by kernel_rfl
theorem c224 : chk t223 159 F224 = true := by kernel_rfl
theorem c225 : chk t224 159 F225 = true := by kernel_rfl
theorem c226 : chk t225 174 F226 = true := by kernel_rfl
end Fs
end HS
