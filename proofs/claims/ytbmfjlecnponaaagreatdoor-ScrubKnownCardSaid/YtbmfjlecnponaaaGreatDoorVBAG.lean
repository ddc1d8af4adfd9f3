import Derived.Test.YtbmfjlecnponaaaGreatDoorVAAJ
set_option maxHeartbeats 8000000
set_option linter.unusedSimpArgs false
set_option linter.unusedVariables false
open Go Go.Proofs Go.RowKit
namespace HS
open Go.Ev
set_option maxRecDepth 1000000
namespace Fs
theorem c206 : chk t205 159 F206 = true := by kernel_rfl
theorem c207 : chk t206 159 F207 = true := by kernel_rfl
theorem c208 : chk t207 159 F208 = true := by kernel_rfl
theorem c209 : chk t208 174 F209 = true := by kernel_rfl
theorem c210 : chk t209 250 F210 = true := by kernel_rfl
theorem c211 : chk t210 174 F211 = true := by kernel_rfl
theorem c212 : chk t211 250 F212 = true := by kernel_rfl
theorem c213 : chk t212 174 F213 = true := by kernel_rfl
theorem c214 : chk t213 250 F214 = true := by kernel_rfl
end Fs
end HS
