import Derived.Test.YtbmfjlecnponaaaGreatDoorVAAJ
set_option maxHeartbeats 8000000
set_option linter.unusedSimpArgs false
set_option linter.unusedVariables false
open Go Go.Proofs Go.RowKit
namespace HS
open Go.Ev
set_option maxRecDepth 1000000
namespace Fs
theorem c184 : chk t183 250 F184 = true := by kernel_rfl
theorem c185 : chk t184 168 F185 = true := by kernel_rfl
theorem c186 : chk t185 96 F186 = true := by kernel_rfl
theorem c187 : chk t186 48 F187 = true := by kernel_rfl
theorem c188 : chk t187 224 F188 = true := by kernel_rfl
theorem c189 : chk t188 50 F189 = true := by kernel_rfl
theorem c190 : chk t189 175 F190 = true := by kernel_rfl
theorem c191 : chk t190 159 F191 = true := by kernel_rfl
theorem c192 : chk t191 159 F192 = true := by kernel_rfl
theorem c193 : chk t192 159 F193 = true := by kernel_rfl
theorem c194 : chk t193 174 F194 = true := by kernel_rfl
end Fs
end HS
