import Derived.Test.YtbmfjlecnponaaaGreatDoorVAAJ
set_option maxHeartbeats 8000000
set_option linter.unusedSimpArgs false
set_option linter.unusedVariables false
open Go Go.Proofs Go.RowKit
namespace HS
open Go.Ev
set_option maxRecDepth 1000000
namespace Fs
theorem c96 : chk t95 250 F96 = true := by kernel_rfl
theorem c97 : chk t96 174 F97 = true := by kernel_rfl
theorem c98 : chk t97 250 F98 = true := by kernel_rfl
theorem c99 : chk t98 174 F99 = true := by kernel_rfl
theorem c100 : chk t99 250 F100 = true := by kernel_rfl
theorem c101 : chk t100 174 F101 = true := by kernel_rfl
theorem c102 : chk t101 174 F102 = true := by kernel_rfl
theorem c103 : chk t102 174 F103 = true := by kernel_rfl
theorem c104 : chk t103 94 F104 = true := by kernel_rfl
theorem c105 : chk t104 168 F105 = true := by kernel_rfl
theorem c106 : chk t105 96 F106 = true := by kernel_rfl
end Fs
end HS
