import Derived.Test.YtkihlgfcjhbgmaaGreatDoorRows
import Derived.LaidMore
import Derived.Lay
import Derived.KernelRfl
set_option maxHeartbeats 8000000
set_option linter.unusedVariables false
namespace Go.Proofs.YtkihlgfcjhbgmaaGreatDoor
open Go
namespace scriptNone
set_option maxRecDepth 100000
theorem wz1 (os : Os) : ((World.laidAll Tryz.prog os [("unicode/utf8.first", Rows.laid_unicode_utf8_first), ("unicode/utf8.acceptRanges", Rows.laid_unicode_utf8_acceptRanges), ("caulker/uber.errField", Rows.laid_caulker_uber_errField), ("caulker/uber.errRoot", Rows.laid_caulker_uber_errRoot)]).forCall (fun _ _ => 0) ⟨#[], #[.agg ⟨.int .i64 0 :: .int .i64 0 :: .int .i64 0 :: .int .i64 0 :: .int .u8 0 :: .slice none 0 0 :: .slice none 0 0 :: []⟩], []⟩).variablesZipB Tryz.prog = true := by kernel_rfl
end scriptNone
end Go.Proofs.YtkihlgfcjhbgmaaGreatDoor
