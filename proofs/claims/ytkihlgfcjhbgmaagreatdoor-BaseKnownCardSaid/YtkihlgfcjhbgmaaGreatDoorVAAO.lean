import Derived.Test.YtkihlgfcjhbgmaaGreatDoorRows
import Derived.LaidByTextLater
import Derived.SevenTiedAt
import Derived.LaidSub
import Derived.LaidOnce
import Derived.KernelRfl
import Derived.Test.YtkihlgfcjhbgmaaGreatDoorVAAK
import Derived.Test.YtkihlgfcjhbgmaaGreatDoorVAAM
import Derived.Test.YtkihlgfcjhbgmaaGreatDoorVAAN
set_option maxHeartbeats 8000000
set_option linter.unusedVariables false
namespace Go.Proofs.YtkihlgfcjhbgmaaGreatDoor
open Go
set_option maxRecDepth 100000
theorem zuz : Tryz.prog.laidByTextLater [("unicode/utf8.acceptRanges", Rows.laid_unicode_utf8_acceptRanges), ("caulker/uber.errField", Rows.laid_caulker_uber_errField), ("caulker/uber.errRoot", Rows.laid_caulker_uber_errRoot)] [.data, .sentinel, .sentinel] true :=
  Program.laidByTextLater_by_one 60 8 33 tq1 tq2 tq3 tq4 (by rw [tvars]; rfl) tq6 tq7
theorem zxl : Tryz.pinned.checked.prog.headLifts.contains "ownunsafe" = false := by kernel_rfl
theorem fits1 : Tryz.pinned.checked.prog.listedFits [("unicode/utf8.first", Rows.laid_unicode_utf8_first), ("unicode/utf8.acceptRanges", Rows.laid_unicode_utf8_acceptRanges)] = true := by
  unfold Program.listedFits
  rw [zxl]
  kernel_rfl
theorem tie : Tryz.prog.laidByTextLater [("unicode/utf8.acceptRanges", Rows.laid_unicode_utf8_acceptRanges)] [.data] true :=
  Program.laidByTextLater.sub zuz ["unicode/utf8.acceptRanges"] (by kernel_rfl) (by kernel_rfl)
theorem zbj : Rows.baseKnownRow.laidByTextAt .later Tryz.pinned [.pinned, .data] true :=
  OpenClaim.laidByTextAt_pinned rfl rfl tie rfl rfl rfl rfl (fun y hy _e => by
    simp only [Rows.baseKnownRow, List.zip_cons_cons, List.zip_nil_right, List.mem_cons, List.mem_nil_iff, or_false] at hy
    rcases hy with rfl | rfl
    · exact ⟨zbb, by kernel_rfl⟩
    · cases _e) fits1
theorem fits2 : Tryz.pinned.checked.prog.listedFits [("unicode/utf8.first", Rows.laid_unicode_utf8_first), ("unicode/utf8.acceptRanges", Rows.laid_unicode_utf8_acceptRanges), ("caulker/uber.errField", Rows.laid_caulker_uber_errField), ("caulker/uber.errRoot", Rows.laid_caulker_uber_errRoot)] = true := by
  unfold Program.listedFits
  rw [zxl]
  kernel_rfl
theorem tie2 : Tryz.prog.laidByTextLater [("unicode/utf8.acceptRanges", Rows.laid_unicode_utf8_acceptRanges), ("caulker/uber.errField", Rows.laid_caulker_uber_errField), ("caulker/uber.errRoot", Rows.laid_caulker_uber_errRoot)] [.data, .sentinel, .sentinel] true :=
  Program.laidByTextLater.sub zuz ["unicode/utf8.acceptRanges", "caulker/uber.errField", "caulker/uber.errRoot"] (by kernel_rfl) (by kernel_rfl)
theorem zsk : Rows.baseNoneRow.laidByTextAt .later Tryz.pinned [.pinned, .data, .sentinel, .sentinel] true :=
  OpenClaim.laidByTextAt_pinned rfl rfl tie2 rfl rfl rfl rfl (fun y hy _e => by
    simp only [Rows.baseNoneRow, List.zip_cons_cons, List.zip_nil_right, List.mem_cons, List.mem_nil_iff, or_false] at hy
    rcases hy with rfl | rfl | rfl | rfl
    · exact ⟨zbb, by kernel_rfl⟩
    · cases _e
    · cases _e
    · cases _e) fits2
theorem zrh : Rows.scriptKnownRow.laidByTextAt .later Tryz.pinned [.pinned, .data, .sentinel, .sentinel] true :=
  OpenClaim.laidByTextAt_pinned rfl rfl tie2 rfl rfl rfl rfl (fun y hy _e => by
    simp only [Rows.scriptKnownRow, List.zip_cons_cons, List.zip_nil_right, List.mem_cons, List.mem_nil_iff, or_false] at hy
    rcases hy with rfl | rfl | rfl | rfl
    · exact ⟨zbb, by kernel_rfl⟩
    · cases _e
    · cases _e
    · cases _e) fits2
theorem zpi : Rows.scriptNoneRow.laidByTextAt .later Tryz.pinned [.pinned, .data, .sentinel, .sentinel] true :=
  OpenClaim.laidByTextAt_pinned rfl rfl tie2 rfl rfl rfl rfl (fun y hy _e => by
    simp only [Rows.scriptNoneRow, List.zip_cons_cons, List.zip_nil_right, List.mem_cons, List.mem_nil_iff, or_false] at hy
    rcases hy with rfl | rfl | rfl | rfl
    · exact ⟨zbb, by kernel_rfl⟩
    · cases _e
    · cases _e
    · cases _e) fits2
end Go.Proofs.YtkihlgfcjhbgmaaGreatDoor
