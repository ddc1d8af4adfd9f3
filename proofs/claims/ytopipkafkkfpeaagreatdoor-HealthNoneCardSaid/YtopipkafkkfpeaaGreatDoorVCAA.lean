import Derived.Test.YtopipkafkkfpeaaGreatDoorVAAS
import Derived.Test.YtopipkafkkfpeaaGreatDoorVAAF
set_option maxHeartbeats 8000000
set_option linter.unusedSimpArgs false
set_option linter.unusedVariables false
open Go Go.Ev Go.Proofs Go.RowKit
namespace HS
set_option maxRecDepth 1000000
noncomputable def tabZ : List (Nat × XFn) := (9, zfh) :: tab0
theorem zky (B : Nat) : ∀ p ∈ tabZ, XOk Tryz.prog B p.1 p.2 := zyd (zzt B) (zjy B)
noncomputable def lookZ : Lk := lk tabZ
theorem zbq : LOk lookZ Tryz.prog := lk_ok tabZ
theorem zmm (B : Nat) : ExtOk lookZ Tryz.prog B := zwr (zky B)
noncomputable def getZ : Option Out → Out | some o => o | none => ⟨.normal, .nil, H0⟩
noncomputable def outZ (a0 : ByteArray) : Out := getZ (evF lookZ 1000 (.call 3 [.str a0] (hA [])))
theorem runZ (a0 : ByteArray) (k : Nat) : evF lookZ (k + 1000) (.call 3 [.str a0] (hA [])) = some (out1 (.bool true) (outZ a0).H) := by kernel_rfl
theorem lawZ (a0 : ByteArray) : FnE lookZ 3 [.str a0] (hA []) fun r _ => r = .bool true := ⟨.bool true, (outZ a0).H, rfl, 1000, fun m hm => by obtain ⟨k, rfl⟩ : ∃ k, m = k + 1000 := ⟨m - 1000, by omega⟩; exact runZ a0 k⟩
end HS
