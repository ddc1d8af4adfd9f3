import Derived.Test.YtbamianefacbgaaGreatDoorVBAR
import Derived.Test.YtbamianefacbgaaGreatDoorVAAF
set_option maxHeartbeats 8000000
set_option linter.unusedSimpArgs false
set_option linter.unusedVariables false
open Go Go.Ev Go.Proofs Go.RowKit
namespace HS
set_option maxRecDepth 1000000
noncomputable def tabZ : List (Nat × XFn) := (26, zed) :: tab0
theorem zfp (B : Nat) : ∀ p ∈ tabZ, XOk Tryz.prog B p.1 p.2 := zlb (zxu B) (zkk B)
noncomputable def lookZ : Lk := lk tabZ
theorem zlk : LOk lookZ Tryz.prog := lk_ok tabZ
theorem znh (B : Nat) : ExtOk lookZ Tryz.prog B := zfj (zfp B)
noncomputable def getZ : Option Out → Out | some o => o | none => ⟨.normal, .nil, H0⟩
noncomputable def outZ (a0 : Int) : Out := getZ (evF lookZ 1000 (.call 5 [.int .i64 a0] (hA [])))
theorem runZ (a0 : Int) (k : Nat) : evF lookZ (k + 1000) (.call 5 [.int .i64 a0] (hA [])) = some (out1 (.bool true) (outZ a0).H) := by kernel_rfl
theorem lawZ (a0 : Int) : FnE lookZ 5 [.int .i64 a0] (hA []) fun r _ => r = .bool true := ⟨.bool true, (outZ a0).H, rfl, 1000, fun m hm => by obtain ⟨k, rfl⟩ : ∃ k, m = k + 1000 := ⟨m - 1000, by omega⟩; exact runZ a0 k⟩
end HS
