import Derived.Test.YtkihlgfcjhbgmaaGreatDoorVDAA
import Derived.Test.YtkihlgfcjhbgmaaGreatDoorVBAI
import Derived.Test.YtkihlgfcjhbgmaaGreatDoorVAAF
set_option maxHeartbeats 8000000
set_option linter.unusedSimpArgs false
set_option linter.unusedVariables false
open Go Go.Proofs Go.RowKit
namespace HS
open Go.Ev
set_option maxRecDepth 1000000
namespace Fb
theorem s81 : LO 425 l81 ∧ TO t81 := stp s80.2 c81 s78.1
theorem s82 : LO 425 l82 ∧ TO t82 := stp s81.2 c82 s81.1
theorem s83 : LO 425 l83 ∧ TO t83 := stp s82.2 c83 s82.1
theorem s84 : LO 344 l84 ∧ TO t84 := stp s83.2 c84 (LO0 344)
theorem s85 : LO 220 l85 ∧ TO t85 := stp s84.2 c85 (LO0 220)
theorem s86 : LO 109 l86 ∧ TO t86 := stp s85.2 c86 (LO0 109)
theorem s87 : LO 106 l87 ∧ TO t87 := stp s86.2 c87 (LO0 106)
theorem s88 : LO 3 l88 ∧ TO t88 := stp s87.2 c88 (LO0 3)
theorem s89 : (∀ B, XOk Tryz.prog B 3 zxg) ∧ TO t89 := zst s88.2 c89
end Fb
theorem zbl (B : Nat) : XOk Tryz.prog B 3 zxg := Fb.s89.1 B
namespace Fb
end Fb
open Go Go.Ev Go.Proofs Go.RowKit
noncomputable def tabZ : List (Nat × XFn) := (3, zxg) :: tab0
theorem tabZ_ok (B : Nat) : ∀ p ∈ tabZ, XOk Tryz.prog B p.1 p.2 := zdc (zbl B) (zsz B)
noncomputable def lookZ : Lk := lk tabZ
theorem zor : LOk lookZ Tryz.prog := lk_ok tabZ
theorem zkn (B : Nat) : ExtOk lookZ Tryz.prog B := zin (tabZ_ok B)
theorem lawZ : FnE lookZ 3 [] (hA []) fun r _ => r = .bool true := (zeg1 (show lookZ.ext 3 = some zxg from rfl) rfl).mono fun _ _ h => h.1
end HS
