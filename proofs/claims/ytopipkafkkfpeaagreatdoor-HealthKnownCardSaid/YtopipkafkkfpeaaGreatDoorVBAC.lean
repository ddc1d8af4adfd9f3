import Derived.Test.YtopipkafkkfpeaaGreatDoorVBAA
import Derived.Test.YtopipkafkkfpeaaGreatDoorVBAB
import Derived.Test.YtopipkafkkfpeaaGreatDoorVAAS
import Derived.Test.YtopipkafkkfpeaaGreatDoorVAAF
set_option maxHeartbeats 8000000
set_option linter.unusedSimpArgs false
set_option linter.unusedVariables false
open Go Go.Proofs Go.RowKit
namespace HS
open Go.Ev
set_option maxRecDepth 1000000
namespace Fh
theorem s86 : LO 24 l86 ∧ TO t86 := stp s85.2 c86 s81.1
theorem s87 : LO 7 l87 ∧ TO t87 := stp s86.2 c87 (LO0 7)
theorem s88 : LO 166 l88 ∧ TO t88 := stp s87.2 c88 s79.1
theorem s89 : LO 166 l89 ∧ TO t89 := stp s88.2 c89 s88.1
theorem s90 : LO 166 l90 ∧ TO t90 := stp s89.2 c90 s89.1
theorem s91 : LO 166 l91 ∧ TO t91 := stp s90.2 c91 s90.1
theorem s92 : LO 166 l92 ∧ TO t92 := stp s91.2 c92 s91.1
theorem s93 : LO 166 l93 ∧ TO t93 := stp s92.2 c93 s92.1
theorem s94 : LO 107 l94 ∧ TO t94 := stp s93.2 c94 s80.1
theorem s95 : LO 124 l95 ∧ TO t95 := stp s94.2 c95 s51.1
theorem s96 : LO 24 l96 ∧ TO t96 := stp s95.2 c96 s86.1
theorem s97 : LO 6 l97 ∧ TO t97 := stp s96.2 c97 s82.1
theorem s98 : LO 5 l98 ∧ TO t98 := stp s97.2 c98 s83.1
theorem s99 : LO 7 l99 ∧ TO t99 := stp s98.2 c99 s87.1
theorem s100 : LO 4 l100 ∧ TO t100 := stp s99.2 c100 (LO0 4)
theorem s101 : (∀ B, XOk Tryz.prog B 4 zfh) ∧ TO t101 := zst s100.2 c101
end Fh
theorem zli (B : Nat) : XOk Tryz.prog B 4 zfh := Fh.s101.1 B
namespace Fh
end Fh
end HS
open Go Go.Ev Go.Proofs Go.RowKit
namespace HS
set_option maxRecDepth 1000000
noncomputable def tabZ : List (Nat × XFn) := (4, zfh) :: tab0
theorem zky (B : Nat) : ∀ p ∈ tabZ, XOk Tryz.prog B p.1 p.2 := zyd (zli B) (zjy B)
noncomputable def lookZ : Lk := lk tabZ
theorem zbq : LOk lookZ Tryz.prog := lk_ok tabZ
theorem zmm (B : Nat) : ExtOk lookZ Tryz.prog B := zwr (zky B)
theorem lawZ : FnE lookZ 4 [] (hA []) fun r _ => r = .bool true := (zhd1 (show lookZ.ext 4 = some zfh from rfl) rfl).mono fun _ _ h => h.1
end HS
