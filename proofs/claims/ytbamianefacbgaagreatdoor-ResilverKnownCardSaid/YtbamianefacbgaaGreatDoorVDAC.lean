import Derived.Test.YtbamianefacbgaaGreatDoorVDAA
import Derived.Test.YtbamianefacbgaaGreatDoorVDAB
import Derived.Test.YtbamianefacbgaaGreatDoorVBAR
import Derived.Test.YtbamianefacbgaaGreatDoorVAAF
set_option maxHeartbeats 8000000
set_option linter.unusedSimpArgs false
set_option linter.unusedVariables false
open Go Go.Proofs Go.RowKit
namespace HS
open Go.Ev
set_option maxRecDepth 1000000
namespace Fr
theorem s164 : LO 185 l164 ∧ TO t164 := stp s163.2 c164 s143.1
theorem s165 : LO 185 l165 ∧ TO t165 := stp s164.2 c165 s164.1
theorem s166 : LO 275 l166 ∧ TO t166 := stp s165.2 c166 s141.1
theorem s167 : LO 185 l167 ∧ TO t167 := stp s166.2 c167 s165.1
theorem s168 : LO 185 l168 ∧ TO t168 := stp s167.2 c168 s167.1
theorem s169 : LO 214 l169 ∧ TO t169 := stp s168.2 c169 s144.1
theorem s170 : LO 179 l170 ∧ TO t170 := stp s169.2 c170 s153.1
theorem s171 : LO 191 l171 ∧ TO t171 := stp s170.2 c171 s150.1
theorem s172 : LO 179 l172 ∧ TO t172 := stp s171.2 c172 s170.1
theorem s173 : LO 191 l173 ∧ TO t173 := stp s172.2 c173 s171.1
theorem s174 : LO 179 l174 ∧ TO t174 := stp s173.2 c174 s172.1
theorem s175 : LO 191 l175 ∧ TO t175 := stp s174.2 c175 s173.1
theorem s176 : LO 237 l176 ∧ TO t176 := stp s175.2 c176 s102.1
theorem s177 : LO 237 l177 ∧ TO t177 := stp s176.2 c177 s176.1
theorem s178 : LO 237 l178 ∧ TO t178 := stp s177.2 c178 s177.1
theorem s179 : LO 349 l179 ∧ TO t179 := stp s178.2 c179 s103.1
theorem s180 : LO 349 l180 ∧ TO t180 := stp s179.2 c180 s179.1
theorem s181 : LO 349 l181 ∧ TO t181 := stp s180.2 c181 s180.1
theorem s182 : LO 223 l182 ∧ TO t182 := stp s181.2 c182 s155.1
theorem s183 : LO 136 l183 ∧ TO t183 := stp s182.2 c183 s156.1
theorem s184 : LO 63 l184 ∧ TO t184 := stp s183.2 c184 s38.1
theorem s185 : LO 65 l185 ∧ TO t185 := stp s184.2 c185 s129.1
theorem s186 : LO 6 l186 ∧ TO t186 := stp s185.2 c186 (LO0 6)
theorem s187 : (∀ B, XOk Tryz.prog B 6 zed) ∧ TO t187 := zst s186.2 c187
end Fr
theorem zmh (B : Nat) : XOk Tryz.prog B 6 zed := Fr.s187.1 B
namespace Fr
end Fr
end HS
open Go Go.Ev Go.Proofs Go.RowKit
namespace HS
set_option maxRecDepth 1000000
noncomputable def tabZ : List (Nat × XFn) := (6, zed) :: tab0
theorem zfp (B : Nat) : ∀ p ∈ tabZ, XOk Tryz.prog B p.1 p.2 := zlb (zmh B) (zkk B)
noncomputable def lookZ : Lk := lk tabZ
theorem zlk : LOk lookZ Tryz.prog := lk_ok tabZ
theorem znh (B : Nat) : ExtOk lookZ Tryz.prog B := zfj (zfp B)
theorem lawZ : FnE lookZ 6 [] (hA []) fun r _ => r = .bool true := (zcs (show lookZ.ext 6 = some zed from rfl) rfl).mono fun _ _ h => h.1
end HS
