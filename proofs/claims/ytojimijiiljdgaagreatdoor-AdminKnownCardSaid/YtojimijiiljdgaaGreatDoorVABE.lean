import Derived.Test.YtojimijiiljdgaaGreatDoorVAAZ
import Derived.Test.YtojimijiiljdgaaGreatDoorVABA
import Derived.Test.YtojimijiiljdgaaGreatDoorVABB
import Derived.Test.YtojimijiiljdgaaGreatDoorVABC
import Derived.Test.YtojimijiiljdgaaGreatDoorVABD
import Derived.Test.YtojimijiiljdgaaGreatDoorVAAY
import Derived.Test.YtojimijiiljdgaaGreatDoorVAAF
set_option maxHeartbeats 8000000
set_option linter.unusedSimpArgs false
set_option linter.unusedVariables false
open Go Go.Proofs Go.RowKit
namespace HS
open Go.Ev
set_option maxRecDepth 1000000
namespace Fa
theorem s155 : LO 5 l155 ∧ TO t155 := stp s154.2 c155 s153.1
theorem s156 : LO 204 l156 ∧ TO t156 := stp s155.2 c156 s115.1
theorem s157 : LO 169 l157 ∧ TO t157 := stp s156.2 c157 s120.1
theorem s158 : LO 169 l158 ∧ TO t158 := stp s157.2 c158 s157.1
theorem s159 : LO 333 l159 ∧ TO t159 := stp s158.2 c159 s118.1
theorem s160 : LO 169 l160 ∧ TO t160 := stp s159.2 c160 s158.1
theorem s161 : LO 169 l161 ∧ TO t161 := stp s160.2 c161 s160.1
theorem s162 : LO 259 l162 ∧ TO t162 := stp s161.2 c162 s121.1
theorem s163 : LO 161 l163 ∧ TO t163 := stp s162.2 c163 s151.1
theorem s164 : LO 165 l164 ∧ TO t164 := stp s163.2 c164 s127.1
theorem s165 : LO 161 l165 ∧ TO t165 := stp s164.2 c165 s163.1
theorem s166 : LO 165 l166 ∧ TO t166 := stp s165.2 c166 s164.1
theorem s167 : LO 161 l167 ∧ TO t167 := stp s166.2 c167 s165.1
theorem s168 : LO 165 l168 ∧ TO t168 := stp s167.2 c168 s166.1
theorem s169 : LO 161 l169 ∧ TO t169 := stp s168.2 c169 s167.1
theorem s170 : LO 161 l170 ∧ TO t170 := stp s169.2 c170 s169.1
theorem s171 : LO 161 l171 ∧ TO t171 := stp s170.2 c171 s170.1
theorem s172 : LO 161 l172 ∧ TO t172 := stp s171.2 c172 s171.1
theorem s173 : LO 161 l173 ∧ TO t173 := stp s172.2 c173 s172.1
theorem s174 : LO 161 l174 ∧ TO t174 := stp s173.2 c174 s173.1
theorem s175 : LO 144 l175 ∧ TO t175 := stp s174.2 c175 s152.1
theorem s176 : LO 265 l176 ∧ TO t176 := stp s175.2 c176 s135.1
theorem s177 : LO 207 l177 ∧ TO t177 := stp s176.2 c177 s136.1
theorem s178 : LO 226 l178 ∧ TO t178 := stp s177.2 c178 s137.1
theorem s179 : LO 172 l179 ∧ TO t179 := stp s178.2 c179 s138.1
theorem s180 : LO 158 l180 ∧ TO t180 := stp s179.2 c180 s139.1
theorem s181 : LO 93 l181 ∧ TO t181 := stp s180.2 c181 s73.1
theorem s182 : LO 31 l182 ∧ TO t182 := stp s181.2 c182 s95.1
theorem s183 : LO 204 l183 ∧ TO t183 := stp s182.2 c183 s156.1
theorem s184 : LO 169 l184 ∧ TO t184 := stp s183.2 c184 s161.1
theorem s185 : LO 169 l185 ∧ TO t185 := stp s184.2 c185 s184.1
theorem s186 : LO 333 l186 ∧ TO t186 := stp s185.2 c186 s159.1
theorem s187 : LO 169 l187 ∧ TO t187 := stp s186.2 c187 s185.1
theorem s188 : LO 169 l188 ∧ TO t188 := stp s187.2 c188 s187.1
theorem s189 : LO 259 l189 ∧ TO t189 := stp s188.2 c189 s162.1
theorem s190 : LO 161 l190 ∧ TO t190 := stp s189.2 c190 s174.1
theorem s191 : LO 165 l191 ∧ TO t191 := stp s190.2 c191 s168.1
theorem s192 : LO 161 l192 ∧ TO t192 := stp s191.2 c192 s190.1
theorem s193 : LO 165 l193 ∧ TO t193 := stp s192.2 c193 s191.1
theorem s194 : LO 161 l194 ∧ TO t194 := stp s193.2 c194 s192.1
theorem s195 : LO 165 l195 ∧ TO t195 := stp s194.2 c195 s193.1
theorem s196 : LO 161 l196 ∧ TO t196 := stp s195.2 c196 s194.1
theorem s197 : LO 161 l197 ∧ TO t197 := stp s196.2 c197 s196.1
theorem s198 : LO 161 l198 ∧ TO t198 := stp s197.2 c198 s197.1
theorem s199 : LO 144 l199 ∧ TO t199 := stp s198.2 c199 s175.1
theorem s200 : LO 265 l200 ∧ TO t200 := stp s199.2 c200 s176.1
theorem s201 : LO 207 l201 ∧ TO t201 := stp s200.2 c201 s177.1
theorem s202 : LO 226 l202 ∧ TO t202 := stp s201.2 c202 s178.1
theorem s203 : LO 172 l203 ∧ TO t203 := stp s202.2 c203 s179.1
theorem s204 : LO 93 l204 ∧ TO t204 := stp s203.2 c204 s181.1
theorem s205 : LO 31 l205 ∧ TO t205 := stp s204.2 c205 s182.1
theorem s206 : LO 161 l206 ∧ TO t206 := stp s205.2 c206 s198.1
theorem s207 : LO 161 l207 ∧ TO t207 := stp s206.2 c207 s206.1
theorem s208 : LO 161 l208 ∧ TO t208 := stp s207.2 c208 s207.1
theorem s209 : LO 13 l209 ∧ TO t209 := stp s208.2 c209 s39.1
theorem s210 : LO 49 l210 ∧ TO t210 := stp s209.2 c210 (LO0 49)
theorem s211 : LO 3 l211 ∧ TO t211 := stp s210.2 c211 (LO0 3)
theorem s212 : (∀ B, XOk Tryz.prog B 3 zqi) ∧ TO t212 := zst s211.2 c212
end Fa
theorem zhk (B : Nat) : XOk Tryz.prog B 3 zqi := Fa.s212.1 B
namespace Fa
end Fa
end HS
open Go Go.Ev Go.Proofs Go.RowKit
namespace HS
set_option maxRecDepth 1000000
noncomputable def tabZ : List (Nat × XFn) := (3, zqi) :: tab0
theorem tabZ_ok (B : Nat) : ∀ p ∈ tabZ, XOk Tryz.prog B p.1 p.2 := zde (zhk B) (zle1 B)
noncomputable def lookZ : Lk := lk tabZ
theorem znh1 : LOk lookZ Tryz.prog := lk_ok tabZ
theorem zjc1 (B : Nat) : ExtOk lookZ Tryz.prog B := zic1 (tabZ_ok B)
theorem lawZ : FnE lookZ 3 [] (hA []) fun r _ => r = .bool true := (zsd1 (show lookZ.ext 3 = some zqi from rfl) rfl).mono fun _ _ h => h.1
end HS
