import Derived.Test.YtbmfjlecnponaaaGreatDoorVBAA
import Derived.Test.YtbmfjlecnponaaaGreatDoorVBAB
import Derived.Test.YtbmfjlecnponaaaGreatDoorVBAC
import Derived.Test.YtbmfjlecnponaaaGreatDoorVBAD
import Derived.Test.YtbmfjlecnponaaaGreatDoorVBAE
import Derived.Test.YtbmfjlecnponaaaGreatDoorVBAF
import Derived.Test.YtbmfjlecnponaaaGreatDoorVBAG
import Derived.Test.YtbmfjlecnponaaaGreatDoorVBAH
import Derived.Test.YtbmfjlecnponaaaGreatDoorVBAI
import Derived.Test.YtbmfjlecnponaaaGreatDoorVBAJ
import Derived.Test.YtbmfjlecnponaaaGreatDoorVAAY
import Derived.Test.YtbmfjlecnponaaaGreatDoorVAAF
set_option maxHeartbeats 8000000
set_option linter.unusedSimpArgs false
set_option linter.unusedVariables false
open Go Go.Proofs Go.RowKit
namespace HS
open Go.Ev
set_option maxRecDepth 1000000
namespace Fs
theorem s141 : LO 74 l141 ∧ TO t141 := stp s140.2 c141 s2.1
theorem s142 : LO 74 l142 ∧ TO t142 := stp s141.2 c142 s141.1
theorem s143 : LO 224 l143 ∧ TO t143 := stp s142.2 c143 (LO0 224)
theorem s144 : LO 257 l144 ∧ TO t144 := stp s143.2 c144 s6.1
theorem s145 : LO 257 l145 ∧ TO t145 := stp s144.2 c145 s144.1
theorem s146 : LO 175 l146 ∧ TO t146 := stp s145.2 c146 s120.1
theorem s147 : LO 159 l147 ∧ TO t147 := stp s146.2 c147 s123.1
theorem s148 : LO 159 l148 ∧ TO t148 := stp s147.2 c148 s147.1
theorem s149 : LO 159 l149 ∧ TO t149 := stp s148.2 c149 s148.1
theorem s150 : LO 174 l150 ∧ TO t150 := stp s149.2 c150 s132.1
theorem s151 : LO 174 l151 ∧ TO t151 := stp s150.2 c151 s150.1
theorem s152 : LO 174 l152 ∧ TO t152 := stp s151.2 c152 s151.1
theorem s153 : LO 168 l153 ∧ TO t153 := stp s152.2 c153 s134.1
theorem s154 : LO 96 l154 ∧ TO t154 := stp s153.2 c154 s135.1
theorem s155 : LO 224 l155 ∧ TO t155 := stp s154.2 c155 s143.1
theorem s156 : LO 18 l156 ∧ TO t156 := stp s155.2 c156 s137.1
theorem s157 : LO 175 l157 ∧ TO t157 := stp s156.2 c157 s146.1
theorem s158 : LO 159 l158 ∧ TO t158 := stp s157.2 c158 s149.1
theorem s159 : LO 159 l159 ∧ TO t159 := stp s158.2 c159 s158.1
theorem s160 : LO 159 l160 ∧ TO t160 := stp s159.2 c160 s159.1
theorem s161 : LO 174 l161 ∧ TO t161 := stp s160.2 c161 s152.1
theorem s162 : LO 250 l162 ∧ TO t162 := stp s161.2 c162 s129.1
theorem s163 : LO 174 l163 ∧ TO t163 := stp s162.2 c163 s161.1
theorem s164 : LO 250 l164 ∧ TO t164 := stp s163.2 c164 s162.1
theorem s165 : LO 174 l165 ∧ TO t165 := stp s164.2 c165 s163.1
theorem s166 : LO 250 l166 ∧ TO t166 := stp s165.2 c166 s164.1
theorem s167 : LO 168 l167 ∧ TO t167 := stp s166.2 c167 s153.1
theorem s168 : LO 96 l168 ∧ TO t168 := stp s167.2 c168 s154.1
theorem s169 : LO 224 l169 ∧ TO t169 := stp s168.2 c169 s155.1
theorem s170 : LO 50 l170 ∧ TO t170 := stp s169.2 c170 s136.1
theorem s171 : LO 18 l171 ∧ TO t171 := stp s170.2 c171 s156.1
theorem s172 : LO 174 l172 ∧ TO t172 := stp s171.2 c172 s165.1
theorem s173 : LO 174 l173 ∧ TO t173 := stp s172.2 c173 s172.1
theorem s174 : LO 174 l174 ∧ TO t174 := stp s173.2 c174 s173.1
theorem s175 : LO 175 l175 ∧ TO t175 := stp s174.2 c175 s157.1
theorem s176 : LO 159 l176 ∧ TO t176 := stp s175.2 c176 s160.1
theorem s177 : LO 159 l177 ∧ TO t177 := stp s176.2 c177 s176.1
theorem s178 : LO 159 l178 ∧ TO t178 := stp s177.2 c178 s177.1
theorem s179 : LO 174 l179 ∧ TO t179 := stp s178.2 c179 s174.1
theorem s180 : LO 250 l180 ∧ TO t180 := stp s179.2 c180 s166.1
theorem s181 : LO 174 l181 ∧ TO t181 := stp s180.2 c181 s179.1
theorem s182 : LO 250 l182 ∧ TO t182 := stp s181.2 c182 s180.1
theorem s183 : LO 174 l183 ∧ TO t183 := stp s182.2 c183 s181.1
theorem s184 : LO 250 l184 ∧ TO t184 := stp s183.2 c184 s182.1
theorem s185 : LO 168 l185 ∧ TO t185 := stp s184.2 c185 s167.1
theorem s186 : LO 96 l186 ∧ TO t186 := stp s185.2 c186 s168.1
theorem s187 : LO 48 l187 ∧ TO t187 := stp s186.2 c187 s34.1
theorem s188 : LO 224 l188 ∧ TO t188 := stp s187.2 c188 s169.1
theorem s189 : LO 50 l189 ∧ TO t189 := stp s188.2 c189 s170.1
theorem s190 : LO 175 l190 ∧ TO t190 := stp s189.2 c190 s175.1
theorem s191 : LO 159 l191 ∧ TO t191 := stp s190.2 c191 s178.1
theorem s192 : LO 159 l192 ∧ TO t192 := stp s191.2 c192 s191.1
theorem s193 : LO 159 l193 ∧ TO t193 := stp s192.2 c193 s192.1
theorem s194 : LO 174 l194 ∧ TO t194 := stp s193.2 c194 s183.1
theorem s195 : LO 250 l195 ∧ TO t195 := stp s194.2 c195 s184.1
theorem s196 : LO 174 l196 ∧ TO t196 := stp s195.2 c196 s194.1
theorem s197 : LO 250 l197 ∧ TO t197 := stp s196.2 c197 s195.1
theorem s198 : LO 174 l198 ∧ TO t198 := stp s197.2 c198 s196.1
theorem s199 : LO 250 l199 ∧ TO t199 := stp s198.2 c199 s197.1
theorem s200 : LO 168 l200 ∧ TO t200 := stp s199.2 c200 s185.1
theorem s201 : LO 96 l201 ∧ TO t201 := stp s200.2 c201 s186.1
theorem s202 : LO 48 l202 ∧ TO t202 := stp s201.2 c202 s187.1
theorem s203 : LO 224 l203 ∧ TO t203 := stp s202.2 c203 s188.1
theorem s204 : LO 50 l204 ∧ TO t204 := stp s203.2 c204 s189.1
theorem s205 : LO 175 l205 ∧ TO t205 := stp s204.2 c205 s190.1
theorem s206 : LO 159 l206 ∧ TO t206 := stp s205.2 c206 s193.1
theorem s207 : LO 159 l207 ∧ TO t207 := stp s206.2 c207 s206.1
theorem s208 : LO 159 l208 ∧ TO t208 := stp s207.2 c208 s207.1
theorem s209 : LO 174 l209 ∧ TO t209 := stp s208.2 c209 s198.1
theorem s210 : LO 250 l210 ∧ TO t210 := stp s209.2 c210 s199.1
theorem s211 : LO 174 l211 ∧ TO t211 := stp s210.2 c211 s209.1
theorem s212 : LO 250 l212 ∧ TO t212 := stp s211.2 c212 s210.1
theorem s213 : LO 174 l213 ∧ TO t213 := stp s212.2 c213 s211.1
theorem s214 : LO 250 l214 ∧ TO t214 := stp s213.2 c214 s212.1
theorem s215 : LO 168 l215 ∧ TO t215 := stp s214.2 c215 s200.1
theorem s216 : LO 96 l216 ∧ TO t216 := stp s215.2 c216 s201.1
theorem s217 : LO 48 l217 ∧ TO t217 := stp s216.2 c217 s202.1
theorem s218 : LO 50 l218 ∧ TO t218 := stp s217.2 c218 s204.1
theorem s219 : LO 174 l219 ∧ TO t219 := stp s218.2 c219 s213.1
theorem s220 : LO 174 l220 ∧ TO t220 := stp s219.2 c220 s219.1
theorem s221 : LO 174 l221 ∧ TO t221 := stp s220.2 c221 s220.1
theorem s222 : LO 175 l222 ∧ TO t222 := stp s221.2 c222 s205.1
theorem s223 : LO 159 l223 ∧ TO t223 := stp s222.2 c223 s208.1
theorem s224 : LO 159 l224 ∧ TO t224 := stp s223.2 c224 s223.1
theorem s225 : LO 159 l225 ∧ TO t225 := stp s224.2 c225 s224.1
theorem s226 : LO 174 l226 ∧ TO t226 := stp s225.2 c226 s221.1
theorem s227 : LO 250 l227 ∧ TO t227 := stp s226.2 c227 s214.1
theorem s228 : LO 174 l228 ∧ TO t228 := stp s227.2 c228 s226.1
theorem s229 : LO 250 l229 ∧ TO t229 := stp s228.2 c229 s227.1
theorem s230 : LO 174 l230 ∧ TO t230 := stp s229.2 c230 s228.1
theorem s231 : LO 250 l231 ∧ TO t231 := stp s230.2 c231 s229.1
theorem s232 : LO 168 l232 ∧ TO t232 := stp s231.2 c232 s215.1
theorem s233 : LO 96 l233 ∧ TO t233 := stp s232.2 c233 s216.1
theorem s234 : LO 48 l234 ∧ TO t234 := stp s233.2 c234 s217.1
theorem s235 : LO 50 l235 ∧ TO t235 := stp s234.2 c235 s218.1
theorem s236 : LO 7 l236 ∧ TO t236 := stp s235.2 c236 s138.1
theorem s237 : LO 4 l237 ∧ TO t237 := stp s236.2 c237 (LO0 4)
theorem s238 : (∀ B, XOk Tryz.prog B 4 zkg) ∧ TO t238 := zst s237.2 c238
end Fs
theorem zsj (B : Nat) : XOk Tryz.prog B 4 zkg := Fs.s238.1 B
namespace Fs
end Fs
end HS
open Go Go.Ev Go.Proofs Go.RowKit
namespace HS
set_option maxRecDepth 1000000
noncomputable def tabZ : List (Nat × XFn) := (4, zkg) :: tab0
theorem tabZ_ok (B : Nat) : ∀ p ∈ tabZ, XOk Tryz.prog B p.1 p.2 := zme (zsj B) (zvx B)
noncomputable def lookZ : Lk := lk tabZ
theorem zjg1 : LOk lookZ Tryz.prog := lk_ok tabZ
theorem zlb1 (B : Nat) : ExtOk lookZ Tryz.prog B := zmr (tabZ_ok B)
theorem lawZ : FnE lookZ 4 [] (hA []) fun r _ => r = .bool true := (ztc1 (show lookZ.ext 4 = some zkg from rfl) rfl).mono fun _ _ h => h.1
end HS
