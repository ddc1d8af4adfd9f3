import Derived.Test.YtbamianefacbgaaGreatDoorVFAA
import Derived.Test.YtbamianefacbgaaGreatDoorVFAB
import Derived.Test.YtbamianefacbgaaGreatDoorVFAC
import Derived.Test.YtbamianefacbgaaGreatDoorVFAD
import Derived.Test.YtbamianefacbgaaGreatDoorVFAE
import Derived.Test.YtbamianefacbgaaGreatDoorVFAF
import Derived.Test.YtbamianefacbgaaGreatDoorVFAG
import Derived.Test.YtbamianefacbgaaGreatDoorVFAH
import Derived.Test.YtbamianefacbgaaGreatDoorVFAI
import Derived.Test.YtbamianefacbgaaGreatDoorVFAJ
import Derived.Test.YtbamianefacbgaaGreatDoorVFAK
import Derived.Test.YtbamianefacbgaaGreatDoorVFAL
import Derived.Test.YtbamianefacbgaaGreatDoorVFAM
import Derived.Test.YtbamianefacbgaaGreatDoorVCAL
import Derived.Test.YtbamianefacbgaaGreatDoorVAAF
set_option maxHeartbeats 8000000
set_option linter.unusedSimpArgs false
set_option linter.unusedVariables false
open Go Go.Proofs Go.RowKit
namespace HS
open Go.Ev
set_option maxRecDepth 1000000
namespace Fv
theorem s100 : LO 40 l100 ∧ TO t100 := stp s99.2 c100 (LO0 40)
theorem s101 : LO 185 l101 ∧ TO t101 := stp s100.2 c101 s71.1
theorem s102 : LO 185 l102 ∧ TO t102 := stp s101.2 c102 s101.1
theorem s103 : LO 105 l103 ∧ TO t103 := stp s102.2 c103 (LO0 105)
theorem s104 : LO 185 l104 ∧ TO t104 := stp s103.2 c104 s102.1
theorem s105 : LO 132 l105 ∧ TO t105 := stp s104.2 c105 s66.1
theorem s106 : LO 185 l106 ∧ TO t106 := stp s105.2 c106 s104.1
theorem s107 : LO 185 l107 ∧ TO t107 := stp s106.2 c107 s106.1
theorem s108 : LO 275 l108 ∧ TO t108 := stp s107.2 c108 s69.1
theorem s109 : LO 185 l109 ∧ TO t109 := stp s108.2 c109 s107.1
theorem s110 : LO 185 l110 ∧ TO t110 := stp s109.2 c110 s109.1
theorem s111 : LO 214 l111 ∧ TO t111 := stp s110.2 c111 s72.1
theorem s112 : LO 179 l112 ∧ TO t112 := stp s111.2 c112 s94.1
theorem s113 : LO 191 l113 ∧ TO t113 := stp s112.2 c113 s78.1
theorem s114 : LO 179 l114 ∧ TO t114 := stp s113.2 c114 s112.1
theorem s115 : LO 191 l115 ∧ TO t115 := stp s114.2 c115 s113.1
theorem s116 : LO 179 l116 ∧ TO t116 := stp s115.2 c116 s114.1
theorem s117 : LO 191 l117 ∧ TO t117 := stp s116.2 c117 s115.1
theorem s118 : LO 179 l118 ∧ TO t118 := stp s117.2 c118 s116.1
theorem s119 : LO 191 l119 ∧ TO t119 := stp s118.2 c119 s117.1
theorem s120 : LO 179 l120 ∧ TO t120 := stp s119.2 c120 s118.1
theorem s121 : LO 191 l121 ∧ TO t121 := stp s120.2 c121 s119.1
theorem s122 : LO 179 l122 ∧ TO t122 := stp s121.2 c122 s120.1
theorem s123 : LO 191 l123 ∧ TO t123 := stp s122.2 c123 s121.1
theorem s124 : LO 134 l124 ∧ TO t124 := stp s123.2 c124 s82.1
theorem s125 : LO 223 l125 ∧ TO t125 := stp s124.2 c125 s84.1
theorem s126 : LO 136 l126 ∧ TO t126 := stp s125.2 c126 s85.1
theorem s127 : LO 292 l127 ∧ TO t127 := stp s126.2 c127 s86.1
theorem s128 : LO 225 l128 ∧ TO t128 := stp s127.2 c128 s87.1
theorem s129 : LO 21 l129 ∧ TO t129 := stp s128.2 c129 s88.1
theorem s130 : LO 40 l130 ∧ TO t130 := stp s129.2 c130 s100.1
theorem s131 : LO 179 l131 ∧ TO t131 := stp s130.2 c131 s122.1
theorem s132 : LO 179 l132 ∧ TO t132 := stp s131.2 c132 s131.1
theorem s133 : LO 179 l133 ∧ TO t133 := stp s132.2 c133 s132.1
theorem s134 : LO 17 l134 ∧ TO t134 := stp s133.2 c134 s97.1
theorem s135 : LO 132 l135 ∧ TO t135 := stp s134.2 c135 s105.1
theorem s136 : LO 185 l136 ∧ TO t136 := stp s135.2 c136 s110.1
theorem s137 : LO 185 l137 ∧ TO t137 := stp s136.2 c137 s136.1
theorem s138 : LO 275 l138 ∧ TO t138 := stp s137.2 c138 s108.1
theorem s139 : LO 185 l139 ∧ TO t139 := stp s138.2 c139 s137.1
theorem s140 : LO 185 l140 ∧ TO t140 := stp s139.2 c140 s139.1
theorem s141 : LO 214 l141 ∧ TO t141 := stp s140.2 c141 s111.1
theorem s142 : LO 179 l142 ∧ TO t142 := stp s141.2 c142 s133.1
theorem s143 : LO 191 l143 ∧ TO t143 := stp s142.2 c143 s123.1
theorem s144 : LO 179 l144 ∧ TO t144 := stp s143.2 c144 s142.1
theorem s145 : LO 191 l145 ∧ TO t145 := stp s144.2 c145 s143.1
theorem s146 : LO 179 l146 ∧ TO t146 := stp s145.2 c146 s144.1
theorem s147 : LO 191 l147 ∧ TO t147 := stp s146.2 c147 s145.1
theorem s148 : LO 179 l148 ∧ TO t148 := stp s147.2 c148 s146.1
theorem s149 : LO 179 l149 ∧ TO t149 := stp s148.2 c149 s148.1
theorem s150 : LO 179 l150 ∧ TO t150 := stp s149.2 c150 s149.1
theorem s151 : LO 134 l151 ∧ TO t151 := stp s150.2 c151 s124.1
theorem s152 : LO 223 l152 ∧ TO t152 := stp s151.2 c152 s125.1
theorem s153 : LO 136 l153 ∧ TO t153 := stp s152.2 c153 s126.1
theorem s154 : LO 292 l154 ∧ TO t154 := stp s153.2 c154 s127.1
theorem s155 : LO 65 l155 ∧ TO t155 := stp s154.2 c155 s38.1
theorem s156 : LO 21 l156 ∧ TO t156 := stp s155.2 c156 s129.1
theorem s157 : LO 185 l157 ∧ TO t157 := stp s156.2 c157 s140.1
theorem s158 : LO 185 l158 ∧ TO t158 := stp s157.2 c158 s157.1
theorem s159 : LO 185 l159 ∧ TO t159 := stp s158.2 c159 s158.1
theorem s160 : LO 185 l160 ∧ TO t160 := stp s159.2 c160 s159.1
theorem s161 : LO 43 l161 ∧ TO t161 := stp s160.2 c161 s57.1
theorem s162 : LO 179 l162 ∧ TO t162 := stp s161.2 c162 s150.1
theorem s163 : LO 191 l163 ∧ TO t163 := stp s162.2 c163 s147.1
theorem s164 : LO 179 l164 ∧ TO t164 := stp s163.2 c164 s162.1
theorem s165 : LO 191 l165 ∧ TO t165 := stp s164.2 c165 s163.1
theorem s166 : LO 179 l166 ∧ TO t166 := stp s165.2 c166 s164.1
theorem s167 : LO 191 l167 ∧ TO t167 := stp s166.2 c167 s165.1
theorem s168 : LO 45 l168 ∧ TO t168 := stp s167.2 c168 s65.1
theorem s169 : LO 132 l169 ∧ TO t169 := stp s168.2 c169 s135.1
theorem s170 : LO 185 l170 ∧ TO t170 := stp s169.2 c170 s160.1
theorem s171 : LO 185 l171 ∧ TO t171 := stp s170.2 c171 s170.1
theorem s172 : LO 275 l172 ∧ TO t172 := stp s171.2 c172 s138.1
theorem s173 : LO 185 l173 ∧ TO t173 := stp s172.2 c173 s171.1
theorem s174 : LO 185 l174 ∧ TO t174 := stp s173.2 c174 s173.1
theorem s175 : LO 214 l175 ∧ TO t175 := stp s174.2 c175 s141.1
theorem s176 : LO 179 l176 ∧ TO t176 := stp s175.2 c176 s166.1
theorem s177 : LO 191 l177 ∧ TO t177 := stp s176.2 c177 s167.1
theorem s178 : LO 179 l178 ∧ TO t178 := stp s177.2 c178 s176.1
theorem s179 : LO 191 l179 ∧ TO t179 := stp s178.2 c179 s177.1
theorem s180 : LO 179 l180 ∧ TO t180 := stp s179.2 c180 s178.1
theorem s181 : LO 191 l181 ∧ TO t181 := stp s180.2 c181 s179.1
theorem s182 : LO 179 l182 ∧ TO t182 := stp s181.2 c182 s180.1
theorem s183 : LO 179 l183 ∧ TO t183 := stp s182.2 c183 s182.1
theorem s184 : LO 179 l184 ∧ TO t184 := stp s183.2 c184 s183.1
theorem s185 : LO 179 l185 ∧ TO t185 := stp s184.2 c185 s184.1
theorem s186 : LO 179 l186 ∧ TO t186 := stp s185.2 c186 s185.1
theorem s187 : LO 179 l187 ∧ TO t187 := stp s186.2 c187 s186.1
theorem s188 : LO 134 l188 ∧ TO t188 := stp s187.2 c188 s151.1
theorem s189 : LO 223 l189 ∧ TO t189 := stp s188.2 c189 s152.1
theorem s190 : LO 136 l190 ∧ TO t190 := stp s189.2 c190 s153.1
theorem s191 : LO 292 l191 ∧ TO t191 := stp s190.2 c191 s154.1
theorem s192 : LO 225 l192 ∧ TO t192 := stp s191.2 c192 s128.1
theorem s193 : LO 65 l193 ∧ TO t193 := stp s192.2 c193 s155.1
theorem s194 : LO 21 l194 ∧ TO t194 := stp s193.2 c194 s156.1
theorem s195 : LO 12 l195 ∧ TO t195 := stp s194.2 c195 s89.1
theorem s196 : LO 179 l196 ∧ TO t196 := stp s195.2 c196 s187.1
theorem s197 : LO 179 l197 ∧ TO t197 := stp s196.2 c197 s196.1
theorem s198 : LO 179 l198 ∧ TO t198 := stp s197.2 c198 s197.1
theorem s199 : LO 185 l199 ∧ TO t199 := stp s198.2 c199 s174.1
theorem s200 : LO 185 l200 ∧ TO t200 := stp s199.2 c200 s199.1
theorem s201 : LO 185 l201 ∧ TO t201 := stp s200.2 c201 s200.1
theorem s202 : LO 185 l202 ∧ TO t202 := stp s201.2 c202 s201.1
theorem s203 : LO 43 l203 ∧ TO t203 := stp s202.2 c203 s161.1
theorem s204 : LO 179 l204 ∧ TO t204 := stp s203.2 c204 s198.1
theorem s205 : LO 179 l205 ∧ TO t205 := stp s204.2 c205 s204.1
theorem s206 : LO 179 l206 ∧ TO t206 := stp s205.2 c206 s205.1
theorem s207 : LO 179 l207 ∧ TO t207 := stp s206.2 c207 s206.1
theorem s208 : LO 191 l208 ∧ TO t208 := stp s207.2 c208 s181.1
theorem s209 : LO 179 l209 ∧ TO t209 := stp s208.2 c209 s207.1
theorem s210 : LO 191 l210 ∧ TO t210 := stp s209.2 c210 s208.1
theorem s211 : LO 179 l211 ∧ TO t211 := stp s210.2 c211 s209.1
theorem s212 : LO 191 l212 ∧ TO t212 := stp s211.2 c212 s210.1
theorem s213 : LO 40 l213 ∧ TO t213 := stp s212.2 c213 s130.1
theorem s214 : LO 179 l214 ∧ TO t214 := stp s213.2 c214 s211.1
theorem s215 : LO 179 l215 ∧ TO t215 := stp s214.2 c215 s214.1
theorem s216 : LO 179 l216 ∧ TO t216 := stp s215.2 c216 s215.1
theorem s217 : LO 179 l217 ∧ TO t217 := stp s216.2 c217 s216.1
theorem s218 : LO 185 l218 ∧ TO t218 := stp s217.2 c218 s202.1
theorem s219 : LO 185 l219 ∧ TO t219 := stp s218.2 c219 s218.1
theorem s220 : LO 275 l220 ∧ TO t220 := stp s219.2 c220 s172.1
theorem s221 : LO 185 l221 ∧ TO t221 := stp s220.2 c221 s219.1
theorem s222 : LO 185 l222 ∧ TO t222 := stp s221.2 c222 s221.1
theorem s223 : LO 214 l223 ∧ TO t223 := stp s222.2 c223 s175.1
theorem s224 : LO 179 l224 ∧ TO t224 := stp s223.2 c224 s217.1
theorem s225 : LO 191 l225 ∧ TO t225 := stp s224.2 c225 s212.1
theorem s226 : LO 179 l226 ∧ TO t226 := stp s225.2 c226 s224.1
theorem s227 : LO 191 l227 ∧ TO t227 := stp s226.2 c227 s225.1
theorem s228 : LO 179 l228 ∧ TO t228 := stp s227.2 c228 s226.1
theorem s229 : LO 191 l229 ∧ TO t229 := stp s228.2 c229 s227.1
theorem s230 : LO 179 l230 ∧ TO t230 := stp s229.2 c230 s228.1
theorem s231 : LO 179 l231 ∧ TO t231 := stp s230.2 c231 s230.1
theorem s232 : LO 179 l232 ∧ TO t232 := stp s231.2 c232 s231.1
theorem s233 : LO 134 l233 ∧ TO t233 := stp s232.2 c233 s188.1
theorem s234 : LO 223 l234 ∧ TO t234 := stp s233.2 c234 s189.1
theorem s235 : LO 136 l235 ∧ TO t235 := stp s234.2 c235 s190.1
theorem s236 : LO 21 l236 ∧ TO t236 := stp s235.2 c236 s194.1
theorem s237 : LO 40 l237 ∧ TO t237 := stp s236.2 c237 s213.1
theorem s238 : LO 4 l238 ∧ TO t238 := stp s237.2 c238 (LO0 4)
theorem s239 : (∀ B, XOk Tryz.prog B 4 zed) ∧ TO t239 := zst s238.2 c239
end Fv
theorem zti (B : Nat) : XOk Tryz.prog B 4 zed := Fv.s239.1 B
namespace Fv
end Fv
end HS
open Go Go.Ev Go.Proofs Go.RowKit
namespace HS
set_option maxRecDepth 1000000
noncomputable def tabZ : List (Nat × XFn) := (4, zed) :: tab0
theorem zfp (B : Nat) : ∀ p ∈ tabZ, XOk Tryz.prog B p.1 p.2 := zlb (zti B) (zkk B)
noncomputable def lookZ : Lk := lk tabZ
theorem zlk : LOk lookZ Tryz.prog := lk_ok tabZ
theorem znh (B : Nat) : ExtOk lookZ Tryz.prog B := zfj (zfp B)
theorem lawZ : FnE lookZ 4 [] (hA []) fun r _ => r = .bool true := (zcs (show lookZ.ext 4 = some zed from rfl) rfl).mono fun _ _ h => h.1
end HS
