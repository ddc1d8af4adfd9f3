import Derived.Test.YtojimijiiljdgaaGreatDoorVAAK
import Derived.Test.YtojimijiiljdgaaGreatDoorVAAL
import Derived.Test.YtojimijiiljdgaaGreatDoorVAAM
import Derived.Test.YtojimijiiljdgaaGreatDoorVAAN
import Derived.Test.YtojimijiiljdgaaGreatDoorVAAO
import Derived.Test.YtojimijiiljdgaaGreatDoorVAAP
import Derived.Test.YtojimijiiljdgaaGreatDoorVAAQ
import Derived.Test.YtojimijiiljdgaaGreatDoorVAAR
import Derived.Test.YtojimijiiljdgaaGreatDoorVAAS
import Derived.Test.YtojimijiiljdgaaGreatDoorVAAT
import Derived.Test.YtojimijiiljdgaaGreatDoorVAAU
import Derived.Test.YtojimijiiljdgaaGreatDoorVAAV
import Derived.Test.YtojimijiiljdgaaGreatDoorVAAW
import Derived.Test.YtojimijiiljdgaaGreatDoorVAAX
set_option maxHeartbeats 8000000
set_option linter.unusedSimpArgs false
set_option linter.unusedVariables false
open Go Go.Proofs Go.RowKit
namespace HS
open Go.Ev
set_option maxRecDepth 1000000
namespace Fa
theorem s1 : LO 183 l1 ∧ TO t1 := stp T0_ok c1 (LO0 183)
theorem s2 : LO 183 l2 ∧ TO t2 := stp s1.2 c2 s1.1
theorem s3 : LO 226 l3 ∧ TO t3 := stp s2.2 c3 (LO0 226)
theorem s4 : LO 357 l4 ∧ TO t4 := stp s3.2 c4 (LO0 357)
theorem s5 : LO 357 l5 ∧ TO t5 := stp s4.2 c5 s4.1
theorem s6 : LO 169 l6 ∧ TO t6 := stp s5.2 c6 (LO0 169)
theorem s7 : LO 169 l7 ∧ TO t7 := stp s6.2 c7 s6.1
theorem s8 : LO 333 l8 ∧ TO t8 := stp s7.2 c8 (LO0 333)
theorem s9 : LO 169 l9 ∧ TO t9 := stp s8.2 c9 s7.1
theorem s10 : LO 169 l10 ∧ TO t10 := stp s9.2 c10 s9.1
theorem s11 : LO 259 l11 ∧ TO t11 := stp s10.2 c11 (LO0 259)
theorem s12 : LO 161 l12 ∧ TO t12 := stp s11.2 c12 (LO0 161)
theorem s13 : LO 165 l13 ∧ TO t13 := stp s12.2 c13 (LO0 165)
theorem s14 : LO 161 l14 ∧ TO t14 := stp s13.2 c14 s12.1
theorem s15 : LO 165 l15 ∧ TO t15 := stp s14.2 c15 s13.1
theorem s16 : LO 161 l16 ∧ TO t16 := stp s15.2 c16 s14.1
theorem s17 : LO 165 l17 ∧ TO t17 := stp s16.2 c17 s15.1
theorem s18 : LO 265 l18 ∧ TO t18 := stp s17.2 c18 (LO0 265)
theorem s19 : LO 207 l19 ∧ TO t19 := stp s18.2 c19 (LO0 207)
theorem s20 : LO 226 l20 ∧ TO t20 := stp s19.2 c20 s3.1
theorem s21 : LO 93 l21 ∧ TO t21 := stp s20.2 c21 (LO0 93)
theorem s22 : LO 169 l22 ∧ TO t22 := stp s21.2 c22 s10.1
theorem s23 : LO 169 l23 ∧ TO t23 := stp s22.2 c23 s22.1
theorem s24 : LO 333 l24 ∧ TO t24 := stp s23.2 c24 s8.1
theorem s25 : LO 169 l25 ∧ TO t25 := stp s24.2 c25 s23.1
theorem s26 : LO 169 l26 ∧ TO t26 := stp s25.2 c26 s25.1
theorem s27 : LO 259 l27 ∧ TO t27 := stp s26.2 c27 s11.1
theorem s28 : LO 161 l28 ∧ TO t28 := stp s27.2 c28 s16.1
theorem s29 : LO 165 l29 ∧ TO t29 := stp s28.2 c29 s17.1
theorem s30 : LO 161 l30 ∧ TO t30 := stp s29.2 c30 s28.1
theorem s31 : LO 165 l31 ∧ TO t31 := stp s30.2 c31 s29.1
theorem s32 : LO 161 l32 ∧ TO t32 := stp s31.2 c32 s30.1
theorem s33 : LO 165 l33 ∧ TO t33 := stp s32.2 c33 s31.1
theorem s34 : LO 265 l34 ∧ TO t34 := stp s33.2 c34 s18.1
theorem s35 : LO 207 l35 ∧ TO t35 := stp s34.2 c35 s19.1
theorem s36 : LO 156 l36 ∧ TO t36 := stp s35.2 c36 (LO0 156)
theorem s37 : LO 226 l37 ∧ TO t37 := stp s36.2 c37 s20.1
theorem s38 : LO 158 l38 ∧ TO t38 := stp s37.2 c38 (LO0 158)
theorem s39 : LO 13 l39 ∧ TO t39 := stp s38.2 c39 (LO0 13)
theorem s40 : LO 169 l40 ∧ TO t40 := stp s39.2 c40 s26.1
theorem s41 : LO 169 l41 ∧ TO t41 := stp s40.2 c41 s40.1
theorem s42 : LO 169 l42 ∧ TO t42 := stp s41.2 c42 s41.1
theorem s43 : LO 169 l43 ∧ TO t43 := stp s42.2 c43 s42.1
theorem s44 : LO 58 l44 ∧ TO t44 := stp s43.2 c44 (LO0 58)
theorem s45 : LO 161 l45 ∧ TO t45 := stp s44.2 c45 s32.1
theorem s46 : LO 165 l46 ∧ TO t46 := stp s45.2 c46 s33.1
theorem s47 : LO 161 l47 ∧ TO t47 := stp s46.2 c47 s45.1
theorem s48 : LO 165 l48 ∧ TO t48 := stp s47.2 c48 s46.1
theorem s49 : LO 161 l49 ∧ TO t49 := stp s48.2 c49 s47.1
theorem s50 : LO 165 l50 ∧ TO t50 := stp s49.2 c50 s48.1
theorem s51 : LO 229 l51 ∧ TO t51 := stp s50.2 c51 (LO0 229)
theorem s52 : LO 60 l52 ∧ TO t52 := stp s51.2 c52 (LO0 60)
theorem s53 : LO 169 l53 ∧ TO t53 := stp s52.2 c53 s43.1
theorem s54 : LO 169 l54 ∧ TO t54 := stp s53.2 c54 s53.1
theorem s55 : LO 333 l55 ∧ TO t55 := stp s54.2 c55 s24.1
theorem s56 : LO 169 l56 ∧ TO t56 := stp s55.2 c56 s54.1
theorem s57 : LO 169 l57 ∧ TO t57 := stp s56.2 c57 s56.1
theorem s58 : LO 259 l58 ∧ TO t58 := stp s57.2 c58 s27.1
theorem s59 : LO 161 l59 ∧ TO t59 := stp s58.2 c59 s49.1
theorem s60 : LO 165 l60 ∧ TO t60 := stp s59.2 c60 s50.1
theorem s61 : LO 161 l61 ∧ TO t61 := stp s60.2 c61 s59.1
theorem s62 : LO 165 l62 ∧ TO t62 := stp s61.2 c62 s60.1
theorem s63 : LO 161 l63 ∧ TO t63 := stp s62.2 c63 s61.1
theorem s64 : LO 165 l64 ∧ TO t64 := stp s63.2 c64 s62.1
theorem s65 : LO 161 l65 ∧ TO t65 := stp s64.2 c65 s63.1
theorem s66 : LO 161 l66 ∧ TO t66 := stp s65.2 c66 s65.1
theorem s67 : LO 161 l67 ∧ TO t67 := stp s66.2 c67 s66.1
theorem s68 : LO 144 l68 ∧ TO t68 := stp s67.2 c68 (LO0 144)
theorem s69 : LO 265 l69 ∧ TO t69 := stp s68.2 c69 s34.1
theorem s70 : LO 207 l70 ∧ TO t70 := stp s69.2 c70 s35.1
theorem s71 : LO 226 l71 ∧ TO t71 := stp s70.2 c71 s37.1
theorem s72 : LO 158 l72 ∧ TO t72 := stp s71.2 c72 s38.1
theorem s73 : LO 93 l73 ∧ TO t73 := stp s72.2 c73 s21.1
theorem s74 : LO 204 l74 ∧ TO t74 := stp s73.2 c74 (LO0 204)
theorem s75 : LO 169 l75 ∧ TO t75 := stp s74.2 c75 s57.1
theorem s76 : LO 169 l76 ∧ TO t76 := stp s75.2 c76 s75.1
theorem s77 : LO 333 l77 ∧ TO t77 := stp s76.2 c77 s55.1
theorem s78 : LO 169 l78 ∧ TO t78 := stp s77.2 c78 s76.1
theorem s79 : LO 169 l79 ∧ TO t79 := stp s78.2 c79 s78.1
theorem s80 : LO 259 l80 ∧ TO t80 := stp s79.2 c80 s58.1
theorem s81 : LO 161 l81 ∧ TO t81 := stp s80.2 c81 s67.1
theorem s82 : LO 165 l82 ∧ TO t82 := stp s81.2 c82 s64.1
theorem s83 : LO 161 l83 ∧ TO t83 := stp s82.2 c83 s81.1
theorem s84 : LO 165 l84 ∧ TO t84 := stp s83.2 c84 s82.1
theorem s85 : LO 161 l85 ∧ TO t85 := stp s84.2 c85 s83.1
theorem s86 : LO 165 l86 ∧ TO t86 := stp s85.2 c86 s84.1
theorem s87 : LO 161 l87 ∧ TO t87 := stp s86.2 c87 s85.1
theorem s88 : LO 161 l88 ∧ TO t88 := stp s87.2 c88 s87.1
theorem s89 : LO 161 l89 ∧ TO t89 := stp s88.2 c89 s88.1
theorem s90 : LO 144 l90 ∧ TO t90 := stp s89.2 c90 s68.1
theorem s91 : LO 265 l91 ∧ TO t91 := stp s90.2 c91 s69.1
theorem s92 : LO 207 l92 ∧ TO t92 := stp s91.2 c92 s70.1
theorem s93 : LO 226 l93 ∧ TO t93 := stp s92.2 c93 s71.1
theorem s94 : LO 158 l94 ∧ TO t94 := stp s93.2 c94 s72.1
theorem s95 : LO 31 l95 ∧ TO t95 := stp s94.2 c95 (LO0 31)
theorem s96 : LO 161 l96 ∧ TO t96 := stp s95.2 c96 s89.1
theorem s97 : LO 161 l97 ∧ TO t97 := stp s96.2 c97 s96.1
theorem s98 : LO 161 l98 ∧ TO t98 := stp s97.2 c98 s97.1
theorem s99 : LO 169 l99 ∧ TO t99 := stp s98.2 c99 s79.1
theorem s100 : LO 169 l100 ∧ TO t100 := stp s99.2 c100 s99.1
theorem s101 : LO 169 l101 ∧ TO t101 := stp s100.2 c101 s100.1
theorem s102 : LO 169 l102 ∧ TO t102 := stp s101.2 c102 s101.1
theorem s103 : LO 58 l103 ∧ TO t103 := stp s102.2 c103 s44.1
theorem s104 : LO 161 l104 ∧ TO t104 := stp s103.2 c104 s98.1
theorem s105 : LO 161 l105 ∧ TO t105 := stp s104.2 c105 s104.1
theorem s106 : LO 161 l106 ∧ TO t106 := stp s105.2 c106 s105.1
theorem s107 : LO 161 l107 ∧ TO t107 := stp s106.2 c107 s106.1
theorem s108 : LO 165 l108 ∧ TO t108 := stp s107.2 c108 s86.1
theorem s109 : LO 161 l109 ∧ TO t109 := stp s108.2 c109 s107.1
theorem s110 : LO 165 l110 ∧ TO t110 := stp s109.2 c110 s108.1
theorem s111 : LO 161 l111 ∧ TO t111 := stp s110.2 c111 s109.1
theorem s112 : LO 165 l112 ∧ TO t112 := stp s111.2 c112 s110.1
theorem s113 : LO 229 l113 ∧ TO t113 := stp s112.2 c113 s51.1
theorem s114 : LO 60 l114 ∧ TO t114 := stp s113.2 c114 s52.1
theorem s115 : LO 204 l115 ∧ TO t115 := stp s114.2 c115 s74.1
theorem s116 : LO 169 l116 ∧ TO t116 := stp s115.2 c116 s102.1
theorem s117 : LO 169 l117 ∧ TO t117 := stp s116.2 c117 s116.1
theorem s118 : LO 333 l118 ∧ TO t118 := stp s117.2 c118 s77.1
theorem s119 : LO 169 l119 ∧ TO t119 := stp s118.2 c119 s117.1
theorem s120 : LO 169 l120 ∧ TO t120 := stp s119.2 c120 s119.1
theorem s121 : LO 259 l121 ∧ TO t121 := stp s120.2 c121 s80.1
theorem s122 : LO 161 l122 ∧ TO t122 := stp s121.2 c122 s111.1
theorem s123 : LO 165 l123 ∧ TO t123 := stp s122.2 c123 s112.1
theorem s124 : LO 161 l124 ∧ TO t124 := stp s123.2 c124 s122.1
theorem s125 : LO 165 l125 ∧ TO t125 := stp s124.2 c125 s123.1
theorem s126 : LO 161 l126 ∧ TO t126 := stp s125.2 c126 s124.1
theorem s127 : LO 165 l127 ∧ TO t127 := stp s126.2 c127 s125.1
theorem s128 : LO 161 l128 ∧ TO t128 := stp s127.2 c128 s126.1
theorem s129 : LO 161 l129 ∧ TO t129 := stp s128.2 c129 s128.1
theorem s130 : LO 161 l130 ∧ TO t130 := stp s129.2 c130 s129.1
theorem s131 : LO 161 l131 ∧ TO t131 := stp s130.2 c131 s130.1
theorem s132 : LO 161 l132 ∧ TO t132 := stp s131.2 c132 s131.1
theorem s133 : LO 161 l133 ∧ TO t133 := stp s132.2 c133 s132.1
theorem s134 : LO 144 l134 ∧ TO t134 := stp s133.2 c134 s90.1
theorem s135 : LO 265 l135 ∧ TO t135 := stp s134.2 c135 s91.1
theorem s136 : LO 207 l136 ∧ TO t136 := stp s135.2 c136 s92.1
theorem s137 : LO 226 l137 ∧ TO t137 := stp s136.2 c137 s93.1
theorem s138 : LO 172 l138 ∧ TO t138 := stp s137.2 c138 (LO0 172)
theorem s139 : LO 158 l139 ∧ TO t139 := stp s138.2 c139 s94.1
theorem s140 : LO 55 l140 ∧ TO t140 := stp s139.2 c140 (LO0 55)
theorem s141 : LO 4 l141 ∧ TO t141 := stp s140.2 c141 (LO0 4)
theorem s142 : LO 161 l142 ∧ TO t142 := stp s141.2 c142 s133.1
theorem s143 : LO 161 l143 ∧ TO t143 := stp s142.2 c143 s142.1
theorem s144 : LO 161 l144 ∧ TO t144 := stp s143.2 c144 s143.1
theorem s145 : LO 161 l145 ∧ TO t145 := stp s144.2 c145 s144.1
theorem s146 : LO 161 l146 ∧ TO t146 := stp s145.2 c146 s145.1
theorem s147 : LO 161 l147 ∧ TO t147 := stp s146.2 c147 s146.1
theorem s148 : LO 11 l148 ∧ TO t148 := stp s147.2 c148 (LO0 11)
theorem s149 : LO 161 l149 ∧ TO t149 := stp s148.2 c149 s147.1
theorem s150 : LO 161 l150 ∧ TO t150 := stp s149.2 c150 s149.1
theorem s151 : LO 161 l151 ∧ TO t151 := stp s150.2 c151 s150.1
theorem s152 : LO 144 l152 ∧ TO t152 := stp s151.2 c152 s134.1
theorem s153 : LO 5 l153 ∧ TO t153 := stp s152.2 c153 (LO0 5)
theorem s154 : (∀ B, XOk Tryz.prog B 14 zqi) ∧ TO t154 := zst s153.2 c154
end Fa
namespace Fa
end Fa
end HS
