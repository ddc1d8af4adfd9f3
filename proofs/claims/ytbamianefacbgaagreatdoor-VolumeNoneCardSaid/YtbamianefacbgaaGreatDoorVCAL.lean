import Derived.Test.YtbamianefacbgaaGreatDoorVCAC
import Derived.Test.YtbamianefacbgaaGreatDoorVCAD
import Derived.Test.YtbamianefacbgaaGreatDoorVCAE
import Derived.Test.YtbamianefacbgaaGreatDoorVCAF
import Derived.Test.YtbamianefacbgaaGreatDoorVCAG
import Derived.Test.YtbamianefacbgaaGreatDoorVCAH
import Derived.Test.YtbamianefacbgaaGreatDoorVCAI
import Derived.Test.YtbamianefacbgaaGreatDoorVCAJ
import Derived.Test.YtbamianefacbgaaGreatDoorVCAK
set_option maxHeartbeats 8000000
set_option linter.unusedSimpArgs false
set_option linter.unusedVariables false
open Go Go.Proofs Go.RowKit
namespace HS
open Go.Ev
set_option maxRecDepth 1000000
namespace Fv
theorem s1 : LO 155 l1 ∧ TO t1 := stp T0_ok c1 (LO0 155)
theorem s2 : LO 155 l2 ∧ TO t2 := stp s1.2 c2 s1.1
theorem s3 : LO 292 l3 ∧ TO t3 := stp s2.2 c3 (LO0 292)
theorem s4 : LO 171 l4 ∧ TO t4 := stp s3.2 c4 (LO0 171)
theorem s5 : LO 171 l5 ∧ TO t5 := stp s4.2 c5 s4.1
theorem s6 : LO 185 l6 ∧ TO t6 := stp s5.2 c6 (LO0 185)
theorem s7 : LO 185 l7 ∧ TO t7 := stp s6.2 c7 s6.1
theorem s8 : LO 275 l8 ∧ TO t8 := stp s7.2 c8 (LO0 275)
theorem s9 : LO 185 l9 ∧ TO t9 := stp s8.2 c9 s7.1
theorem s10 : LO 185 l10 ∧ TO t10 := stp s9.2 c10 s9.1
theorem s11 : LO 214 l11 ∧ TO t11 := stp s10.2 c11 (LO0 214)
theorem s12 : LO 179 l12 ∧ TO t12 := stp s11.2 c12 (LO0 179)
theorem s13 : LO 191 l13 ∧ TO t13 := stp s12.2 c13 (LO0 191)
theorem s14 : LO 179 l14 ∧ TO t14 := stp s13.2 c14 s12.1
theorem s15 : LO 191 l15 ∧ TO t15 := stp s14.2 c15 s13.1
theorem s16 : LO 179 l16 ∧ TO t16 := stp s15.2 c16 s14.1
theorem s17 : LO 191 l17 ∧ TO t17 := stp s16.2 c17 s15.1
theorem s18 : LO 223 l18 ∧ TO t18 := stp s17.2 c18 (LO0 223)
theorem s19 : LO 136 l19 ∧ TO t19 := stp s18.2 c19 (LO0 136)
theorem s20 : LO 292 l20 ∧ TO t20 := stp s19.2 c20 s3.1
theorem s21 : LO 21 l21 ∧ TO t21 := stp s20.2 c21 (LO0 21)
theorem s22 : LO 132 l22 ∧ TO t22 := stp s21.2 c22 (LO0 132)
theorem s23 : LO 185 l23 ∧ TO t23 := stp s22.2 c23 s10.1
theorem s24 : LO 185 l24 ∧ TO t24 := stp s23.2 c24 s23.1
theorem s25 : LO 275 l25 ∧ TO t25 := stp s24.2 c25 s8.1
theorem s26 : LO 185 l26 ∧ TO t26 := stp s25.2 c26 s24.1
theorem s27 : LO 185 l27 ∧ TO t27 := stp s26.2 c27 s26.1
theorem s28 : LO 214 l28 ∧ TO t28 := stp s27.2 c28 s11.1
theorem s29 : LO 179 l29 ∧ TO t29 := stp s28.2 c29 s16.1
theorem s30 : LO 191 l30 ∧ TO t30 := stp s29.2 c30 s17.1
theorem s31 : LO 179 l31 ∧ TO t31 := stp s30.2 c31 s29.1
theorem s32 : LO 191 l32 ∧ TO t32 := stp s31.2 c32 s30.1
theorem s33 : LO 179 l33 ∧ TO t33 := stp s32.2 c33 s31.1
theorem s34 : LO 191 l34 ∧ TO t34 := stp s33.2 c34 s32.1
theorem s35 : LO 223 l35 ∧ TO t35 := stp s34.2 c35 s18.1
theorem s36 : LO 136 l36 ∧ TO t36 := stp s35.2 c36 s19.1
theorem s37 : LO 292 l37 ∧ TO t37 := stp s36.2 c37 s20.1
theorem s38 : LO 65 l38 ∧ TO t38 := stp s37.2 c38 (LO0 65)
theorem s39 : LO 21 l39 ∧ TO t39 := stp s38.2 c39 s21.1
theorem s40 : LO 14 l40 ∧ TO t40 := stp s39.2 c40 (LO0 14)
theorem s41 : LO 17 l41 ∧ TO t41 := stp s40.2 c41 (LO0 17)
theorem s42 : LO 185 l42 ∧ TO t42 := stp s41.2 c42 s27.1
theorem s43 : LO 185 l43 ∧ TO t43 := stp s42.2 c43 s42.1
theorem s44 : LO 185 l44 ∧ TO t44 := stp s43.2 c44 s43.1
theorem s45 : LO 185 l45 ∧ TO t45 := stp s44.2 c45 s44.1
theorem s46 : LO 43 l46 ∧ TO t46 := stp s45.2 c46 (LO0 43)
theorem s47 : LO 179 l47 ∧ TO t47 := stp s46.2 c47 s33.1
theorem s48 : LO 191 l48 ∧ TO t48 := stp s47.2 c48 s34.1
theorem s49 : LO 179 l49 ∧ TO t49 := stp s48.2 c49 s47.1
theorem s50 : LO 191 l50 ∧ TO t50 := stp s49.2 c50 s48.1
theorem s51 : LO 179 l51 ∧ TO t51 := stp s50.2 c51 s49.1
theorem s52 : LO 191 l52 ∧ TO t52 := stp s51.2 c52 s50.1
theorem s53 : LO 185 l53 ∧ TO t53 := stp s52.2 c53 s45.1
theorem s54 : LO 185 l54 ∧ TO t54 := stp s53.2 c54 s53.1
theorem s55 : LO 185 l55 ∧ TO t55 := stp s54.2 c55 s54.1
theorem s56 : LO 185 l56 ∧ TO t56 := stp s55.2 c56 s55.1
theorem s57 : LO 43 l57 ∧ TO t57 := stp s56.2 c57 s46.1
theorem s58 : LO 179 l58 ∧ TO t58 := stp s57.2 c58 s51.1
theorem s59 : LO 191 l59 ∧ TO t59 := stp s58.2 c59 s52.1
theorem s60 : LO 179 l60 ∧ TO t60 := stp s59.2 c60 s58.1
theorem s61 : LO 191 l61 ∧ TO t61 := stp s60.2 c61 s59.1
theorem s62 : LO 179 l62 ∧ TO t62 := stp s61.2 c62 s60.1
theorem s63 : LO 191 l63 ∧ TO t63 := stp s62.2 c63 s61.1
theorem s64 : LO 261 l64 ∧ TO t64 := stp s63.2 c64 (LO0 261)
theorem s65 : LO 45 l65 ∧ TO t65 := stp s64.2 c65 (LO0 45)
theorem s66 : LO 132 l66 ∧ TO t66 := stp s65.2 c66 s22.1
theorem s67 : LO 185 l67 ∧ TO t67 := stp s66.2 c67 s56.1
theorem s68 : LO 185 l68 ∧ TO t68 := stp s67.2 c68 s67.1
theorem s69 : LO 275 l69 ∧ TO t69 := stp s68.2 c69 s25.1
theorem s70 : LO 185 l70 ∧ TO t70 := stp s69.2 c70 s68.1
theorem s71 : LO 185 l71 ∧ TO t71 := stp s70.2 c71 s70.1
theorem s72 : LO 214 l72 ∧ TO t72 := stp s71.2 c72 s28.1
theorem s73 : LO 179 l73 ∧ TO t73 := stp s72.2 c73 s62.1
theorem s74 : LO 191 l74 ∧ TO t74 := stp s73.2 c74 s63.1
theorem s75 : LO 179 l75 ∧ TO t75 := stp s74.2 c75 s73.1
theorem s76 : LO 191 l76 ∧ TO t76 := stp s75.2 c76 s74.1
theorem s77 : LO 179 l77 ∧ TO t77 := stp s76.2 c77 s75.1
theorem s78 : LO 191 l78 ∧ TO t78 := stp s77.2 c78 s76.1
theorem s79 : LO 179 l79 ∧ TO t79 := stp s78.2 c79 s77.1
theorem s80 : LO 179 l80 ∧ TO t80 := stp s79.2 c80 s79.1
theorem s81 : LO 179 l81 ∧ TO t81 := stp s80.2 c81 s80.1
theorem s82 : LO 134 l82 ∧ TO t82 := stp s81.2 c82 (LO0 134)
theorem s83 : LO 285 l83 ∧ TO t83 := stp s82.2 c83 (LO0 285)
theorem s84 : LO 223 l84 ∧ TO t84 := stp s83.2 c84 s35.1
theorem s85 : LO 136 l85 ∧ TO t85 := stp s84.2 c85 s36.1
theorem s86 : LO 292 l86 ∧ TO t86 := stp s85.2 c86 s37.1
theorem s87 : LO 225 l87 ∧ TO t87 := stp s86.2 c87 (LO0 225)
theorem s88 : LO 21 l88 ∧ TO t88 := stp s87.2 c88 s39.1
theorem s89 : LO 12 l89 ∧ TO t89 := stp s88.2 c89 (LO0 12)
theorem s90 : LO 179 l90 ∧ TO t90 := stp s89.2 c90 s81.1
theorem s91 : LO 179 l91 ∧ TO t91 := stp s90.2 c91 s90.1
theorem s92 : LO 179 l92 ∧ TO t92 := stp s91.2 c92 s91.1
theorem s93 : LO 179 l93 ∧ TO t93 := stp s92.2 c93 s92.1
theorem s94 : LO 179 l94 ∧ TO t94 := stp s93.2 c94 s93.1
theorem s95 : LO 17 l95 ∧ TO t95 := stp s94.2 c95 s41.1
theorem s96 : LO 17 l96 ∧ TO t96 := stp s95.2 c96 s95.1
theorem s97 : LO 17 l97 ∧ TO t97 := stp s96.2 c97 s96.1
theorem s98 : LO 8 l98 ∧ TO t98 := stp s97.2 c98 (LO0 8)
theorem s99 : (∀ B, XOk Tryz.prog B 8 zed) ∧ TO t99 := zst s98.2 c99
end Fv
theorem zyu (B : Nat) : XOk Tryz.prog B 8 zed := Fv.s99.1 B
namespace Fv
end Fv
end HS
