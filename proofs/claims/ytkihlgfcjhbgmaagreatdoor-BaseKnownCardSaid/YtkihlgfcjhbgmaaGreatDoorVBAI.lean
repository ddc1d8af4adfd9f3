import Derived.Test.YtkihlgfcjhbgmaaGreatDoorVBAB
import Derived.Test.YtkihlgfcjhbgmaaGreatDoorVBAC
import Derived.Test.YtkihlgfcjhbgmaaGreatDoorVBAD
import Derived.Test.YtkihlgfcjhbgmaaGreatDoorVBAE
import Derived.Test.YtkihlgfcjhbgmaaGreatDoorVBAF
import Derived.Test.YtkihlgfcjhbgmaaGreatDoorVBAG
import Derived.Test.YtkihlgfcjhbgmaaGreatDoorVBAH
set_option maxHeartbeats 8000000
set_option linter.unusedSimpArgs false
set_option linter.unusedVariables false
open Go Go.Proofs Go.RowKit
namespace HS
open Go.Ev
set_option maxRecDepth 1000000
namespace Fb
theorem s1 : LO 239 l1 ∧ TO t1 := stp T0_ok c1 (LO0 239)
theorem s2 : LO 239 l2 ∧ TO t2 := stp s1.2 c2 s1.1
theorem s3 : LO 527 l3 ∧ TO t3 := stp s2.2 c3 (LO0 527)
theorem s4 : LO 417 l4 ∧ TO t4 := stp s3.2 c4 (LO0 417)
theorem s5 : LO 417 l5 ∧ TO t5 := stp s4.2 c5 s4.1
theorem s6 : LO 480 l6 ∧ TO t6 := stp s5.2 c6 (LO0 480)
theorem s7 : LO 480 l7 ∧ TO t7 := stp s6.2 c7 s6.1
theorem s8 : LO 594 l8 ∧ TO t8 := stp s7.2 c8 (LO0 594)
theorem s9 : LO 480 l9 ∧ TO t9 := stp s8.2 c9 s7.1
theorem s10 : LO 480 l10 ∧ TO t10 := stp s9.2 c10 s9.1
theorem s11 : LO 536 l11 ∧ TO t11 := stp s10.2 c11 (LO0 536)
theorem s12 : LO 425 l12 ∧ TO t12 := stp s11.2 c12 (LO0 425)
theorem s13 : LO 143 l13 ∧ TO t13 := stp s12.2 c13 (LO0 143)
theorem s14 : LO 425 l14 ∧ TO t14 := stp s13.2 c14 s12.1
theorem s15 : LO 143 l15 ∧ TO t15 := stp s14.2 c15 s13.1
theorem s16 : LO 425 l16 ∧ TO t16 := stp s15.2 c16 s14.1
theorem s17 : LO 143 l17 ∧ TO t17 := stp s16.2 c17 s15.1
theorem s18 : LO 540 l18 ∧ TO t18 := stp s17.2 c18 (LO0 540)
theorem s19 : LO 416 l19 ∧ TO t19 := stp s18.2 c19 (LO0 416)
theorem s20 : LO 527 l20 ∧ TO t20 := stp s19.2 c20 s3.1
theorem s21 : LO 118 l21 ∧ TO t21 := stp s20.2 c21 (LO0 118)
theorem s22 : LO 480 l22 ∧ TO t22 := stp s21.2 c22 s10.1
theorem s23 : LO 480 l23 ∧ TO t23 := stp s22.2 c23 s22.1
theorem s24 : LO 594 l24 ∧ TO t24 := stp s23.2 c24 s8.1
theorem s25 : LO 480 l25 ∧ TO t25 := stp s24.2 c25 s23.1
theorem s26 : LO 480 l26 ∧ TO t26 := stp s25.2 c26 s25.1
theorem s27 : LO 536 l27 ∧ TO t27 := stp s26.2 c27 s11.1
theorem s28 : LO 425 l28 ∧ TO t28 := stp s27.2 c28 s16.1
theorem s29 : LO 143 l29 ∧ TO t29 := stp s28.2 c29 s17.1
theorem s30 : LO 425 l30 ∧ TO t30 := stp s29.2 c30 s28.1
theorem s31 : LO 143 l31 ∧ TO t31 := stp s30.2 c31 s29.1
theorem s32 : LO 425 l32 ∧ TO t32 := stp s31.2 c32 s30.1
theorem s33 : LO 143 l33 ∧ TO t33 := stp s32.2 c33 s31.1
theorem s34 : LO 540 l34 ∧ TO t34 := stp s33.2 c34 s18.1
theorem s35 : LO 416 l35 ∧ TO t35 := stp s34.2 c35 s19.1
theorem s36 : LO 244 l36 ∧ TO t36 := stp s35.2 c36 (LO0 244)
theorem s37 : LO 527 l37 ∧ TO t37 := stp s36.2 c37 s20.1
theorem s38 : LO 124 l38 ∧ TO t38 := stp s37.2 c38 (LO0 124)
theorem s39 : LO 9 l39 ∧ TO t39 := stp s38.2 c39 (LO0 9)
theorem s40 : LO 480 l40 ∧ TO t40 := stp s39.2 c40 s26.1
theorem s41 : LO 480 l41 ∧ TO t41 := stp s40.2 c41 s40.1
theorem s42 : LO 480 l42 ∧ TO t42 := stp s41.2 c42 s41.1
theorem s43 : LO 480 l43 ∧ TO t43 := stp s42.2 c43 s42.1
theorem s44 : LO 195 l44 ∧ TO t44 := stp s43.2 c44 (LO0 195)
theorem s45 : LO 425 l45 ∧ TO t45 := stp s44.2 c45 s32.1
theorem s46 : LO 143 l46 ∧ TO t46 := stp s45.2 c46 s33.1
theorem s47 : LO 425 l47 ∧ TO t47 := stp s46.2 c47 s45.1
theorem s48 : LO 143 l48 ∧ TO t48 := stp s47.2 c48 s46.1
theorem s49 : LO 425 l49 ∧ TO t49 := stp s48.2 c49 s47.1
theorem s50 : LO 143 l50 ∧ TO t50 := stp s49.2 c50 s48.1
theorem s51 : LO 502 l51 ∧ TO t51 := stp s50.2 c51 (LO0 502)
theorem s52 : LO 197 l52 ∧ TO t52 := stp s51.2 c52 (LO0 197)
theorem s53 : LO 480 l53 ∧ TO t53 := stp s52.2 c53 s43.1
theorem s54 : LO 480 l54 ∧ TO t54 := stp s53.2 c54 s53.1
theorem s55 : LO 594 l55 ∧ TO t55 := stp s54.2 c55 s24.1
theorem s56 : LO 480 l56 ∧ TO t56 := stp s55.2 c56 s54.1
theorem s57 : LO 480 l57 ∧ TO t57 := stp s56.2 c57 s56.1
theorem s58 : LO 536 l58 ∧ TO t58 := stp s57.2 c58 s27.1
theorem s59 : LO 425 l59 ∧ TO t59 := stp s58.2 c59 s49.1
theorem s60 : LO 143 l60 ∧ TO t60 := stp s59.2 c60 s50.1
theorem s61 : LO 425 l61 ∧ TO t61 := stp s60.2 c61 s59.1
theorem s62 : LO 143 l62 ∧ TO t62 := stp s61.2 c62 s60.1
theorem s63 : LO 425 l63 ∧ TO t63 := stp s62.2 c63 s61.1
theorem s64 : LO 143 l64 ∧ TO t64 := stp s63.2 c64 s62.1
theorem s65 : LO 425 l65 ∧ TO t65 := stp s64.2 c65 s63.1
theorem s66 : LO 425 l66 ∧ TO t66 := stp s65.2 c66 s65.1
theorem s67 : LO 425 l67 ∧ TO t67 := stp s66.2 c67 s66.1
theorem s68 : LO 123 l68 ∧ TO t68 := stp s67.2 c68 (LO0 123)
theorem s69 : LO 540 l69 ∧ TO t69 := stp s68.2 c69 s34.1
theorem s70 : LO 416 l70 ∧ TO t70 := stp s69.2 c70 s35.1
theorem s71 : LO 527 l71 ∧ TO t71 := stp s70.2 c71 s37.1
theorem s72 : LO 124 l72 ∧ TO t72 := stp s71.2 c72 s38.1
theorem s73 : LO 118 l73 ∧ TO t73 := stp s72.2 c73 s21.1
theorem s74 : LO 9 l74 ∧ TO t74 := stp s73.2 c74 s39.1
theorem s75 : LO 425 l75 ∧ TO t75 := stp s74.2 c75 s67.1
theorem s76 : LO 425 l76 ∧ TO t76 := stp s75.2 c76 s75.1
theorem s77 : LO 425 l77 ∧ TO t77 := stp s76.2 c77 s76.1
theorem s78 : LO 425 l78 ∧ TO t78 := stp s77.2 c78 s77.1
theorem s79 : LO 11 l79 ∧ TO t79 := stp s78.2 c79 (LO0 11)
theorem s80 : (∀ B, XOk Tryz.prog B 11 zxg) ∧ TO t80 := zst s79.2 c80
end Fb
theorem znv (B : Nat) : XOk Tryz.prog B 11 zxg := Fb.s80.1 B
namespace Fb
end Fb
end HS
