import Derived.Test.YtgmediofcifhlaaGreatDoorVAAK
import Derived.Test.YtgmediofcifhlaaGreatDoorVAAL
import Derived.Test.YtgmediofcifhlaaGreatDoorVAAM
import Derived.Test.YtgmediofcifhlaaGreatDoorVAAN
import Derived.Test.YtgmediofcifhlaaGreatDoorVAAO
import Derived.Test.YtgmediofcifhlaaGreatDoorVAAP
import Derived.Test.YtgmediofcifhlaaGreatDoorVAAQ
import Derived.Test.YtgmediofcifhlaaGreatDoorVAAR
import Derived.Test.YtgmediofcifhlaaGreatDoorVAAS
import Derived.Test.YtgmediofcifhlaaGreatDoorVAAT
import Derived.Test.YtgmediofcifhlaaGreatDoorVAAU
import Derived.Test.YtgmediofcifhlaaGreatDoorVAAV
import Derived.Test.YtgmediofcifhlaaGreatDoorVAAW
import Derived.Test.YtgmediofcifhlaaGreatDoorVAAX
import Derived.WalkKit
import Derived.ProofKit
import Derived.OpenShut
import Derived.ShutString
import Derived.ChangeOld
import Derived.Below
import Derived.Deep.Slices
import Derived.Deep.Strs
import Derived.Deep.Fields
noncomputable section
set_option maxHeartbeats 8000000
set_option linter.unusedSimpArgs false
set_option linter.unusedVariables false
open Go Go.Proofs Go.RowKit
namespace HS
open Go.Ev
set_option maxRecDepth 1000000
namespace Fq
theorem s1 : LO 240 l1 ∧ TO t1 := stp T0_ok c1 (LO0 240)
theorem s2 : LO 240 l2 ∧ TO t2 := stp s1.2 c2 s1.1
theorem s3 : LO 223 l3 ∧ TO t3 := stp s2.2 c3 (LO0 223)
theorem s4 : LO 343 l4 ∧ TO t4 := stp s3.2 c4 (LO0 343)
theorem s5 : LO 343 l5 ∧ TO t5 := stp s4.2 c5 s4.1
theorem s6 : LO 162 l6 ∧ TO t6 := stp s5.2 c6 (LO0 162)
theorem s7 : LO 162 l7 ∧ TO t7 := stp s6.2 c7 s6.1
theorem s8 : LO 305 l8 ∧ TO t8 := stp s7.2 c8 (LO0 305)
theorem s9 : LO 162 l9 ∧ TO t9 := stp s8.2 c9 s7.1
theorem s10 : LO 162 l10 ∧ TO t10 := stp s9.2 c10 s9.1
theorem s11 : LO 251 l11 ∧ TO t11 := stp s10.2 c11 (LO0 251)
theorem s12 : LO 156 l12 ∧ TO t12 := stp s11.2 c12 (LO0 156)
theorem s13 : LO 157 l13 ∧ TO t13 := stp s12.2 c13 (LO0 157)
theorem s14 : LO 156 l14 ∧ TO t14 := stp s13.2 c14 s12.1
theorem s15 : LO 157 l15 ∧ TO t15 := stp s14.2 c15 s13.1
theorem s16 : LO 156 l16 ∧ TO t16 := stp s15.2 c16 s14.1
theorem s17 : LO 157 l17 ∧ TO t17 := stp s16.2 c17 s15.1
theorem s18 : LO 257 l18 ∧ TO t18 := stp s17.2 c18 (LO0 257)
theorem s19 : LO 199 l19 ∧ TO t19 := stp s18.2 c19 (LO0 199)
theorem s20 : LO 223 l20 ∧ TO t20 := stp s19.2 c20 s3.1
theorem s21 : LO 67 l21 ∧ TO t21 := stp s20.2 c21 (LO0 67)
theorem s22 : LO 162 l22 ∧ TO t22 := stp s21.2 c22 s10.1
theorem s23 : LO 162 l23 ∧ TO t23 := stp s22.2 c23 s22.1
theorem s24 : LO 305 l24 ∧ TO t24 := stp s23.2 c24 s8.1
theorem s25 : LO 162 l25 ∧ TO t25 := stp s24.2 c25 s23.1
theorem s26 : LO 162 l26 ∧ TO t26 := stp s25.2 c26 s25.1
theorem s27 : LO 251 l27 ∧ TO t27 := stp s26.2 c27 s11.1
theorem s28 : LO 156 l28 ∧ TO t28 := stp s27.2 c28 s16.1
theorem s29 : LO 157 l29 ∧ TO t29 := stp s28.2 c29 s17.1
theorem s30 : LO 156 l30 ∧ TO t30 := stp s29.2 c30 s28.1
theorem s31 : LO 157 l31 ∧ TO t31 := stp s30.2 c31 s29.1
theorem s32 : LO 156 l32 ∧ TO t32 := stp s31.2 c32 s30.1
theorem s33 : LO 157 l33 ∧ TO t33 := stp s32.2 c33 s31.1
theorem s34 : LO 257 l34 ∧ TO t34 := stp s33.2 c34 s18.1
theorem s35 : LO 199 l35 ∧ TO t35 := stp s34.2 c35 s19.1
theorem s36 : LO 144 l36 ∧ TO t36 := stp s35.2 c36 (LO0 144)
theorem s37 : LO 223 l37 ∧ TO t37 := stp s36.2 c37 s20.1
theorem s38 : LO 146 l38 ∧ TO t38 := stp s37.2 c38 (LO0 146)
theorem s39 : LO 56 l39 ∧ TO t39 := stp s38.2 c39 (LO0 56)
theorem s40 : LO 162 l40 ∧ TO t40 := stp s39.2 c40 s26.1
theorem s41 : LO 162 l41 ∧ TO t41 := stp s40.2 c41 s40.1
theorem s42 : LO 162 l42 ∧ TO t42 := stp s41.2 c42 s41.1
theorem s43 : LO 162 l43 ∧ TO t43 := stp s42.2 c43 s42.1
theorem s44 : LO 132 l44 ∧ TO t44 := stp s43.2 c44 (LO0 132)
theorem s45 : LO 156 l45 ∧ TO t45 := stp s44.2 c45 s32.1
theorem s46 : LO 157 l46 ∧ TO t46 := stp s45.2 c46 s33.1
theorem s47 : LO 156 l47 ∧ TO t47 := stp s46.2 c47 s45.1
theorem s48 : LO 157 l48 ∧ TO t48 := stp s47.2 c48 s46.1
theorem s49 : LO 156 l49 ∧ TO t49 := stp s48.2 c49 s47.1
theorem s50 : LO 157 l50 ∧ TO t50 := stp s49.2 c50 s48.1
theorem s51 : LO 227 l51 ∧ TO t51 := stp s50.2 c51 (LO0 227)
theorem s52 : LO 134 l52 ∧ TO t52 := stp s51.2 c52 (LO0 134)
theorem s53 : LO 162 l53 ∧ TO t53 := stp s52.2 c53 s43.1
theorem s54 : LO 162 l54 ∧ TO t54 := stp s53.2 c54 s53.1
theorem s55 : LO 305 l55 ∧ TO t55 := stp s54.2 c55 s24.1
theorem s56 : LO 162 l56 ∧ TO t56 := stp s55.2 c56 s54.1
theorem s57 : LO 162 l57 ∧ TO t57 := stp s56.2 c57 s56.1
theorem s58 : LO 251 l58 ∧ TO t58 := stp s57.2 c58 s27.1
theorem s59 : LO 156 l59 ∧ TO t59 := stp s58.2 c59 s49.1
theorem s60 : LO 157 l60 ∧ TO t60 := stp s59.2 c60 s50.1
theorem s61 : LO 156 l61 ∧ TO t61 := stp s60.2 c61 s59.1
theorem s62 : LO 157 l62 ∧ TO t62 := stp s61.2 c62 s60.1
theorem s63 : LO 156 l63 ∧ TO t63 := stp s62.2 c63 s61.1
theorem s64 : LO 157 l64 ∧ TO t64 := stp s63.2 c64 s62.1
theorem s65 : LO 156 l65 ∧ TO t65 := stp s64.2 c65 s63.1
theorem s66 : LO 156 l66 ∧ TO t66 := stp s65.2 c66 s65.1
theorem s67 : LO 156 l67 ∧ TO t67 := stp s66.2 c67 s66.1
theorem s68 : LO 173 l68 ∧ TO t68 := stp s67.2 c68 (LO0 173)
theorem s69 : LO 257 l69 ∧ TO t69 := stp s68.2 c69 s34.1
theorem s70 : LO 199 l70 ∧ TO t70 := stp s69.2 c70 s35.1
theorem s71 : LO 223 l71 ∧ TO t71 := stp s70.2 c71 s37.1
theorem s72 : LO 146 l72 ∧ TO t72 := stp s71.2 c72 s38.1
theorem s73 : LO 67 l73 ∧ TO t73 := stp s72.2 c73 s21.1
theorem s74 : LO 196 l74 ∧ TO t74 := stp s73.2 c74 (LO0 196)
theorem s75 : LO 162 l75 ∧ TO t75 := stp s74.2 c75 s57.1
theorem s76 : LO 162 l76 ∧ TO t76 := stp s75.2 c76 s75.1
theorem s77 : LO 305 l77 ∧ TO t77 := stp s76.2 c77 s55.1
theorem s78 : LO 162 l78 ∧ TO t78 := stp s77.2 c78 s76.1
theorem s79 : LO 162 l79 ∧ TO t79 := stp s78.2 c79 s78.1
theorem s80 : LO 251 l80 ∧ TO t80 := stp s79.2 c80 s58.1
theorem s81 : LO 156 l81 ∧ TO t81 := stp s80.2 c81 s67.1
theorem s82 : LO 157 l82 ∧ TO t82 := stp s81.2 c82 s64.1
theorem s83 : LO 156 l83 ∧ TO t83 := stp s82.2 c83 s81.1
theorem s84 : LO 157 l84 ∧ TO t84 := stp s83.2 c84 s82.1
theorem s85 : LO 156 l85 ∧ TO t85 := stp s84.2 c85 s83.1
theorem s86 : LO 157 l86 ∧ TO t86 := stp s85.2 c86 s84.1
theorem s87 : LO 156 l87 ∧ TO t87 := stp s86.2 c87 s85.1
theorem s88 : LO 156 l88 ∧ TO t88 := stp s87.2 c88 s87.1
theorem s89 : LO 156 l89 ∧ TO t89 := stp s88.2 c89 s88.1
theorem s90 : LO 173 l90 ∧ TO t90 := stp s89.2 c90 s68.1
theorem s91 : LO 257 l91 ∧ TO t91 := stp s90.2 c91 s69.1
theorem s92 : LO 199 l92 ∧ TO t92 := stp s91.2 c92 s70.1
theorem s93 : LO 223 l93 ∧ TO t93 := stp s92.2 c93 s71.1
theorem s94 : LO 146 l94 ∧ TO t94 := stp s93.2 c94 s72.1
theorem s95 : LO 23 l95 ∧ TO t95 := stp s94.2 c95 (LO0 23)
theorem s96 : LO 156 l96 ∧ TO t96 := stp s95.2 c96 s89.1
theorem s97 : LO 156 l97 ∧ TO t97 := stp s96.2 c97 s96.1
theorem s98 : LO 156 l98 ∧ TO t98 := stp s97.2 c98 s97.1
theorem s99 : LO 162 l99 ∧ TO t99 := stp s98.2 c99 s79.1
theorem s100 : LO 162 l100 ∧ TO t100 := stp s99.2 c100 s99.1
theorem s101 : LO 162 l101 ∧ TO t101 := stp s100.2 c101 s100.1
theorem s102 : LO 162 l102 ∧ TO t102 := stp s101.2 c102 s101.1
theorem s103 : LO 132 l103 ∧ TO t103 := stp s102.2 c103 s44.1
theorem s104 : LO 156 l104 ∧ TO t104 := stp s103.2 c104 s98.1
theorem s105 : LO 156 l105 ∧ TO t105 := stp s104.2 c105 s104.1
theorem s106 : LO 156 l106 ∧ TO t106 := stp s105.2 c106 s105.1
theorem s107 : LO 156 l107 ∧ TO t107 := stp s106.2 c107 s106.1
theorem s108 : LO 157 l108 ∧ TO t108 := stp s107.2 c108 s86.1
theorem s109 : LO 156 l109 ∧ TO t109 := stp s108.2 c109 s107.1
theorem s110 : LO 157 l110 ∧ TO t110 := stp s109.2 c110 s108.1
theorem s111 : LO 156 l111 ∧ TO t111 := stp s110.2 c111 s109.1
theorem s112 : LO 157 l112 ∧ TO t112 := stp s111.2 c112 s110.1
theorem s113 : LO 227 l113 ∧ TO t113 := stp s112.2 c113 s51.1
theorem s114 : LO 134 l114 ∧ TO t114 := stp s113.2 c114 s52.1
theorem s115 : LO 196 l115 ∧ TO t115 := stp s114.2 c115 s74.1
theorem s116 : LO 162 l116 ∧ TO t116 := stp s115.2 c116 s102.1
theorem s117 : LO 162 l117 ∧ TO t117 := stp s116.2 c117 s116.1
theorem s118 : LO 305 l118 ∧ TO t118 := stp s117.2 c118 s77.1
theorem s119 : LO 162 l119 ∧ TO t119 := stp s118.2 c119 s117.1
theorem s120 : LO 162 l120 ∧ TO t120 := stp s119.2 c120 s119.1
theorem s121 : LO 251 l121 ∧ TO t121 := stp s120.2 c121 s80.1
theorem s122 : LO 156 l122 ∧ TO t122 := stp s121.2 c122 s111.1
theorem s123 : LO 157 l123 ∧ TO t123 := stp s122.2 c123 s112.1
theorem s124 : LO 156 l124 ∧ TO t124 := stp s123.2 c124 s122.1
theorem s125 : LO 157 l125 ∧ TO t125 := stp s124.2 c125 s123.1
theorem s126 : LO 156 l126 ∧ TO t126 := stp s125.2 c126 s124.1
theorem s127 : LO 157 l127 ∧ TO t127 := stp s126.2 c127 s125.1
theorem s128 : LO 156 l128 ∧ TO t128 := stp s127.2 c128 s126.1
theorem s129 : LO 156 l129 ∧ TO t129 := stp s128.2 c129 s128.1
theorem s130 : LO 156 l130 ∧ TO t130 := stp s129.2 c130 s129.1
theorem s131 : LO 156 l131 ∧ TO t131 := stp s130.2 c131 s130.1
theorem s132 : LO 156 l132 ∧ TO t132 := stp s131.2 c132 s131.1
theorem s133 : LO 156 l133 ∧ TO t133 := stp s132.2 c133 s132.1
theorem s134 : LO 173 l134 ∧ TO t134 := stp s133.2 c134 s90.1
theorem s135 : LO 257 l135 ∧ TO t135 := stp s134.2 c135 s91.1
theorem s136 : LO 199 l136 ∧ TO t136 := stp s135.2 c136 s92.1
theorem s137 : LO 223 l137 ∧ TO t137 := stp s136.2 c137 s93.1
theorem s138 : LO 165 l138 ∧ TO t138 := stp s137.2 c138 (LO0 165)
theorem s139 : LO 146 l139 ∧ TO t139 := stp s138.2 c139 s94.1
theorem s140 : LO 129 l140 ∧ TO t140 := stp s139.2 c140 (LO0 129)
theorem s141 : LO 18 l141 ∧ TO t141 := stp s140.2 c141 (LO0 18)
theorem s142 : LO 156 l142 ∧ TO t142 := stp s141.2 c142 s133.1
theorem s143 : LO 156 l143 ∧ TO t143 := stp s142.2 c143 s142.1
theorem s144 : LO 156 l144 ∧ TO t144 := stp s143.2 c144 s143.1
theorem s145 : LO 156 l145 ∧ TO t145 := stp s144.2 c145 s144.1
theorem s146 : LO 156 l146 ∧ TO t146 := stp s145.2 c146 s145.1
theorem s147 : LO 156 l147 ∧ TO t147 := stp s146.2 c147 s146.1
theorem s148 : LO 15 l148 ∧ TO t148 := stp s147.2 c148 (LO0 15)
theorem s149 : LO 156 l149 ∧ TO t149 := stp s148.2 c149 s147.1
theorem s150 : LO 156 l150 ∧ TO t150 := stp s149.2 c150 s149.1
theorem s151 : LO 156 l151 ∧ TO t151 := stp s150.2 c151 s150.1
theorem s152 : LO 173 l152 ∧ TO t152 := stp s151.2 c152 s134.1
theorem s153 : LO 14 l153 ∧ TO t153 := stp s152.2 c153 (LO0 14)
theorem s154 : (∀ B, XOk Tryz.prog B 5 zqk) ∧ TO t154 := zst s153.2 c154
end Fq
theorem zgu (B : Nat) : XOk Tryz.prog B 5 zqk := Fq.s154.1 B
namespace Fq
end Fq
open Go Go.Ev Go.Proofs Go.RowKit
def tabN : List (Nat × XFn) := (5, zqk) :: tab0
theorem tabN_ok (B : Nat) : ∀ p ∈ tabN, XOk Tryz.prog B p.1 p.2 := zqe (zgu B) (zuf1 B)
def lookN : Lk := lk tabN
theorem zyj1 : LOk lookN Tryz.prog := lk_ok tabN
theorem zvd1 (B : Nat) : ExtOk lookN Tryz.prog B := zud1 (tabN_ok B)
def f4body : Code := bodyN lookN 4
def f4r0 : K2 :=
  .mv (.con (.bool false)) (some (sOf 2)) <|
  .done
def f4r1 : K2 :=
  .mv (.con .nilSl) (some (sOf 3)) <|
  .done
def f4r2 : K2 :=
  .mv (.con (.int .i64 (0))) (some (sOf 4)) <|
  .done
def f4r3_6 : K2 := .ln (fun xs _ => pickF xs) [(tO 10), (tO 12), (.con (.bool false))] (some (sOf 13)) <|
  .done
def f4r3_5 : K2 := .gd (sOf 10) true (some (sOf 12)) (.p2 (binF .lss (evBin lookN .lss 3 (.tmp 11) (.const (.int .i64 (31))))) (tO 11) (.con (.int .i64 (31))) (some (sOf 12)) <|
  f4r3_6) f4r3_6
def f4r3 : K2 :=
  .mv (tO 4) (some (sOf 6)) <|
  .mv (tO 0) (some (sOf 7)) <|
  .ln (fun xs H => fstO (zla .len lookN [39] xs H)) [(tO 7)] (some (sOf 8)) <|
  .p2 (binF .lss (evBin lookN .lss 3 (.tmp 6) (.tmp 8))) (tO 6) (tO 8) (some (sOf 9)) <|
  .mv (tO 9) (some (sOf 10)) <|
  .gd (sOf 10) true (some (sOf 11)) (.mv (tO 4) (some (sOf 11)) <|
  f4r3_5) f4r3_5
def zvf1 : K2 := .ln (fun xs _ => pickF xs) [(tO 32), (.con (.bool true)), (tO 39)] (some (sOf 40)) <|
  .done
def zwf1 : K2 := .gd (sOf 32) false (some (sOf 39)) (.p2 (binF .gtr (evBin lookN .gtr 3 (.tmp 38) (.const (.int .i64 (20))))) (tO 38) (.con (.int .i64 (20))) (some (sOf 39)) <|
  zvf1) zvf1
def zxf1 : K2 := .gd (sOf 32) false (some (sOf 38)) (.ln (fun xs H => fstO (zla .len lookN [22] xs H)) [(tO 37)] (some (sOf 38)) <|
  zwf1) zwf1
def zyf1 : K2 := .gd (sOf 32) false (some (sOf 37)) (.r1 ld1 (tO 36) (some (sOf 37)) <|
  zxf1) zxf1
def zzf1 : K2 := .gd (sOf 32) false (some (sOf 36)) (.p1 (fa 5) (tO 35) (some (sOf 36)) <|
  zyf1) zyf1
def zag1 : K2 := .gd (sOf 32) false (some (sOf 35)) (.p2 (ixS 58) (tO 33) (tO 34) (some (sOf 35)) <|
  zzf1) zzf1
def zbg1 : K2 := .gd (sOf 32) false (some (sOf 34)) (.mv (tO 4) (some (sOf 34)) <|
  zag1) zag1
def zcg1 : K2 := .ln (fun xs _ => pickF xs) [(tO 23), (.con (.bool true)), (tO 30)] (some (sOf 31)) <|
  .mv (tO 31) (some (sOf 32)) <|
  .gd (sOf 32) false (some (sOf 33)) (.mv (tO 0) (some (sOf 33)) <|
  zbg1) zbg1
def zdg1 : K2 := .gd (sOf 23) false (some (sOf 30)) (.p2 (binF .gtr (evBin lookN .gtr 3 (.tmp 29) (.const (.int .i64 (100))))) (tO 29) (.con (.int .i64 (100))) (some (sOf 30)) <|
  zcg1) zcg1
def zeg1 : K2 := .gd (sOf 23) false (some (sOf 29)) (.ln (fun xs H => fstO (zla .len lookN [9] xs H)) [(tO 28)] (some (sOf 29)) <|
  zdg1) zdg1
def zfg1 : K2 := .gd (sOf 23) false (some (sOf 28)) (.r1 ld1 (tO 27) (some (sOf 28)) <|
  zeg1) zeg1
def zgg1 : K2 := .gd (sOf 23) false (some (sOf 27)) (.p1 (fa 4) (tO 26) (some (sOf 27)) <|
  zfg1) zfg1
def f4r4_9 : K2 := .gd (sOf 23) false (some (sOf 26)) (.p2 (ixS 58) (tO 24) (tO 25) (some (sOf 26)) <|
  zgg1) zgg1
def f4r4_8 : K2 := .gd (sOf 23) false (some (sOf 25)) (.mv (tO 4) (some (sOf 25)) <|
  f4r4_9) f4r4_9
def f4r4 : K2 :=
  .mv (tO 0) (some (sOf 16)) <|
  .mv (tO 4) (some (sOf 17)) <|
  .p2 (ixS 58) (tO 16) (tO 17) (some (sOf 18)) <|
  .p1 (fa 3) (tO 18) (some (sOf 19)) <|
  .r1 ld1 (tO 19) (some (sOf 20)) <|
  .ln (fun xs H => fstO (zla .len lookN [9] xs H)) [(tO 20)] (some (sOf 21)) <|
  .p2 (binF .gtr (evBin lookN .gtr 3 (.tmp 21) (.const (.int .i64 (100))))) (tO 21) (.con (.int .i64 (100))) (some (sOf 22)) <|
  .mv (tO 22) (some (sOf 23)) <|
  .gd (sOf 23) false (some (sOf 24)) (.mv (tO 0) (some (sOf 24)) <|
  f4r4_8) f4r4_8
def f4r5 : K2 :=
  .mv (.con (.bool true)) (some (sOf 2)) <|
  .done
def f4r6 : K2 :=
  .mv (.con (.int .i64 (0))) (some (sOf 5)) <|
  .done
def f4r7 : K2 :=
  .mv (tO 5) (some (sOf 41)) <|
  .mv (tO 0) (some (sOf 42)) <|
  .mv (tO 4) (some (sOf 43)) <|
  .p2 (ixS 58) (tO 42) (tO 43) (some (sOf 44)) <|
  .p1 (fa 5) (tO 44) (some (sOf 45)) <|
  .r1 ld1 (tO 45) (some (sOf 46)) <|
  .ln (fun xs H => fstO (zla .len lookN [22] xs H)) [(tO 46)] (some (sOf 47)) <|
  .p2 (binF .lss (evBin lookN .lss 3 (.tmp 41) (.tmp 47))) (tO 41) (tO 47) (some (sOf 48)) <|
  .done
def f4r8 : K2 :=
  .mv (tO 0) (some (sOf 51)) <|
  .mv (tO 4) (some (sOf 52)) <|
  .p2 (ixS 58) (tO 51) (tO 52) (some (sOf 53)) <|
  .p1 (fa 5) (tO 53) (some (sOf 54)) <|
  .r1 ld1 (tO 54) (some (sOf 55)) <|
  .mv (tO 5) (some (sOf 56)) <|
  .p2 (ixS 1) (tO 55) (tO 56) (some (sOf 57)) <|
  .r1 ld1 (tO 57) (some (sOf 58)) <|
  .ln (fun xs H => fstO (zla .len lookN [9] xs H)) [(tO 58)] (some (sOf 59)) <|
  .p2 (binF .gtr (evBin lookN .gtr 3 (.tmp 59) (.const (.int .i64 (100))))) (tO 59) (.con (.int .i64 (100))) (some (sOf 60)) <|
  .done
def f4r9 : K2 :=
  .mv (.con (.bool true)) (some (sOf 2)) <|
  .done
def f4r10 : K2 :=
  .mv (tO 5) (some (sOf 49)) <|
  .p2 (binF .add (evBin lookN .add 3 (.tmp 49) (.const (.int .i64 (1))))) (tO 49) (.con (.int .i64 (1))) (some (sOf 50)) <|
  .mv (tO 50) (some (sOf 5)) <|
  .done
def f4l1 : C2 := (.seq (.seq (.reg f4r7)
  (.cond (tO 48) .skip (.exit 2)))
  (.seq (.block 3 (.seq (.reg f4r8)
  (.cond (tO 60) (.seq (.reg f4r9)
  .ret) .skip)))
  (.reg f4r10)))
def f4b1 : Code := lpN f4body 1
theorem f4l1_eq : comp lookN f4b1 = f4l1 := by kernel_rfl
def f4r11 : K2 :=
  .mv (tO 3) (some (sOf 61)) <|
  .mv (tO 0) (some (sOf 62)) <|
  .mv (tO 4) (some (sOf 63)) <|
  .p2 (ixS 58) (tO 62) (tO 63) (some (sOf 64)) <|
  .p1 (fa 6) (tO 64) (some (sOf 65)) <|
  .r1 (ldN 52) (tO 65) (some (sOf 66)) <|
  .hn false (fun xs H => bsF 52 1 (.agg [(.int .i64 (0)), (.int .i64 (0)), (.int .i64 (0)), (.str ⟨#[]⟩), .nilSl, (.int .i64 (0)), (.str ⟨#[]⟩), (.str ⟨#[]⟩), (.int .i64 (0)), (.int .i64 (0)), .nilSl, (.int .i64 (0)), (.int .i64 (0)), (.int .u8 (0)), (.int .u8 (0)), (.int .u8 (0)), (.int .u8 (0)), (.int .u8 (0)), (.int .u8 (0)), (.int .u8 (0)), (.int .u8 (0)), (.int .u8 (0)), (.int .u8 (0)), (.int .u8 (0)), (.int .u8 (0)), (.int .u8 (0)), (.int .u8 (0)), (.int .u8 (0)), (.int .u8 (0)), (.int .u8 (0)), (.int .u8 (0)), (.int .u8 (0)), (.int .u8 (0)), (.int .u8 (0)), (.int .u8 (0)), (.int .u8 (0)), (.int .u8 (0)), (.int .u8 (0)), (.int .u8 (0)), (.int .u8 (0)), (.int .u8 (0)), (.int .u8 (0)), (.int .u8 (0)), (.int .u8 (0)), (.int .u8 (0)), (.int .i64 (0)), (.int .i64 (0)), (.int .i64 (0)), (.int .i64 (0)), (.int .u8 (0)), .nilSl, .nilSl]) 35 (zipF [0] xs) H) [(tO 66)] (some (sOf 67)) <|
  .hn false (appX 35 52 280) [(tO 61), (tO 67)] (some (sOf 68)) <|
  .mv (tO 68) (some (sOf 3)) <|
  .done
def f4r12 : K2 :=
  .mv (tO 4) (some (sOf 14)) <|
  .p2 (binF .add (evBin lookN .add 3 (.tmp 14) (.const (.int .i64 (1))))) (tO 14) (.con (.int .i64 (1))) (some (sOf 15)) <|
  .mv (tO 15) (some (sOf 4)) <|
  .done
def f4l0 : C2 := (.seq (.seq (.reg f4r3)
  (.cond (tO 13) .skip (.exit 0)))
  (.seq (.block 1 (.seq (.seq (.reg f4r4)
  (.cond (tO 40) (.seq (.reg f4r5)
  .ret) .skip))
  (.seq (.seq (.reg f4r6)
  (.block 2 (.loop f4b1)))
  (.reg f4r11))))
  (.reg f4r12)))
def f4b0 : Code := lpN f4body 0
theorem f4l0_eq : comp lookN f4b0 = f4l0 := by kernel_rfl
def zhg1 : K2 := .ln (fun xs _ => pickF xs) [(tO 72), (.con (.bool true)), (tO 74)] (some (sOf 75)) <|
  .mv (tO 75) (some (sOf 2)) <|
  .done
def zig1 : K2 := .gd (sOf 72) false (some (sOf 74)) (.cl false 17 [(tO 73)] (some (sOf 74)) <|
  zhg1) zhg1
def f4r13 : K2 :=
  .mv (tO 0) (some (sOf 69)) <|
  .ln (fun xs H => fstO (zla .len lookN [39] xs H)) [(tO 69)] (some (sOf 70)) <|
  .p2 (binF .gtr (evBin lookN .gtr 3 (.tmp 70) (.const (.int .i64 (30))))) (tO 70) (.con (.int .i64 (30))) (some (sOf 71)) <|
  .mv (tO 71) (some (sOf 72)) <|
  .gd (sOf 72) false (some (sOf 73)) (.mv (tO 3) (some (sOf 73)) <|
  zig1) zig1
def f4c : C2 := (.seq (.reg f4r0)
  (.seq (.reg f4r1)
  (.seq (.seq (.reg f4r2)
  (.block 0 (.loop f4b0)))
  (.seq (.reg f4r13)
  .ret))))
theorem f4_eq : fnF lookN 4 = some ⟨76, f4c, [.tmp 2]⟩ := by kernel_rfl
def f17body : Code := bodyN lookN 17
def f17r0 : K2 :=
  .mv (.con (.bool false)) (some (sOf 2)) <|
  .done
def f17r1 : K2 :=
  .mv (.con .nilSl) (some (sOf 3)) <|
  .done
def f17r2 : K2 :=
  .mv (.con .nilSl) (some (sOf 4)) <|
  .done
def f17r3 : K2 :=
  .mv (.con (.int .i64 (0))) (some (sOf 5)) <|
  .done
def zjg1 : K2 := .ln (fun xs _ => pickF xs) [(tO 10), (tO 12), (.con (.bool false))] (some (sOf 13)) <|
  .done
def zkg1 : K2 := .gd (sOf 10) true (some (sOf 12)) (.p2 (binF .lss (evBin lookN .lss 3 (.tmp 11) (.const (.int .i64 (31))))) (tO 11) (.con (.int .i64 (31))) (some (sOf 12)) <|
  zjg1) zjg1
def f17r4 : K2 :=
  .mv (tO 5) (some (sOf 6)) <|
  .mv (tO 0) (some (sOf 7)) <|
  .ln (fun xs H => fstO (zla .len lookN [66] xs H)) [(tO 7)] (some (sOf 8)) <|
  .p2 (binF .lss (evBin lookN .lss 3 (.tmp 6) (.tmp 8))) (tO 6) (tO 8) (some (sOf 9)) <|
  .mv (tO 9) (some (sOf 10)) <|
  .gd (sOf 10) true (some (sOf 11)) (.mv (tO 5) (some (sOf 11)) <|
  zkg1) zkg1
def zyy : K2 := .ln (fun xs _ => pickF xs) [(tO 23), (.con (.bool true)), (tO 30)] (some (sOf 31)) <|
  .done
def zzy : K2 := .gd (sOf 23) false (some (sOf 30)) (.p2 (binF .gtr (evBin lookN .gtr 3 (.tmp 29) (.const (.int .i64 (2000))))) (tO 29) (.con (.int .i64 (2000))) (some (sOf 30)) <|
  zyy) zyy
def zaz : K2 := .gd (sOf 23) false (some (sOf 29)) (.ln (fun xs H => fstO (zla .len lookN [23] xs H)) [(tO 28)] (some (sOf 29)) <|
  zzy) zzy
def zbz : K2 := .gd (sOf 23) false (some (sOf 28)) (.r1 ld1 (tO 27) (some (sOf 28)) <|
  zaz) zaz
def zcz : K2 := .gd (sOf 23) false (some (sOf 27)) (.p1 (fa 4) (tO 26) (some (sOf 27)) <|
  zbz) zbz
def zlg1 : K2 := .gd (sOf 23) false (some (sOf 26)) (.p2 (ixS 52) (tO 24) (tO 25) (some (sOf 26)) <|
  zcz) zcz
def zmg1 : K2 := .gd (sOf 23) false (some (sOf 25)) (.mv (tO 5) (some (sOf 25)) <|
  zlg1) zlg1
def f17r5 : K2 :=
  .mv (tO 0) (some (sOf 16)) <|
  .mv (tO 5) (some (sOf 17)) <|
  .p2 (ixS 52) (tO 16) (tO 17) (some (sOf 18)) <|
  .p1 (fa 3) (tO 18) (some (sOf 19)) <|
  .r1 ld1 (tO 19) (some (sOf 20)) <|
  .ln (fun xs H => fstO (zla .len lookN [9] xs H)) [(tO 20)] (some (sOf 21)) <|
  .p2 (binF .gtr (evBin lookN .gtr 3 (.tmp 21) (.const (.int .i64 (100))))) (tO 21) (.con (.int .i64 (100))) (some (sOf 22)) <|
  .mv (tO 22) (some (sOf 23)) <|
  .gd (sOf 23) false (some (sOf 24)) (.mv (tO 0) (some (sOf 24)) <|
  zmg1) zmg1
def f17r6 : K2 :=
  .mv (.con (.bool true)) (some (sOf 2)) <|
  .done
def f17r7 : K2 :=
  .mv (tO 3) (some (sOf 32)) <|
  .mv (tO 0) (some (sOf 33)) <|
  .mv (tO 5) (some (sOf 34)) <|
  .p2 (ixS 52) (tO 33) (tO 34) (some (sOf 35)) <|
  .p1 (fa 5) (tO 35) (some (sOf 36)) <|
  .r1 (ldN 40) (tO 36) (some (sOf 37)) <|
  .hn false (fun xs H => bsF 40 1 (.agg [(.int .i64 (0)), (.str ⟨#[]⟩), (.str ⟨#[]⟩), (.int .i64 (0)), (.int .i64 (0)), .nilSl, (.int .i64 (0)), (.int .i64 (0)), (.int .u8 (0)), (.int .u8 (0)), (.int .u8 (0)), (.int .u8 (0)), (.int .u8 (0)), (.int .u8 (0)), (.int .u8 (0)), (.int .u8 (0)), (.int .u8 (0)), (.int .u8 (0)), (.int .u8 (0)), (.int .u8 (0)), (.int .u8 (0)), (.int .u8 (0)), (.int .u8 (0)), (.int .u8 (0)), (.int .u8 (0)), (.int .u8 (0)), (.int .u8 (0)), (.int .u8 (0)), (.int .u8 (0)), (.int .u8 (0)), (.int .u8 (0)), (.int .u8 (0)), (.int .u8 (0)), (.int .u8 (0)), (.int .u8 (0)), (.int .u8 (0)), (.int .u8 (0)), (.int .u8 (0)), (.int .u8 (0)), (.int .u8 (0))]) 30 (zipF [0] xs) H) [(tO 37)] (some (sOf 38)) <|
  .hn false (appX 30 40 128) [(tO 32), (tO 38)] (some (sOf 39)) <|
  .mv (tO 39) (some (sOf 3)) <|
  .done
def f17r8 : K2 :=
  .mv (tO 4) (some (sOf 40)) <|
  .mv (tO 0) (some (sOf 41)) <|
  .mv (tO 5) (some (sOf 42)) <|
  .p2 (ixS 52) (tO 41) (tO 42) (some (sOf 43)) <|
  .p1 (fa 45) (tO 43) (some (sOf 44)) <|
  .r1 (ldN 7) (tO 44) (some (sOf 45)) <|
  .hn false (fun xs H => bsF 7 1 (.agg [(.int .i64 (0)), (.int .i64 (0)), (.int .i64 (0)), (.int .i64 (0)), (.int .u8 (0)), .nilSl, .nilSl]) 33 (zipF [0] xs) H) [(tO 45)] (some (sOf 46)) <|
  .hn false (appX 33 7 88) [(tO 40), (tO 46)] (some (sOf 47)) <|
  .mv (tO 47) (some (sOf 4)) <|
  .done
def f17r9 : K2 :=
  .mv (tO 5) (some (sOf 14)) <|
  .p2 (binF .add (evBin lookN .add 3 (.tmp 14) (.const (.int .i64 (1))))) (tO 14) (.con (.int .i64 (1))) (some (sOf 15)) <|
  .mv (tO 15) (some (sOf 5)) <|
  .done
def f17l0 : C2 := (.seq (.seq (.reg f17r4)
  (.cond (tO 13) .skip (.exit 0)))
  (.seq (.block 1 (.seq (.seq (.reg f17r5)
  (.cond (tO 31) (.seq (.reg f17r6)
  .ret) .skip))
  (.seq (.reg f17r7)
  (.reg f17r8))))
  (.reg f17r9)))
def f17b0 : Code := lpN f17body 0
theorem zzj1 : comp lookN f17b0 = f17l0 := by kernel_rfl
def zdz : K2 := .ln (fun xs _ => pickF xs) [(tO 55), (.con (.bool true)), (tO 57)] (some (sOf 58)) <|
  .mv (tO 58) (some (sOf 2)) <|
  .done
def zez : K2 := .gd (sOf 55) false (some (sOf 57)) (.cl false 53 [(tO 56)] (some (sOf 57)) <|
  zdz) zdz
def zfz : K2 := .ln (fun xs _ => pickF xs) [(tO 51), (.con (.bool true)), (tO 53)] (some (sOf 54)) <|
  .mv (tO 54) (some (sOf 55)) <|
  .gd (sOf 55) false (some (sOf 56)) (.mv (tO 4) (some (sOf 56)) <|
  zez) zez
def zgz : K2 := .gd (sOf 51) false (some (sOf 53)) (.cl false 52 [(tO 52)] (some (sOf 53)) <|
  zfz) zfz
def f17r10 : K2 :=
  .mv (tO 0) (some (sOf 48)) <|
  .ln (fun xs H => fstO (zla .len lookN [66] xs H)) [(tO 48)] (some (sOf 49)) <|
  .p2 (binF .gtr (evBin lookN .gtr 3 (.tmp 49) (.const (.int .i64 (30))))) (tO 49) (.con (.int .i64 (30))) (some (sOf 50)) <|
  .mv (tO 50) (some (sOf 51)) <|
  .gd (sOf 51) false (some (sOf 52)) (.mv (tO 3) (some (sOf 52)) <|
  zgz) zgz
def f17c : C2 := (.seq (.reg f17r0)
  (.seq (.reg f17r1)
  (.seq (.reg f17r2)
  (.seq (.seq (.reg f17r3)
  (.block 0 (.loop f17b0)))
  (.seq (.reg f17r10)
  .ret)))))
theorem f17_eq : fnF lookN 17 = some ⟨59, f17c, [.tmp 2]⟩ := by kernel_rfl
def f52body : Code := bodyN lookN 52
def f52r0 : K2 :=
  .mv (.con (.bool false)) (some (sOf 2)) <|
  .done
def f52r1 : K2 :=
  .mv (.con (.int .i64 (0))) (some (sOf 3)) <|
  .done
def zng1 : K2 := .ln (fun xs _ => pickF xs) [(tO 8), (tO 10), (.con (.bool false))] (some (sOf 11)) <|
  .done
def zog1 : K2 := .gd (sOf 8) true (some (sOf 10)) (.p2 (binF .lss (evBin lookN .lss 3 (.tmp 9) (.const (.int .i64 (61))))) (tO 9) (.con (.int .i64 (61))) (some (sOf 10)) <|
  zng1) zng1
def f52r2 : K2 :=
  .mv (tO 3) (some (sOf 4)) <|
  .mv (tO 0) (some (sOf 5)) <|
  .ln (fun xs H => fstO (zla .len lookN [100] xs H)) [(tO 5)] (some (sOf 6)) <|
  .p2 (binF .lss (evBin lookN .lss 3 (.tmp 4) (.tmp 6))) (tO 4) (tO 6) (some (sOf 7)) <|
  .mv (tO 7) (some (sOf 8)) <|
  .gd (sOf 8) true (some (sOf 9)) (.mv (tO 3) (some (sOf 9)) <|
  zog1) zog1
def zhz : K2 := .ln (fun xs _ => pickF xs) [(tO 30), (.con (.bool true)), (tO 38)] (some (sOf 39)) <|
  .done
def ziz : K2 := .gd (sOf 30) false (some (sOf 38)) (.p2 (binF .gtr (evBin lookN .gtr 3 (.tmp 37) (.const (.int .i64 (20))))) (tO 37) (.con (.int .i64 (20))) (some (sOf 38)) <|
  zhz) zhz
def zjz : K2 := .gd (sOf 30) false (some (sOf 37)) (.ln (fun xs H => fstO (zla .len lookN [24] xs H)) [(tO 36)] (some (sOf 37)) <|
  ziz) ziz
def zkz : K2 := .gd (sOf 30) false (some (sOf 36)) (.r1 ld1 (tO 35) (some (sOf 36)) <|
  zjz) zjz
def zlz : K2 := .gd (sOf 30) false (some (sOf 35)) (.p1 (fa 0) (tO 34) (some (sOf 35)) <|
  zkz) zkz
def zmz : K2 := .gd (sOf 30) false (some (sOf 34)) (.p1 (fa 5) (tO 33) (some (sOf 34)) <|
  zlz) zlz
def znz : K2 := .gd (sOf 30) false (some (sOf 33)) (.p2 (ixS 40) (tO 31) (tO 32) (some (sOf 33)) <|
  zmz) zmz
def zoz : K2 := .gd (sOf 30) false (some (sOf 32)) (.mv (tO 3) (some (sOf 32)) <|
  znz) znz
def zpz : K2 := .ln (fun xs _ => pickF xs) [(tO 21), (.con (.bool true)), (tO 28)] (some (sOf 29)) <|
  .mv (tO 29) (some (sOf 30)) <|
  .gd (sOf 30) false (some (sOf 31)) (.mv (tO 0) (some (sOf 31)) <|
  zoz) zoz
def zqz : K2 := .gd (sOf 21) false (some (sOf 28)) (.p2 (binF .gtr (evBin lookN .gtr 3 (.tmp 27) (.const (.int .i64 (100))))) (tO 27) (.con (.int .i64 (100))) (some (sOf 28)) <|
  zpz) zpz
def zrz : K2 := .gd (sOf 21) false (some (sOf 27)) (.ln (fun xs H => fstO (zla .len lookN [9] xs H)) [(tO 26)] (some (sOf 27)) <|
  zqz) zqz
def zsz : K2 := .gd (sOf 21) false (some (sOf 26)) (.r1 ld1 (tO 25) (some (sOf 26)) <|
  zrz) zrz
def ztz : K2 := .gd (sOf 21) false (some (sOf 25)) (.p1 (fa 2) (tO 24) (some (sOf 25)) <|
  zsz) zsz
def zpg1 : K2 := .gd (sOf 21) false (some (sOf 24)) (.p2 (ixS 40) (tO 22) (tO 23) (some (sOf 24)) <|
  ztz) ztz
def zqg1 : K2 := .gd (sOf 21) false (some (sOf 23)) (.mv (tO 3) (some (sOf 23)) <|
  zpg1) zpg1
def f52r3 : K2 :=
  .mv (tO 0) (some (sOf 14)) <|
  .mv (tO 3) (some (sOf 15)) <|
  .p2 (ixS 40) (tO 14) (tO 15) (some (sOf 16)) <|
  .p1 (fa 1) (tO 16) (some (sOf 17)) <|
  .r1 ld1 (tO 17) (some (sOf 18)) <|
  .ln (fun xs H => fstO (zla .len lookN [9] xs H)) [(tO 18)] (some (sOf 19)) <|
  .p2 (binF .gtr (evBin lookN .gtr 3 (.tmp 19) (.const (.int .i64 (100))))) (tO 19) (.con (.int .i64 (100))) (some (sOf 20)) <|
  .mv (tO 20) (some (sOf 21)) <|
  .gd (sOf 21) false (some (sOf 22)) (.mv (tO 0) (some (sOf 22)) <|
  zqg1) zqg1
def f52r4 : K2 :=
  .mv (.con (.bool true)) (some (sOf 2)) <|
  .done
def f52r5 : K2 :=
  .mv (tO 3) (some (sOf 12)) <|
  .p2 (binF .add (evBin lookN .add 3 (.tmp 12) (.const (.int .i64 (1))))) (tO 12) (.con (.int .i64 (1))) (some (sOf 13)) <|
  .mv (tO 13) (some (sOf 3)) <|
  .done
def f52l0 : C2 := (.seq (.seq (.reg f52r2)
  (.cond (tO 11) .skip (.exit 0)))
  (.seq (.block 1 (.seq (.reg f52r3)
  (.cond (tO 39) (.seq (.reg f52r4)
  .ret) .skip)))
  (.reg f52r5)))
def f52b0 : Code := lpN f52body 0
theorem zak1 : comp lookN f52b0 = f52l0 := by kernel_rfl
def f52r6 : K2 :=
  .mv (tO 0) (some (sOf 40)) <|
  .ln (fun xs H => fstO (zla .len lookN [100] xs H)) [(tO 40)] (some (sOf 41)) <|
  .p2 (binF .gtr (evBin lookN .gtr 3 (.tmp 41) (.const (.int .i64 (60))))) (tO 41) (.con (.int .i64 (60))) (some (sOf 42)) <|
  .mv (tO 42) (some (sOf 2)) <|
  .done
def f52c : C2 := (.seq (.reg f52r0)
  (.seq (.seq (.reg f52r1)
  (.block 0 (.loop f52b0)))
  (.seq (.reg f52r6)
  .ret)))
theorem f52_eq : fnF lookN 52 = some ⟨43, f52c, [.tmp 2]⟩ := by kernel_rfl
def f53body : Code := bodyN lookN 53
def f53r0 : K2 :=
  .mv (.con (.bool false)) (some (sOf 2)) <|
  .done
def f53r1 : K2 :=
  .mv (.con (.int .i64 (0))) (some (sOf 3)) <|
  .done
def zrg1 : K2 := .ln (fun xs _ => pickF xs) [(tO 8), (tO 10), (.con (.bool false))] (some (sOf 11)) <|
  .done
def zsg1 : K2 := .gd (sOf 8) true (some (sOf 10)) (.p2 (binF .lss (evBin lookN .lss 3 (.tmp 9) (.const (.int .i64 (101))))) (tO 9) (.con (.int .i64 (101))) (some (sOf 10)) <|
  zrg1) zrg1
def f53r2 : K2 :=
  .mv (tO 3) (some (sOf 4)) <|
  .mv (tO 0) (some (sOf 5)) <|
  .ln (fun xs H => fstO (zla .len lookN [101] xs H)) [(tO 5)] (some (sOf 6)) <|
  .p2 (binF .lss (evBin lookN .lss 3 (.tmp 4) (.tmp 6))) (tO 4) (tO 6) (some (sOf 7)) <|
  .mv (tO 7) (some (sOf 8)) <|
  .gd (sOf 8) true (some (sOf 9)) (.mv (tO 3) (some (sOf 9)) <|
  zsg1) zsg1
def zuz : K2 := .ln (fun xs _ => pickF xs) [(tO 21), (.con (.bool true)), (tO 28)] (some (sOf 29)) <|
  .done
def zvz : K2 := .gd (sOf 21) false (some (sOf 28)) (.p2 (binF .gtr (evBin lookN .gtr 3 (.tmp 27) (.const (.int .i64 (200))))) (tO 27) (.con (.int .i64 (200))) (some (sOf 28)) <|
  zuz) zuz
def zwz : K2 := .gd (sOf 21) false (some (sOf 27)) (.ln (fun xs H => fstO (zla .len lookN [31] xs H)) [(tO 26)] (some (sOf 27)) <|
  zvz) zvz
def zxz : K2 := .gd (sOf 21) false (some (sOf 26)) (.r1 ld1 (tO 25) (some (sOf 26)) <|
  zwz) zwz
def zyz : K2 := .gd (sOf 21) false (some (sOf 25)) (.p1 (fa 6) (tO 24) (some (sOf 25)) <|
  zxz) zxz
def ztg1 : K2 := .gd (sOf 21) false (some (sOf 24)) (.p2 (ixS 7) (tO 22) (tO 23) (some (sOf 24)) <|
  zyz) zyz
def zug1 : K2 := .gd (sOf 21) false (some (sOf 23)) (.mv (tO 3) (some (sOf 23)) <|
  ztg1) ztg1
def f53r3 : K2 :=
  .mv (tO 0) (some (sOf 14)) <|
  .mv (tO 3) (some (sOf 15)) <|
  .p2 (ixS 7) (tO 14) (tO 15) (some (sOf 16)) <|
  .p1 (fa 5) (tO 16) (some (sOf 17)) <|
  .r1 ld1 (tO 17) (some (sOf 18)) <|
  .ln (fun xs H => fstO (zla .len lookN [23] xs H)) [(tO 18)] (some (sOf 19)) <|
  .p2 (binF .gtr (evBin lookN .gtr 3 (.tmp 19) (.const (.int .i64 (300))))) (tO 19) (.con (.int .i64 (300))) (some (sOf 20)) <|
  .mv (tO 20) (some (sOf 21)) <|
  .gd (sOf 21) false (some (sOf 22)) (.mv (tO 0) (some (sOf 22)) <|
  zug1) zug1
def f53r4 : K2 :=
  .mv (.con (.bool true)) (some (sOf 2)) <|
  .done
def f53r5 : K2 :=
  .mv (tO 3) (some (sOf 12)) <|
  .p2 (binF .add (evBin lookN .add 3 (.tmp 12) (.const (.int .i64 (1))))) (tO 12) (.con (.int .i64 (1))) (some (sOf 13)) <|
  .mv (tO 13) (some (sOf 3)) <|
  .done
def f53l0 : C2 := (.seq (.seq (.reg f53r2)
  (.cond (tO 11) .skip (.exit 0)))
  (.seq (.block 1 (.seq (.reg f53r3)
  (.cond (tO 29) (.seq (.reg f53r4)
  .ret) .skip)))
  (.reg f53r5)))
def f53b0 : Code := lpN f53body 0
theorem zbk1 : comp lookN f53b0 = f53l0 := by kernel_rfl
def f53r6 : K2 :=
  .mv (tO 0) (some (sOf 30)) <|
  .ln (fun xs H => fstO (zla .len lookN [101] xs H)) [(tO 30)] (some (sOf 31)) <|
  .p2 (binF .gtr (evBin lookN .gtr 3 (.tmp 31) (.const (.int .i64 (100))))) (tO 31) (.con (.int .i64 (100))) (some (sOf 32)) <|
  .mv (tO 32) (some (sOf 2)) <|
  .done
def f53c : C2 := (.seq (.reg f53r0)
  (.seq (.seq (.reg f53r1)
  (.block 0 (.loop f53b0)))
  (.seq (.reg f53r6)
  .ret)))
theorem f53_eq : fnF lookN 53 = some ⟨33, f53c, [.tmp 2]⟩ := by kernel_rfl
def f3body : Code := bodyN lookN 3
def f3r0 : K2 :=
  .m1 false (fun v H => alF v.toC 37 58 H) (tO 0) (some (sOf 1)) <|
  .mv (.con (.bool false)) (some (sOf 2)) <|
  .done
def f3r1 : K2 :=
  .r1 (ldN 58) (tO 1) (some (sOf 14)) <|
  .hn false (fun xs H => bsF 58 1 (.agg [(.int .i64 (0)), (.int .i64 (0)), (.int .i64 (0)), (.str ⟨#[]⟩), (.str ⟨#[]⟩), .nilSl, (.int .i64 (0)), (.int .i64 (0)), (.int .i64 (0)), (.str ⟨#[]⟩), .nilSl, (.int .i64 (0)), (.str ⟨#[]⟩), (.str ⟨#[]⟩), (.int .i64 (0)), (.int .i64 (0)), .nilSl, (.int .i64 (0)), (.int .i64 (0)), (.int .u8 (0)), (.int .u8 (0)), (.int .u8 (0)), (.int .u8 (0)), (.int .u8 (0)), (.int .u8 (0)), (.int .u8 (0)), (.int .u8 (0)), (.int .u8 (0)), (.int .u8 (0)), (.int .u8 (0)), (.int .u8 (0)), (.int .u8 (0)), (.int .u8 (0)), (.int .u8 (0)), (.int .u8 (0)), (.int .u8 (0)), (.int .u8 (0)), (.int .u8 (0)), (.int .u8 (0)), (.int .u8 (0)), (.int .u8 (0)), (.int .u8 (0)), (.int .u8 (0)), (.int .u8 (0)), (.int .u8 (0)), (.int .u8 (0)), (.int .u8 (0)), (.int .u8 (0)), (.int .u8 (0)), (.int .u8 (0)), (.int .u8 (0)), (.int .i64 (0)), (.int .i64 (0)), (.int .i64 (0)), (.int .i64 (0)), (.int .u8 (0)), .nilSl, .nilSl]) 37 (zipF [0] xs) H) [(tO 14)] (some (sOf 15)) <|
  .cl false 4 [(tO 15)] (some (sOf 16)) <|
  .done
def f3r2 : K2 :=
  .cl false 5 [] (some (sOf 17)) <|
  .mv (tO 17) (some (sOf 2)) <|
  .done
def f3r3 : K2 :=
  .ln (fun xs _ => zkf lookN 50 (zipF [] xs)) [] (some (sOf 18)) <|
  .m1 false (fun v H => alF v.toC 50 8 H) (tO 18) (some (sOf 19)) <|
  .hn false (fun xs H => bsF 1 2 .nilPtr 41 (zipF [0, 1] xs) H) [(.con .nilPtr), (tO 19)] (some (sOf 20)) <|
  .mv (tO 20) (some (sOf 3)) <|
  .done
def f3r4 : K2 :=
  .mv (.con (.int .i64 (0))) (some (sOf 4)) <|
  .done
def f3b0 : Code := lpN f3body 0
def f3r15 : K2 :=
  .cl false 5 [] (some (sOf 150)) <|
  .mv (tO 150) (some (sOf 2)) <|
  .done
def f3c : C2 := (.seq (.reg f3r0)
  (.seq (.seq (.reg f3r1)
  (.cond (tO 16) (.seq (.reg f3r2)
  .ret) .skip))
  (.seq (.reg f3r3)
  (.seq (.seq (.reg f3r4)
  (.block 0 (.loop f3b0)))
  (.seq (.reg f3r15)
  .ret)))))
theorem f3_eq : fnF lookN 3 = some ⟨151, f3c, [.tmp 2]⟩ := by kernel_rfl
set_option maxRecDepth 100000
open Ra Rb Rc Rd Re Rf Rg Rh Ri Rj Rk Rl Rm Rn Ro Rp Rq Rr
theorem zzz {f : Nat} (h : xLook tabN f = none) : lookN.ext f = none := h
theorem zaa1 {L : Lk} {t : Nat} (ht : L.under t = some .string) (s : ByteArray) (H : AH) : fstO (zla .len L [t] [.str s] H) = some (.int .i64 s.size) := by
  show fstO (match evLen L t (.str s) H with | some v => some (v, H) | none => none) = _
  unfold evLen
  rw [ht]
  rfl
theorem uN22 : lookN.under 24 = some (.slice 192) := by kernel_rfl
theorem uN9 : lookN.under 9 = some .string := by kernel_rfl
theorem uN26 : lookN.under 22 = some (.slice 9) := by kernel_rfl
theorem uN24 : lookN.under 39 = some (.slice 37) := by kernel_rfl
theorem uN35 : lookN.under 23 = some (.slice 5) := by kernel_rfl
theorem uN36 : lookN.under 31 = some (.slice 4) := by kernel_rfl
theorem uN82 : lookN.under 100 = some (.slice 30) := by kernel_rfl
theorem uN83 : lookN.under 101 = some (.slice 33) := by kernel_rfl
theorem uN42 : lookN.under 66 = some (.slice 35) := by kernel_rfl
theorem zwd1 (H : AH) (k c : Nat) (op : Bool) (s1 s2 : ByteArray) (vA : AV) (nA : Nat) (h0 : IsSl H (.sl k 0 1 c op) 1) (r1 : ld1 (.ptr k 1) H = some (.str s1)) (r2 : ld1 (.ptr k 2) H = some (.str s2)) (r5 : ld1 (.ptr k 5) H = some vA) (hA : IsSl H vA nA) :
    FnE lookN 52 [.sl k 0 1 c op] H fun r H' => (∃ b, r = .bool b) ∧ H' = H := by
  refine zzb f52_eq (zzz rfl) rfl ?_
  unfold f52c
  have hlen := fun H' => zpk (H' := H') uN82 h0
  have hlenA := fun H' => zpk (H' := H') uN22 hA
  have hstr := fun s H' => zaa1 uN9 s H'
  have hix : ixS 40 (.sl k 0 1 c op) (.int .i64 0) = some (.ptr k 0) := rfl
  (repeat' (first | refine Z ?_ | refine Zq ?_ | refine zaa (by decide) ?_ | ((first | refine' Y ?_ ?_ | refine' X ?_ ?_ ?_); rotate_left; (· (first | (simp (disch := omega) only [evl, Nat.reduceEqDiff, Nat.reduceAdd, reduceIte, reduceCtorEq] <;> exact rfl) | exact rfl)); all_goals try (refine fun (hb : _ = _) => ?_; try simp only [Zu, ne_eq, reduceCtorEq] at hb)) | (apply zba; · simp [evl])))
  refine zyf (R := fun ex T' H' => (ex = .exit 0 ∧ gT T' 0 = .sl k 0 1 c op ∧ H' = H) ∨ (ex = .ret ∧ gT T' 2 = .bool true ∧ H' = H)) ?_ ?_
  · refine zbk zak1 (fun j T H' => gT T 0 = .sl k 0 1 c op ∧ H' = H ∧ ((j = 1 ∧ gT T 3 = .int .i64 0) ∨ (j = 0 ∧ gT T 3 = .int .i64 1))) _ ?_ 1 _ _ ?_
    · rintro j T H2 ⟨e0, rfl, ⟨rfl, e3⟩ | ⟨rfl, e3⟩⟩
      · unfold f52l0
        by_cases b1 : 100 < s1.size
        · (repeat' (first | refine Z ?_ | refine Zq ?_ | refine zaa (by decide) ?_ | ((first | refine' Y ?_ ?_ | refine' X ?_ ?_ ?_); rotate_left; (· (first | (simp (disch := omega) only [evl, Nat.reduceEqDiff, Nat.reduceAdd, reduceIte, reduceCtorEq, e0, e3, hlen, hix, r1, r2, r5, hstr, hlenA] <;> exact rfl) | exact rfl)); all_goals try (refine fun (hb : _ = _) => ?_; try simp only [Zu, ne_eq, reduceCtorEq] at hb)) | (apply zba; · simp [evl])))
          refine zga ?_
          refine lpq_r (.inr ⟨rfl, ?_, rfl⟩)
          (simp (disch := omega) only [evl, Nat.reduceEqDiff, Nat.reduceAdd, reduceIte, reduceCtorEq])
        · by_cases b2 : 100 < s2.size
          · (repeat' (first | refine Z ?_ | refine Zq ?_ | refine zaa (by decide) ?_ | ((first | refine' Y ?_ ?_ | refine' X ?_ ?_ ?_); rotate_left; (· (first | (simp (disch := omega) only [evl, Nat.reduceEqDiff, Nat.reduceAdd, reduceIte, reduceCtorEq, e0, e3, hlen, hix, r1, r2, r5, hstr, hlenA] <;> exact rfl) | exact rfl)); all_goals try (refine fun (hb : _ = _) => ?_; try simp only [Zu, ne_eq, reduceCtorEq] at hb)) | (apply zba; · simp [evl])))
            refine zga ?_
            refine lpq_r (.inr ⟨rfl, ?_, rfl⟩)
            (simp (disch := omega) only [evl, Nat.reduceEqDiff, Nat.reduceAdd, reduceIte, reduceCtorEq])
          · by_cases b3 : 20 < nA
            · (repeat' (first | refine Z ?_ | refine Zq ?_ | refine zaa (by decide) ?_ | ((first | refine' Y ?_ ?_ | refine' X ?_ ?_ ?_); rotate_left; (· (first | (simp (disch := omega) only [evl, Nat.reduceEqDiff, Nat.reduceAdd, reduceIte, reduceCtorEq, e0, e3, hlen, hix, r1, r2, r5, hstr, hlenA] <;> exact rfl) | exact rfl)); all_goals try (refine fun (hb : _ = _) => ?_; try simp only [Zu, ne_eq, reduceCtorEq] at hb)) | (apply zba; · simp [evl])))
              refine zga ?_
              refine lpq_r (.inr ⟨rfl, ?_, rfl⟩)
              (simp (disch := omega) only [evl, Nat.reduceEqDiff, Nat.reduceAdd, reduceIte, reduceCtorEq])
            · (repeat' (first | refine Z ?_ | refine Zq ?_ | refine zaa (by decide) ?_ | ((first | refine' Y ?_ ?_ | refine' X ?_ ?_ ?_); rotate_left; (· (first | (simp (disch := omega) only [evl, Nat.reduceEqDiff, Nat.reduceAdd, reduceIte, reduceCtorEq, e0, e3, hlen, hix, r1, r2, r5, hstr, hlenA] <;> exact rfl) | exact rfl)); all_goals try (refine fun (hb : _ = _) => ?_; try simp only [Zu, ne_eq, reduceCtorEq] at hb)) | (apply zba; · simp [evl])))
              refine zga ?_
              refine lpq_n 0 (by omega) ⟨?_, rfl, .inr ⟨rfl, ?_⟩⟩
              · (simp (disch := omega) only [evl, Nat.reduceEqDiff, Nat.reduceAdd, reduceIte, reduceCtorEq, e0])
              · (simp (disch := omega) only [evl, Nat.reduceEqDiff, Nat.reduceAdd, reduceIte, reduceCtorEq, e3]); rfl
      · unfold f52l0
        (repeat' (first | refine Z ?_ | refine Zq ?_ | refine zaa (by decide) ?_ | ((first | refine' Y ?_ ?_ | refine' X ?_ ?_ ?_); rotate_left; (· (first | (simp (disch := omega) only [evl, Nat.reduceEqDiff, Nat.reduceAdd, reduceIte, reduceCtorEq, e0, e3, hlen] <;> exact rfl) | exact rfl)); all_goals try (refine fun (hb : _ = _) => ?_; try simp only [Zu, ne_eq, reduceCtorEq] at hb)) | (apply zba; · simp [evl])))
        refine zga ?_
        refine lpq_e (.inl ⟨rfl, ?_, rfl⟩)
        (simp (disch := omega) only [evl, Nat.reduceEqDiff, Nat.reduceAdd, reduceIte, reduceCtorEq, e0])
    · refine ⟨?_, rfl, .inl ⟨rfl, ?_⟩⟩
      · (simp (disch := omega) only [evl, Nat.reduceEqDiff, Nat.reduceAdd, reduceIte, reduceCtorEq])
      · (simp (disch := omega) only [evl, Nat.reduceEqDiff, Nat.reduceAdd, reduceIte, reduceCtorEq])
  · rintro ex T' H' (⟨rfl, e0, rfl⟩ | ⟨rfl, e2, rfl⟩)
    · (repeat' (first | refine Z ?_ | refine Zq ?_ | refine zaa (by decide) ?_ | ((first | refine' Y ?_ ?_ | refine' X ?_ ?_ ?_); rotate_left; (· (first | (simp (disch := omega) only [evl, Nat.reduceEqDiff, Nat.reduceAdd, reduceIte, reduceCtorEq, e0, hlen] <;> exact rfl) | exact rfl)); all_goals try (refine fun (hb : _ = _) => ?_; try simp only [Zu, ne_eq, reduceCtorEq] at hb)) | (apply zba; · simp [evl])))
      all_goals
        refine zga ?_
        refine zfc (zkc _ _) ⟨?_, rfl⟩
        (simp (disch := omega) only [evl, Nat.reduceEqDiff, Nat.reduceAdd, reduceIte, reduceCtorEq])
        exact ⟨_, rfl⟩
    · (repeat' (first | refine Z ?_ | refine Zq ?_ | refine zaa (by decide) ?_ | ((first | refine' Y ?_ ?_ | refine' X ?_ ?_ ?_); rotate_left; (· (first | (simp (disch := omega) only [evl, Nat.reduceEqDiff, Nat.reduceAdd, reduceIte, reduceCtorEq, e2] <;> exact rfl) | exact rfl)); all_goals try (refine fun (hb : _ = _) => ?_; try simp only [Zu, ne_eq, reduceCtorEq] at hb)) | (apply zba; · simp [evl])))
      refine zga ?_
      refine zfc (zkc _ _) ⟨⟨true, ?_⟩, rfl⟩
      (simp (disch := omega) only [evl, Nat.reduceEqDiff, Nat.reduceAdd, reduceIte, reduceCtorEq, e2])
theorem zxd1 (H : AH) (k c : Nat) (op : Bool) (vA vB : AV) (nA nB : Nat) (h0 : IsSl H (.sl k 0 1 c op) 1) (r1 : ld1 (.ptr k 5) H = some vA) (r2 : ld1 (.ptr k 6) H = some vB) (hA : IsSl H vA nA) (hB : IsSl H vB nB) :
    FnE lookN 53 [.sl k 0 1 c op] H fun r H' => (∃ b, r = .bool b) ∧ H' = H := by
  refine zzb f53_eq (zzz rfl) rfl ?_
  unfold f53c
  have hlen := fun H' => zpk (H' := H') uN83 h0
  have hlenA := fun H' => zpk (H' := H') uN35 hA
  have hlenB := fun H' => zpk (H' := H') uN36 hB
  have hix : ixS 7 (.sl k 0 1 c op) (.int .i64 0) = some (.ptr k 0) := rfl
  (repeat' (first | refine Z ?_ | refine Zq ?_ | refine zaa (by decide) ?_ | ((first | refine' Y ?_ ?_ | refine' X ?_ ?_ ?_); rotate_left; (· (first | (simp (disch := omega) only [evl, Nat.reduceEqDiff, Nat.reduceAdd, reduceIte, reduceCtorEq] <;> exact rfl) | exact rfl)); all_goals try (refine fun (hb : _ = _) => ?_; try simp only [Zu, ne_eq, reduceCtorEq] at hb)) | (apply zba; · simp [evl])))
  refine zyf (R := fun ex T' H' => (ex = .exit 0 ∧ gT T' 0 = .sl k 0 1 c op ∧ H' = H) ∨ (ex = .ret ∧ gT T' 2 = .bool true ∧ H' = H)) ?_ ?_
  · refine zbk zbk1 (fun j T H' => gT T 0 = .sl k 0 1 c op ∧ H' = H ∧ ((j = 1 ∧ gT T 3 = .int .i64 0) ∨ (j = 0 ∧ gT T 3 = .int .i64 1))) _ ?_ 1 _ _ ?_
    · rintro j T H2 ⟨e0, rfl, ⟨rfl, e3⟩ | ⟨rfl, e3⟩⟩
      · unfold f53l0
        by_cases b1 : 300 < nA
        · (repeat' (first | refine Z ?_ | refine Zq ?_ | refine zaa (by decide) ?_ | ((first | refine' Y ?_ ?_ | refine' X ?_ ?_ ?_); rotate_left; (· (first | (simp (disch := omega) only [evl, Nat.reduceEqDiff, Nat.reduceAdd, reduceIte, reduceCtorEq, e0, e3, hlen, hix, r1, r2, hlenA, hlenB] <;> exact rfl) | exact rfl)); all_goals try (refine fun (hb : _ = _) => ?_; try simp only [Zu, ne_eq, reduceCtorEq] at hb)) | (apply zba; · simp [evl])))
          refine zga ?_
          refine lpq_r (.inr ⟨rfl, ?_, rfl⟩)
          (simp (disch := omega) only [evl, Nat.reduceEqDiff, Nat.reduceAdd, reduceIte, reduceCtorEq])
        · by_cases b2 : 200 < nB
          · (repeat' (first | refine Z ?_ | refine Zq ?_ | refine zaa (by decide) ?_ | ((first | refine' Y ?_ ?_ | refine' X ?_ ?_ ?_); rotate_left; (· (first | (simp (disch := omega) only [evl, Nat.reduceEqDiff, Nat.reduceAdd, reduceIte, reduceCtorEq, e0, e3, hlen, hix, r1, r2, hlenA, hlenB] <;> exact rfl) | exact rfl)); all_goals try (refine fun (hb : _ = _) => ?_; try simp only [Zu, ne_eq, reduceCtorEq] at hb)) | (apply zba; · simp [evl])))
            refine zga ?_
            refine lpq_r (.inr ⟨rfl, ?_, rfl⟩)
            (simp (disch := omega) only [evl, Nat.reduceEqDiff, Nat.reduceAdd, reduceIte, reduceCtorEq])
          · (repeat' (first | refine Z ?_ | refine Zq ?_ | refine zaa (by decide) ?_ | ((first | refine' Y ?_ ?_ | refine' X ?_ ?_ ?_); rotate_left; (· (first | (simp (disch := omega) only [evl, Nat.reduceEqDiff, Nat.reduceAdd, reduceIte, reduceCtorEq, e0, e3, hlen, hix, r1, r2, hlenA, hlenB] <;> exact rfl) | exact rfl)); all_goals try (refine fun (hb : _ = _) => ?_; try simp only [Zu, ne_eq, reduceCtorEq] at hb)) | (apply zba; · simp [evl])))
            refine zga ?_
            refine lpq_n 0 (by omega) ⟨?_, rfl, .inr ⟨rfl, ?_⟩⟩
            · (simp (disch := omega) only [evl, Nat.reduceEqDiff, Nat.reduceAdd, reduceIte, reduceCtorEq, e0])
            · (simp (disch := omega) only [evl, Nat.reduceEqDiff, Nat.reduceAdd, reduceIte, reduceCtorEq, e3]); rfl
      · unfold f53l0
        (repeat' (first | refine Z ?_ | refine Zq ?_ | refine zaa (by decide) ?_ | ((first | refine' Y ?_ ?_ | refine' X ?_ ?_ ?_); rotate_left; (· (first | (simp (disch := omega) only [evl, Nat.reduceEqDiff, Nat.reduceAdd, reduceIte, reduceCtorEq, e0, e3, hlen] <;> exact rfl) | exact rfl)); all_goals try (refine fun (hb : _ = _) => ?_; try simp only [Zu, ne_eq, reduceCtorEq] at hb)) | (apply zba; · simp [evl])))
        refine zga ?_
        refine lpq_e (.inl ⟨rfl, ?_, rfl⟩)
        (simp (disch := omega) only [evl, Nat.reduceEqDiff, Nat.reduceAdd, reduceIte, reduceCtorEq, e0])
    · refine ⟨?_, rfl, .inl ⟨rfl, ?_⟩⟩
      · (simp (disch := omega) only [evl, Nat.reduceEqDiff, Nat.reduceAdd, reduceIte, reduceCtorEq])
      · (simp (disch := omega) only [evl, Nat.reduceEqDiff, Nat.reduceAdd, reduceIte, reduceCtorEq])
  · rintro ex T' H' (⟨rfl, e0, rfl⟩ | ⟨rfl, e2, rfl⟩)
    · (repeat' (first | refine Z ?_ | refine Zq ?_ | refine zaa (by decide) ?_ | ((first | refine' Y ?_ ?_ | refine' X ?_ ?_ ?_); rotate_left; (· (first | (simp (disch := omega) only [evl, Nat.reduceEqDiff, Nat.reduceAdd, reduceIte, reduceCtorEq, e0, hlen] <;> exact rfl) | exact rfl)); all_goals try (refine fun (hb : _ = _) => ?_; try simp only [Zu, ne_eq, reduceCtorEq] at hb)) | (apply zba; · simp [evl])))
      all_goals
        refine zga ?_
        refine zfc (zkc _ _) ⟨?_, rfl⟩
        (simp (disch := omega) only [evl, Nat.reduceEqDiff, Nat.reduceAdd, reduceIte, reduceCtorEq])
        exact ⟨_, rfl⟩
    · (repeat' (first | refine Z ?_ | refine Zq ?_ | refine zaa (by decide) ?_ | ((first | refine' Y ?_ ?_ | refine' X ?_ ?_ ?_); rotate_left; (· (first | (simp (disch := omega) only [evl, Nat.reduceEqDiff, Nat.reduceAdd, reduceIte, reduceCtorEq, e2] <;> exact rfl) | exact rfl)); all_goals try (refine fun (hb : _ = _) => ?_; try simp only [Zu, ne_eq, reduceCtorEq] at hb)) | (apply zba; · simp [evl])))
      refine zga ?_
      refine zfc (zkc _ _) ⟨⟨true, ?_⟩, rfl⟩
      (simp (disch := omega) only [evl, Nat.reduceEqDiff, Nat.reduceAdd, reduceIte, reduceCtorEq, e2])
structure ActA where
  kd : Int
  n_ : Int
  m_ : Int
  nm : ByteArray
  to : ByteArray
  vL : AV
  yk : Int
  ya : Int
  yn : Int
  ym : ByteArray
  vN : AV
  dk : Int
  dn : ByteArray
  dt : ByteArray
  d3 : Int
  d4 : Int
  vA : AV
  p1 : Int
  p2 : Int
  ds : Nat → Int
  x0 : Int
  x1 : Int
  x2 : Int
  x3 : Int
  xm : Int
  vB : AV
  vK : AV
abbrev actY (x : ActA) : List AV := [.int .i64 x.yk, .int .i64 x.ya, .int .i64 x.yn, .str x.ym, x.vN, .int .i64 x.dk, .str x.dn, .str x.dt, .int .i64 x.d3, .int .i64 x.d4, x.vA, .int .i64 x.p1, .int .i64 x.p2, .int .u8 (x.ds 0), .int .u8 (x.ds 1), .int .u8 (x.ds 2), .int .u8 (x.ds 3), .int .u8 (x.ds 4), .int .u8 (x.ds 5), .int .u8 (x.ds 6), .int .u8 (x.ds 7), .int .u8 (x.ds 8), .int .u8 (x.ds 9), .int .u8 (x.ds 10), .int .u8 (x.ds 11), .int .u8 (x.ds 12), .int .u8 (x.ds 13), .int .u8 (x.ds 14), .int .u8 (x.ds 15), .int .u8 (x.ds 16), .int .u8 (x.ds 17), .int .u8 (x.ds 18), .int .u8 (x.ds 19), .int .u8 (x.ds 20), .int .u8 (x.ds 21), .int .u8 (x.ds 22), .int .u8 (x.ds 23), .int .u8 (x.ds 24), .int .u8 (x.ds 25), .int .u8 (x.ds 26), .int .u8 (x.ds 27), .int .u8 (x.ds 28), .int .u8 (x.ds 29), .int .u8 (x.ds 30), .int .u8 (x.ds 31), .int .i64 x.x0, .int .i64 x.x1, .int .i64 x.x2, .int .i64 x.x3, .int .u8 x.xm, x.vB, x.vK]
abbrev actL (x : ActA) : List AV := [.int .i64 x.kd, .int .i64 x.n_, .int .i64 x.m_, .str x.nm, .str x.to, x.vL, .int .i64 x.yk, .int .i64 x.ya, .int .i64 x.yn, .str x.ym, x.vN, .int .i64 x.dk, .str x.dn, .str x.dt, .int .i64 x.d3, .int .i64 x.d4, x.vA, .int .i64 x.p1, .int .i64 x.p2, .int .u8 (x.ds 0), .int .u8 (x.ds 1), .int .u8 (x.ds 2), .int .u8 (x.ds 3), .int .u8 (x.ds 4), .int .u8 (x.ds 5), .int .u8 (x.ds 6), .int .u8 (x.ds 7), .int .u8 (x.ds 8), .int .u8 (x.ds 9), .int .u8 (x.ds 10), .int .u8 (x.ds 11), .int .u8 (x.ds 12), .int .u8 (x.ds 13), .int .u8 (x.ds 14), .int .u8 (x.ds 15), .int .u8 (x.ds 16), .int .u8 (x.ds 17), .int .u8 (x.ds 18), .int .u8 (x.ds 19), .int .u8 (x.ds 20), .int .u8 (x.ds 21), .int .u8 (x.ds 22), .int .u8 (x.ds 23), .int .u8 (x.ds 24), .int .u8 (x.ds 25), .int .u8 (x.ds 26), .int .u8 (x.ds 27), .int .u8 (x.ds 28), .int .u8 (x.ds 29), .int .u8 (x.ds 30), .int .u8 (x.ds 31), .int .i64 x.x0, .int .i64 x.x1, .int .i64 x.x2, .int .i64 x.x3, .int .u8 x.xm, x.vB, x.vK]
abbrev actD (x : ActA) : List AV := [.int .i64 x.dk, .str x.dn, .str x.dt, .int .i64 x.d3, .int .i64 x.d4, x.vA, .int .i64 x.p1, .int .i64 x.p2, .int .u8 (x.ds 0), .int .u8 (x.ds 1), .int .u8 (x.ds 2), .int .u8 (x.ds 3), .int .u8 (x.ds 4), .int .u8 (x.ds 5), .int .u8 (x.ds 6), .int .u8 (x.ds 7), .int .u8 (x.ds 8), .int .u8 (x.ds 9), .int .u8 (x.ds 10), .int .u8 (x.ds 11), .int .u8 (x.ds 12), .int .u8 (x.ds 13), .int .u8 (x.ds 14), .int .u8 (x.ds 15), .int .u8 (x.ds 16), .int .u8 (x.ds 17), .int .u8 (x.ds 18), .int .u8 (x.ds 19), .int .u8 (x.ds 20), .int .u8 (x.ds 21), .int .u8 (x.ds 22), .int .u8 (x.ds 23), .int .u8 (x.ds 24), .int .u8 (x.ds 25), .int .u8 (x.ds 26), .int .u8 (x.ds 27), .int .u8 (x.ds 28), .int .u8 (x.ds 29), .int .u8 (x.ds 30), .int .u8 (x.ds 31)]
abbrev actX (x : ActA) : List AV := [.int .i64 x.x0, .int .i64 x.x1, .int .i64 x.x2, .int .i64 x.x3, .int .u8 x.xm, x.vB, x.vK]
abbrev h5 (B : Nat → ABlk) : AH := hA [B 0, B 1, B 2, B 3, B 4]
abbrev g1 (x : ActA) (B : Nat → ABlk) : AH := (h5 B).new (.cells (.lst (actL x)) 37 58 false false)
abbrev g2 (x : ActA) (B : Nat → ABlk) : AH := (g1 x B).new (.cells (.lst (actL x)) 37 58 false false)
abbrev g3 (x : ActA) (B : Nat → ABlk) : AH := (g2 x B).new (.cells (.lst (actY x)) 35 52 false false)
abbrev g4 (x : ActA) (B : Nat → ABlk) : AH := (g3 x B).new (.cells (.lst (actY x)) 35 52 true false)
abbrev g5 (x : ActA) (B : Nat → ABlk) : AH := (g4 x B).new (.cells (.lst (actD x)) 30 40 false false)
abbrev g6 (x : ActA) (B : Nat → ABlk) : AH := (g5 x B).new (.cells (.lst (actD x)) 30 40 true false)
abbrev g7 (x : ActA) (B : Nat → ABlk) : AH := (g6 x B).new (.cells (.lst (actX x)) 33 7 false false)
abbrev g8 (x : ActA) (B : Nat → ABlk) : AH := (g7 x B).new (.cells (.lst (actX x)) 33 7 true false)
theorem zck1 {e z b i : Nat} {H : AH} {l : List AV} (hsrc : zpc z (.sl i 0 1 1 false) 1 H = some (.lst l)) (h1 : (Ce.lst l).one = true) (hb : b ≤ 140737488355328) :
    appX e z b [.nilSl, .sl i 0 1 1 false] H = some (.sl H.next 0 1 1 true, H.new (.cells (.lst l) e z true false)) := by
  show orec none (fun n => orec none (fun new => brec none (appS e z b n new .nilSl H) new.one) (srcF z (.sl i 0 1 1 false) n H)) (some 1) = _
  show orec none (fun new => brec none (appS e z b 1 new .nilSl H) new.one) (srcF z (.sl i 0 1 1 false) 1 H) = _
  rw [ztw, hsrc]
  show brec none (appS e z b 1 (.lst l) .nilSl H) (Ce.lst l).one = _
  rw [h1]
  show brec (match Nat.ble (Nat.mul 1 b) 140737488355328 && Nat.ble 1 9223372036854775807 with
        | false => none
        | true => slNew 1 (.cells (.lst l) e z true false) H) (some (.nilSl, H)) (Nat.beq 1 0) = _
  rw [show Nat.ble (Nat.mul 1 b) 140737488355328 = true from Nat.ble_eq_true_of_le (by show 1 * b ≤ _; omega)]
  exact zfi _ _ _
section
variable (x : ActA) (B : Nat → ABlk)
theorem j3 : ld1 (.ptr 6 3) (g2 x B) = some (.str x.nm) := by kernel_rfl
theorem j4 : ld1 (.ptr 6 4) (g2 x B) = some (.str x.to) := by kernel_rfl
theorem jL : ld1 (.ptr 6 5) (g2 x B) = some x.vL := by kernel_rfl
theorem j6 : ldN 52 (.ptr 6 6) (g2 x B) = some (.agg (actY x)) := by kernel_rfl
theorem jb : bsF 52 1 (.agg [(.int .i64 (0)), (.int .i64 (0)), (.int .i64 (0)), (.str ⟨#[]⟩), .nilSl, (.int .i64 (0)), (.str ⟨#[]⟩), (.str ⟨#[]⟩), (.int .i64 (0)), (.int .i64 (0)), .nilSl, (.int .i64 (0)), (.int .i64 (0)), (.int .u8 (0)), (.int .u8 (0)), (.int .u8 (0)), (.int .u8 (0)), (.int .u8 (0)), (.int .u8 (0)), (.int .u8 (0)), (.int .u8 (0)), (.int .u8 (0)), (.int .u8 (0)), (.int .u8 (0)), (.int .u8 (0)), (.int .u8 (0)), (.int .u8 (0)), (.int .u8 (0)), (.int .u8 (0)), (.int .u8 (0)), (.int .u8 (0)), (.int .u8 (0)), (.int .u8 (0)), (.int .u8 (0)), (.int .u8 (0)), (.int .u8 (0)), (.int .u8 (0)), (.int .u8 (0)), (.int .u8 (0)), (.int .u8 (0)), (.int .u8 (0)), (.int .u8 (0)), (.int .u8 (0)), (.int .u8 (0)), (.int .u8 (0)), (.int .i64 (0)), (.int .i64 (0)), (.int .i64 (0)), (.int .i64 (0)), (.int .u8 (0)), .nilSl, .nilSl]) 35 (zipF [0] [.agg (actY x)]) (g2 x B) = some (.sl 7 0 1 1 false, g3 x B) := by kernel_rfl
theorem ja (hv : x.vN.oneCell = true) (hv2 : x.vA.oneCell = true) (hv3 : x.vB.oneCell = true) (hv4 : x.vK.oneCell = true) : appX 35 52 280 [.nilSl, .sl 7 0 1 1 false] (g3 x B) = some (.sl 8 0 1 1 true, g4 x B) :=
  zck1 (i := 7) (l := actY x) (by kernel_rfl) (by
    have h : (Ce.lst (actY x)).one = (x.vN.oneCell && (x.vA.oneCell && (x.vB.oneCell && (x.vK.oneCell && true)))) := by kernel_rfl
    rw [h, hv, hv2, hv3, hv4]; rfl) (by decide)
theorem k3 : ld1 (.ptr 8 3) (g4 x B) = some (.str x.ym) := by kernel_rfl
theorem kN : ld1 (.ptr 8 4) (g4 x B) = some x.vN := by kernel_rfl
theorem k4 : ldN 40 (.ptr 8 5) (g4 x B) = some (.agg (actD x)) := by kernel_rfl
theorem kb4 : bsF 40 1 (.agg [(.int .i64 (0)), (.str ⟨#[]⟩), (.str ⟨#[]⟩), (.int .i64 (0)), (.int .i64 (0)), .nilSl, (.int .i64 (0)), (.int .i64 (0)), (.int .u8 (0)), (.int .u8 (0)), (.int .u8 (0)), (.int .u8 (0)), (.int .u8 (0)), (.int .u8 (0)), (.int .u8 (0)), (.int .u8 (0)), (.int .u8 (0)), (.int .u8 (0)), (.int .u8 (0)), (.int .u8 (0)), (.int .u8 (0)), (.int .u8 (0)), (.int .u8 (0)), (.int .u8 (0)), (.int .u8 (0)), (.int .u8 (0)), (.int .u8 (0)), (.int .u8 (0)), (.int .u8 (0)), (.int .u8 (0)), (.int .u8 (0)), (.int .u8 (0)), (.int .u8 (0)), (.int .u8 (0)), (.int .u8 (0)), (.int .u8 (0)), (.int .u8 (0)), (.int .u8 (0)), (.int .u8 (0)), (.int .u8 (0))]) 30 (zipF [0] [.agg (actD x)]) (g4 x B) = some (.sl 9 0 1 1 false, g5 x B) := by kernel_rfl
theorem ka5 (hv : x.vA.oneCell = true) : appX 30 40 128 [.nilSl, .sl 9 0 1 1 false] (g5 x B) = some (.sl 10 0 1 1 true, g6 x B) := by
  obtain ⟨kd, n_, m_, nm, to, vL, yk, ya, yn, ym, vN, dk, dn, dt, d3, d4, vA, p1, p2, ds, x0, x1, x2, x3, xm, vB, vK⟩ := x
  cases vA <;> first | (cases hv; done) | kernel_rfl
theorem k51 : ldN 7 (.ptr 8 45) (g6 x B) = some (.agg (actX x)) := by kernel_rfl
theorem kb6 : bsF 7 1 (.agg [(.int .i64 (0)), (.int .i64 (0)), (.int .i64 (0)), (.int .i64 (0)), (.int .u8 (0)), .nilSl, .nilSl]) 33 (zipF [0] [.agg (actX x)]) (g6 x B) = some (.sl 11 0 1 1 false, g7 x B) := by kernel_rfl
theorem ka7 (hv : x.vB.oneCell = true) (hw : x.vK.oneCell = true) : appX 33 7 88 [.nilSl, .sl 11 0 1 1 false] (g7 x B) = some (.sl 12 0 1 1 true, g8 x B) := by
  obtain ⟨kd, n_, m_, nm, to, vL, yk, ya, yn, ym, vN, dk, dn, dt, d3, d4, vA, p1, p2, ds, x0, x1, x2, x3, xm, vB, vK⟩ := x
  cases vB <;> first | (cases hv; done) | (cases vK <;> first | (cases hw; done) | kernel_rfl)
end
theorem zjf {H : AH} {v : AV} {n : Nat} (h : IsSl H v n) : v.oneCell = true := by
  rcases h with ⟨rfl, _⟩ | ⟨i, o, c, op, rfl, _⟩ <;> rfl
theorem zyd1 (x : ActA) (B : Nat → ABlk) (nN nA nB nK : Nat) (hN : IsSl (h5 B) x.vN nN) (hA : IsSl (h5 B) x.vA nA) (hB : IsSl (h5 B) x.vB nB) (hK : IsSl (h5 B) x.vK nK) :
    FnE lookN 17 [.sl 8 0 1 1 true] (g4 x B) fun r H' => r = .bool true ∨ (r = .bool false ∧ H' = g8 x B) := by
  refine zzb f17_eq (zzz rfl) rfl ?_
  unfold f17c
  have q3 := k3 x B
  have qN := kN x B
  have q4 := k4 x B
  have q51 := k51 x B
  have p4 := kb4 x B
  have p5 := ka5 x B (zjf hA)
  have p6 := kb6 x B
  have p7 := ka7 x B (zjf hB) (zjf hK)
  have row6 : Row (g4 x B) 8 false true 35 52 (actY x) := Row.new (H := g3 x B) rfl (.lst (actY x)) 35 52 true false
  have row9a : Row (g6 x B) 10 false true 30 40 (actD x) := Row.new (H := g5 x B) rfl (.lst (actD x)) 30 40 true false
  have hx57 : HX (g6 x B) (g8 x B) := (HX.new _ _).trans (HX.new _ _)
  have row9 := row9a.hx hx57 (by show 10 < 11; decide)
  have row11 : Row (g8 x B) 12 false true 33 7 (actX x) := Row.new (H := g7 x B) rfl (.lst (actX x)) 33 7 true false
  have hs : IsSl (g4 x B) (.sl 8 0 1 1 true) 1 := row6.isSl (by show 8 < 9; decide) (Nat.zero_le _)
  have hx2 : HX (h5 B) (g4 x B) := (HX.new _ _).trans ((HX.new _ _).trans ((HX.new _ _).trans (HX.new _ _)))
  have hx7 : HX (g4 x B) (g8 x B) := (HX.new _ _).trans ((HX.new _ _).trans ((HX.new _ _).trans (HX.new _ _)))
  have h13 := zwd1 (g8 x B) 10 1 true x.dn x.dt x.vA nA (row9.isSl (by show 10 < 13; decide) (Nat.zero_le _)) (by kernel_rfl) (by kernel_rfl) (by kernel_rfl) (hA.hx (hx2.trans hx7))
  have h15 := zxd1 (g8 x B) 12 1 true x.vB x.vK nB nK (row11.isSl (by show 12 < 13; decide) (Nat.zero_le _)) (by kernel_rfl) (by kernel_rfl) (hB.hx (hx2.trans hx7)) (hK.hx (hx2.trans hx7))
  have hlen := fun H' => zpk (H' := H') uN42 hs
  have hlenN := fun H' => zpk (H' := H') uN35 (hN.hx hx2)
  have hstr := fun s H' => zaa1 uN9 s H'
  have hix : ixS 52 (.sl 8 0 1 1 true) (.int .i64 0) = some (.ptr 8 0) := rfl
  clear hx2 hx7 hN hA hB hK row6 row9a hx57 row9 row11
  generalize g4 x B = G4 at *
  generalize g5 x B = G5 at *
  generalize g6 x B = G6 at *
  generalize g7 x B = G7 at *
  generalize g8 x B = G8 at *
  (repeat' (first | refine Z ?_ | refine Zq ?_ | refine zaa (by decide) ?_ | ((first | refine' Y ?_ ?_ | refine' X ?_ ?_ ?_); rotate_left; (· (first | (simp (disch := omega) only [evl, Nat.reduceEqDiff, Nat.reduceAdd, reduceIte, reduceCtorEq] <;> exact rfl) | exact rfl)); all_goals try (refine fun (hb : _ = _) => ?_; try simp only [Zu, ne_eq, reduceCtorEq] at hb)) | (apply zba; · simp [evl])))
  refine zyf (R := fun ex T' H' => (ex = .exit 0 ∧ gT T' 0 = .sl 8 0 1 1 true ∧ gT T' 3 = .sl 10 0 1 1 true ∧ gT T' 4 = .sl 12 0 1 1 true ∧ H' = G8) ∨ (ex = .ret ∧ gT T' 2 = .bool true)) ?_ ?_
  · refine zbk zzj1 (fun j T H' => gT T 0 = .sl 8 0 1 1 true ∧ ((j = 1 ∧ gT T 5 = .int .i64 0 ∧ gT T 3 = .nilSl ∧ gT T 4 = .nilSl ∧ H' = G4) ∨ (j = 0 ∧ gT T 5 = .int .i64 1 ∧ gT T 3 = .sl 10 0 1 1 true ∧ gT T 4 = .sl 12 0 1 1 true ∧ H' = G8))) _ ?_ 1 _ _ ?_
    · rintro j T H2 ⟨e0, ⟨rfl, e5, e3, e4, rfl⟩ | ⟨rfl, e5, e3, e4, rfl⟩⟩
      · unfold f17l0
        by_cases hbig : 100 < x.ym.size
        · (repeat' (first | refine Z ?_ | refine Zq ?_ | refine zaa (by decide) ?_ | ((first | refine' Y ?_ ?_ | refine' X ?_ ?_ ?_); rotate_left; (· (first | (simp (disch := omega) only [evl, Nat.reduceEqDiff, Nat.reduceAdd, reduceIte, reduceCtorEq, e0, e3, e4, e5, hlen, hix, q3, hstr] <;> exact rfl) | exact rfl)); all_goals try (refine fun (hb : _ = _) => ?_; try simp only [Zu, ne_eq, reduceCtorEq] at hb)) | (apply zba; · simp [evl])))
          refine zga ?_
          refine lpq_r (.inr ⟨rfl, ?_⟩)
          (simp (disch := omega) only [evl, Nat.reduceEqDiff, Nat.reduceAdd, reduceIte, reduceCtorEq])
        · by_cases hb2 : 2000 < nN
          · (repeat' (first | refine Z ?_ | refine Zq ?_ | refine zaa (by decide) ?_ | ((first | refine' Y ?_ ?_ | refine' X ?_ ?_ ?_); rotate_left; (· (first | (simp (disch := omega) only [evl, Nat.reduceEqDiff, Nat.reduceAdd, reduceIte, reduceCtorEq, e0, e3, e4, e5, hlen, hix, q3, qN, hstr, hlenN] <;> exact rfl) | exact rfl)); all_goals try (refine fun (hb : _ = _) => ?_; try simp only [Zu, ne_eq, reduceCtorEq] at hb)) | (apply zba; · simp [evl])))
            refine zga ?_
            refine lpq_r (.inr ⟨rfl, ?_⟩)
            (simp (disch := omega) only [evl, Nat.reduceEqDiff, Nat.reduceAdd, reduceIte, reduceCtorEq])
          · (repeat' (first | refine Z ?_ | refine Zq ?_ | refine zaa (by decide) ?_ | ((first | refine' Y ?_ ?_ | refine' X ?_ ?_ ?_); rotate_left; (· (first | (simp (disch := omega) only [evl, Nat.reduceEqDiff, Nat.reduceAdd, reduceIte, reduceCtorEq, e0, e3, e4, e5, hlen, hix, q3, qN, q4, hstr, hlenN] <;> exact rfl) | exact rfl)); all_goals try (refine fun (hb : _ = _) => ?_; try simp only [Zu, ne_eq, reduceCtorEq] at hb)) | (apply zba; · simp [evl])))
            refine rk_hn (by (simp (disch := omega) only [evl, Nat.reduceEqDiff, Nat.reduceAdd, reduceIte, reduceCtorEq, q4]); exact p4) ?_
            simp only [zra]
            (repeat' (first | refine Z ?_ | refine Zq ?_ | refine zaa (by decide) ?_ | ((first | refine' Y ?_ ?_ | refine' X ?_ ?_ ?_); rotate_left; (· (first | (simp (disch := omega) only [evl, Nat.reduceEqDiff, Nat.reduceAdd, reduceIte, reduceCtorEq, e0, e3, e4, e5] <;> exact rfl) | exact rfl)); all_goals try (refine fun (hb : _ = _) => ?_; try simp only [Zu, ne_eq, reduceCtorEq] at hb)) | (apply zba; · simp [evl])))
            refine rk_hn (by (simp (disch := omega) only [evl, Nat.reduceEqDiff, Nat.reduceAdd, reduceIte, reduceCtorEq, e3]); exact p5) ?_
            simp only [zra]
            (repeat' (first | refine Z ?_ | refine Zq ?_ | refine zaa (by decide) ?_ | ((first | refine' Y ?_ ?_ | refine' X ?_ ?_ ?_); rotate_left; (· (first | (simp (disch := omega) only [evl, Nat.reduceEqDiff, Nat.reduceAdd, reduceIte, reduceCtorEq, e0, e3, e4, e5, hix, q51] <;> exact rfl) | exact rfl)); all_goals try (refine fun (hb : _ = _) => ?_; try simp only [Zu, ne_eq, reduceCtorEq] at hb)) | (apply zba; · simp [evl])))
            refine rk_hn (by (simp (disch := omega) only [evl, Nat.reduceEqDiff, Nat.reduceAdd, reduceIte, reduceCtorEq, q51]); exact p6) ?_
            simp only [zra]
            (repeat' (first | refine Z ?_ | refine Zq ?_ | refine zaa (by decide) ?_ | ((first | refine' Y ?_ ?_ | refine' X ?_ ?_ ?_); rotate_left; (· (first | (simp (disch := omega) only [evl, Nat.reduceEqDiff, Nat.reduceAdd, reduceIte, reduceCtorEq, e0, e3, e4, e5] <;> exact rfl) | exact rfl)); all_goals try (refine fun (hb : _ = _) => ?_; try simp only [Zu, ne_eq, reduceCtorEq] at hb)) | (apply zba; · simp [evl])))
            refine rk_hn (by (simp (disch := omega) only [evl, Nat.reduceEqDiff, Nat.reduceAdd, reduceIte, reduceCtorEq, e4]); exact p7) ?_
            simp only [zra]
            (repeat' (first | refine Z ?_ | refine Zq ?_ | refine zaa (by decide) ?_ | ((first | refine' Y ?_ ?_ | refine' X ?_ ?_ ?_); rotate_left; (· (first | (simp (disch := omega) only [evl, Nat.reduceEqDiff, Nat.reduceAdd, reduceIte, reduceCtorEq, e0, e3, e4, e5] <;> exact rfl) | exact rfl)); all_goals try (refine fun (hb : _ = _) => ?_; try simp only [Zu, ne_eq, reduceCtorEq] at hb)) | (apply zba; · simp [evl])))
            refine zga ?_
            refine lpq_n 0 (by omega) ⟨?_, .inr ⟨rfl, ?_, ?_, ?_, rfl⟩⟩
            · (simp (disch := omega) only [evl, Nat.reduceEqDiff, Nat.reduceAdd, reduceIte, reduceCtorEq, e0])
            · (simp (disch := omega) only [evl, Nat.reduceEqDiff, Nat.reduceAdd, reduceIte, reduceCtorEq, e5]); rfl
            · (simp (disch := omega) only [evl, Nat.reduceEqDiff, Nat.reduceAdd, reduceIte, reduceCtorEq])
            · (simp (disch := omega) only [evl, Nat.reduceEqDiff, Nat.reduceAdd, reduceIte, reduceCtorEq])
      · unfold f17l0
        (repeat' (first | refine Z ?_ | refine Zq ?_ | refine zaa (by decide) ?_ | ((first | refine' Y ?_ ?_ | refine' X ?_ ?_ ?_); rotate_left; (· (first | (simp (disch := omega) only [evl, Nat.reduceEqDiff, Nat.reduceAdd, reduceIte, reduceCtorEq, e0, e5, hlen] <;> exact rfl) | exact rfl)); all_goals try (refine fun (hb : _ = _) => ?_; try simp only [Zu, ne_eq, reduceCtorEq] at hb)) | (apply zba; · simp [evl])))
        refine zga ?_
        refine lpq_e (.inl ⟨rfl, ?_, ?_, ?_, rfl⟩)
        · (simp (disch := omega) only [evl, Nat.reduceEqDiff, Nat.reduceAdd, reduceIte, reduceCtorEq, e0])
        · (simp (disch := omega) only [evl, Nat.reduceEqDiff, Nat.reduceAdd, reduceIte, reduceCtorEq, e3])
        · (simp (disch := omega) only [evl, Nat.reduceEqDiff, Nat.reduceAdd, reduceIte, reduceCtorEq, e4])
    · refine ⟨?_, .inl ⟨rfl, ?_, ?_, ?_, rfl⟩⟩
      · (simp (disch := omega) only [evl, Nat.reduceEqDiff, Nat.reduceAdd, reduceIte, reduceCtorEq])
      · (simp (disch := omega) only [evl, Nat.reduceEqDiff, Nat.reduceAdd, reduceIte, reduceCtorEq])
      · (simp (disch := omega) only [evl, Nat.reduceEqDiff, Nat.reduceAdd, reduceIte, reduceCtorEq])
      · (simp (disch := omega) only [evl, Nat.reduceEqDiff, Nat.reduceAdd, reduceIte, reduceCtorEq])
  · rintro ex T' H' (⟨rfl, e0, e3, e4, rfl⟩ | ⟨rfl, e2⟩)
    · (repeat' (first | refine Z ?_ | refine Zq ?_ | refine zaa (by decide) ?_ | ((first | refine' Y ?_ ?_ | refine' X ?_ ?_ ?_); rotate_left; (· (first | (simp (disch := omega) only [evl, Nat.reduceEqDiff, Nat.reduceAdd, reduceIte, reduceCtorEq, e0, e3, e4, hlen] <;> exact rfl) | exact rfl)); all_goals try (refine fun (hb : _ = _) => ?_; try simp only [Zu, ne_eq, reduceCtorEq] at hb)) | (apply zba; · simp [evl])))
      refine rk_cl (by (simp (disch := omega) only [evl, Nat.reduceEqDiff, Nat.reduceAdd, reduceIte, reduceCtorEq, e3]); exact h13) ?_
      rintro r H3 ⟨⟨b, rfl⟩, rfl⟩
      simp only [zra]
      cases b
      · (repeat' (first | refine Z ?_ | refine Zq ?_ | refine zaa (by decide) ?_ | ((first | refine' Y ?_ ?_ | refine' X ?_ ?_ ?_); rotate_left; (· (first | (simp (disch := omega) only [evl, Nat.reduceEqDiff, Nat.reduceAdd, reduceIte, reduceCtorEq, e0, e3, e4] <;> exact rfl) | exact rfl)); all_goals try (refine fun (hb : _ = _) => ?_; try simp only [Zu, ne_eq, reduceCtorEq] at hb)) | (apply zba; · simp [evl])))
        refine rk_cl (by (simp (disch := omega) only [evl, Nat.reduceEqDiff, Nat.reduceAdd, reduceIte, reduceCtorEq, e4]); exact h15) ?_
        rintro r H3 ⟨⟨b, rfl⟩, rfl⟩
        simp only [zra]
        (repeat' (first | refine Z ?_ | refine Zq ?_ | refine zaa (by decide) ?_ | ((first | refine' Y ?_ ?_ | refine' X ?_ ?_ ?_); rotate_left; (· (first | (simp (disch := omega) only [evl, Nat.reduceEqDiff, Nat.reduceAdd, reduceIte, reduceCtorEq] <;> exact rfl) | exact rfl)); all_goals try (refine fun (hb : _ = _) => ?_; try simp only [Zu, ne_eq, reduceCtorEq] at hb)) | (apply zba; · simp [evl])))
        refine zga ?_
        refine zfc (zkc _ _) ?_
        cases b
        · exact .inr ⟨by (simp (disch := omega) only [evl, Nat.reduceEqDiff, Nat.reduceAdd, reduceIte, reduceCtorEq]), rfl⟩
        · exact .inl (by (simp (disch := omega) only [evl, Nat.reduceEqDiff, Nat.reduceAdd, reduceIte, reduceCtorEq]))
      · (repeat' (first | refine Z ?_ | refine Zq ?_ | refine zaa (by decide) ?_ | ((first | refine' Y ?_ ?_ | refine' X ?_ ?_ ?_); rotate_left; (· (first | (simp (disch := omega) only [evl, Nat.reduceEqDiff, Nat.reduceAdd, reduceIte, reduceCtorEq, e0, e3, e4] <;> exact rfl) | exact rfl)); all_goals try (refine fun (hb : _ = _) => ?_; try simp only [Zu, ne_eq, reduceCtorEq] at hb)) | (apply zba; · simp [evl])))
        refine zga ?_
        refine zfc (zkc _ _) (.inl ?_)
        (simp (disch := omega) only [evl, Nat.reduceEqDiff, Nat.reduceAdd, reduceIte, reduceCtorEq])
    · (repeat' (first | refine Z ?_ | refine Zq ?_ | refine zaa (by decide) ?_ | ((first | refine' Y ?_ ?_ | refine' X ?_ ?_ ?_); rotate_left; (· (first | (simp (disch := omega) only [evl, Nat.reduceEqDiff, Nat.reduceAdd, reduceIte, reduceCtorEq, e2] <;> exact rfl) | exact rfl)); all_goals try (refine fun (hb : _ = _) => ?_; try simp only [Zu, ne_eq, reduceCtorEq] at hb)) | (apply zba; · simp [evl])))
      refine zga ?_
      refine zfc (zkc _ _) (.inl ?_)
      (simp (disch := omega) only [evl, Nat.reduceEqDiff, Nat.reduceAdd, reduceIte, reduceCtorEq, e2])
theorem zzd1 (x : ActA) (B : Nat → ABlk) (nL nN nA nB nK : Nat) (ss : Nat → ByteArray) (hL : SlR (h5 B) x.vL nL (fun k => .str (ss k))) (hN : IsSl (h5 B) x.vN nN) (hA : IsSl (h5 B) x.vA nA) (hB : IsSl (h5 B) x.vB nB) (hK : IsSl (h5 B) x.vK nK) :
    FnE lookN 4 [.sl 6 0 1 1 false] (g2 x B) fun r H' => r = .bool true ∨ (r = .bool false ∧ H' = g8 x B) := by
  refine zzb f4_eq (zzz rfl) rfl ?_
  unfold f4c
  have hLong := zyd1 x B nN nA nB nK hN hA hB hK
  have q3 := j3 x B
  have q4 := j4 x B
  have qL := jL x B
  have q6 := j6 x B
  have p6 := jb x B
  have p7 := ja x B (zjf hN) (zjf hA) (zjf hB) (zjf hK)
  have row6 : Row (g2 x B) 6 false false 37 58 (actL x) := Row.new (H := g1 x B) rfl (.lst (actL x)) 37 58 false false
  have hs : IsSl (g2 x B) (.sl 6 0 1 1 false) 1 := row6.isSl (by show 6 < 7; decide) (Nat.zero_le _)
  have hx2 : HX (h5 B) (g2 x B) := (HX.new _ _).trans (HX.new _ _)
  have hL2 := hL.hx hx2
  have hlen := fun H' => zpk (H' := H') uN24 hs
  have hlenL := fun H' => zpk (H' := H') uN26 hL2.is
  have hstr := fun s H' => zaa1 uN9 s H'
  have hix : ixS 58 (.sl 6 0 1 1 false) (.int .i64 0) = some (.ptr 6 0) := rfl
  have hixL := @ix_el _ _ _ hL2.is
  clear hx2 hN hA hB hK row6
  generalize g2 x B = G2 at *
  generalize g3 x B = G3 at *
  generalize g4 x B = G4 at *
  (repeat' (first | refine Z ?_ | refine Zq ?_ | refine zaa (by decide) ?_ | ((first | refine' Y ?_ ?_ | refine' X ?_ ?_ ?_); rotate_left; (· (first | (simp (disch := omega) only [evl, Nat.reduceEqDiff, Nat.reduceAdd, reduceIte, reduceCtorEq] <;> exact rfl) | exact rfl)); all_goals try (refine fun (hb : _ = _) => ?_; try simp only [Zu, ne_eq, reduceCtorEq] at hb)) | (apply zba; · simp [evl])))
  refine zyf (R := fun ex T' H' => (ex = .exit 0 ∧ gT T' 0 = .sl 6 0 1 1 false ∧ gT T' 3 = .sl 8 0 1 1 true ∧ H' = G4) ∨ (ex = .ret ∧ gT T' 2 = .bool true)) ?_ ?_
  · refine zbk f4l0_eq (fun j T H' => gT T 0 = .sl 6 0 1 1 false ∧ ((j = 1 ∧ gT T 4 = .int .i64 0 ∧ gT T 3 = .nilSl ∧ H' = G2) ∨ (j = 0 ∧ gT T 4 = .int .i64 1 ∧ gT T 3 = .sl 8 0 1 1 true ∧ H' = G4))) _ ?_ 1 _ _ ?_
    · rintro j T H2 ⟨e0, ⟨rfl, e4, e3, rfl⟩ | ⟨rfl, e4, e3, rfl⟩⟩
      · unfold f4l0
        by_cases hb1 : 100 < x.nm.size
        · (repeat' (first | refine Z ?_ | refine Zq ?_ | refine zaa (by decide) ?_ | ((first | refine' Y ?_ ?_ | refine' X ?_ ?_ ?_); rotate_left; (· (first | (simp (disch := omega) only [evl, Nat.reduceEqDiff, Nat.reduceAdd, reduceIte, reduceCtorEq, e0, e3, e4, hlen, hix, q3, q4, qL, hstr, hlenL] <;> exact rfl) | exact rfl)); all_goals try (refine fun (hb : _ = _) => ?_; try simp only [Zu, ne_eq, reduceCtorEq] at hb)) | (apply zba; · simp [evl])))
          refine zga ?_
          refine lpq_r (.inr ⟨rfl, ?_⟩)
          (simp (disch := omega) only [evl, Nat.reduceEqDiff, Nat.reduceAdd, reduceIte, reduceCtorEq])
        by_cases hb2 : 100 < x.to.size
        · (repeat' (first | refine Z ?_ | refine Zq ?_ | refine zaa (by decide) ?_ | ((first | refine' Y ?_ ?_ | refine' X ?_ ?_ ?_); rotate_left; (· (first | (simp (disch := omega) only [evl, Nat.reduceEqDiff, Nat.reduceAdd, reduceIte, reduceCtorEq, e0, e3, e4, hlen, hix, q3, q4, qL, hstr, hlenL] <;> exact rfl) | exact rfl)); all_goals try (refine fun (hb : _ = _) => ?_; try simp only [Zu, ne_eq, reduceCtorEq] at hb)) | (apply zba; · simp [evl])))
          refine zga ?_
          refine lpq_r (.inr ⟨rfl, ?_⟩)
          (simp (disch := omega) only [evl, Nat.reduceEqDiff, Nat.reduceAdd, reduceIte, reduceCtorEq])
        by_cases hb3 : 20 < nL
        · (repeat' (first | refine Z ?_ | refine Zq ?_ | refine zaa (by decide) ?_ | ((first | refine' Y ?_ ?_ | refine' X ?_ ?_ ?_); rotate_left; (· (first | (simp (disch := omega) only [evl, Nat.reduceEqDiff, Nat.reduceAdd, reduceIte, reduceCtorEq, e0, e3, e4, hlen, hix, q3, q4, qL, hstr, hlenL] <;> exact rfl) | exact rfl)); all_goals try (refine fun (hb : _ = _) => ?_; try simp only [Zu, ne_eq, reduceCtorEq] at hb)) | (apply zba; · simp [evl])))
          refine zga ?_
          refine lpq_r (.inr ⟨rfl, ?_⟩)
          (simp (disch := omega) only [evl, Nat.reduceEqDiff, Nat.reduceAdd, reduceIte, reduceCtorEq])
        (repeat' (first | refine Z ?_ | refine Zq ?_ | refine zaa (by decide) ?_ | ((first | refine' Y ?_ ?_ | refine' X ?_ ?_ ?_); rotate_left; (· (first | (simp (disch := omega) only [evl, Nat.reduceEqDiff, Nat.reduceAdd, reduceIte, reduceCtorEq, e0, e3, e4, hlen, hix, q3, q4, qL, hstr, hlenL] <;> exact rfl) | exact rfl)); all_goals try (refine fun (hb : _ = _) => ?_; try simp only [Zu, ne_eq, reduceCtorEq] at hb)) | (apply zba; · simp [evl])))
        refine zyf (R := fun ex T' H' => (ex = .exit 2 ∧ gT T' 0 = .sl 6 0 1 1 false ∧ gT T' 3 = .nilSl ∧ gT T' 4 = .int .i64 0 ∧ H' = H2) ∨ (ex = .ret ∧ gT T' 2 = .bool true)) ?_ ?_
        · refine zbk f4l1_eq (fun j T H' => ∃ q : Nat, j = nL - q ∧ q ≤ nL ∧ gT T 0 = .sl 6 0 1 1 false ∧ gT T 3 = .nilSl ∧ gT T 4 = .int .i64 0 ∧ gT T 5 = .int .i64 q ∧ H' = H2) _ ?_ nL _ _ ?_
          · rintro j T H3 ⟨q, hj, hq, d0, d3, d4, d5, rfl⟩
            unfold f4l1
            by_cases hlt : q < nL
            · have hel := hL2.el q hlt
              by_cases hbig : 100 < (ss q).size
              · (repeat' (first | refine Z ?_ | refine Zq ?_ | refine zaa (by decide) ?_ | ((first | refine' Y ?_ ?_ | refine' X ?_ ?_ ?_); rotate_left; (· (first | (simp (disch := omega) only [evl, Nat.reduceEqDiff, Nat.reduceAdd, reduceIte, reduceCtorEq, d0, d3, d4, d5, hix, qL, hlenL, hixL, hel, hstr] <;> exact rfl) | exact rfl)); all_goals try (refine fun (hb : _ = _) => ?_; try simp only [Zu, ne_eq, reduceCtorEq] at hb)) | (apply zba; · simp [evl])))
                refine zga ?_
                refine lpq_r (.inr ⟨rfl, ?_⟩)
                (simp (disch := omega) only [evl, Nat.reduceEqDiff, Nat.reduceAdd, reduceIte, reduceCtorEq])
              · (repeat' (first | refine Z ?_ | refine Zq ?_ | refine zaa (by decide) ?_ | ((first | refine' Y ?_ ?_ | refine' X ?_ ?_ ?_); rotate_left; (· (first | (simp (disch := omega) only [evl, Nat.reduceEqDiff, Nat.reduceAdd, reduceIte, reduceCtorEq, d0, d3, d4, d5, hix, qL, hlenL, hixL, hel, hstr] <;> exact rfl) | exact rfl)); all_goals try (refine fun (hb : _ = _) => ?_; try simp only [Zu, ne_eq, reduceCtorEq] at hb)) | (apply zba; · simp [evl])))
                refine zga ?_
                refine lpq_n (nL - (q + 1)) (by omega) ⟨q + 1, rfl, by omega, ?_, ?_, ?_, ?_, rfl⟩
                · (simp (disch := omega) only [evl, Nat.reduceEqDiff, Nat.reduceAdd, reduceIte, reduceCtorEq, d0])
                · (simp (disch := omega) only [evl, Nat.reduceEqDiff, Nat.reduceAdd, reduceIte, reduceCtorEq, d3])
                · (simp (disch := omega) only [evl, Nat.reduceEqDiff, Nat.reduceAdd, reduceIte, reduceCtorEq, d4])
                · (simp (disch := omega) only [evl, Nat.reduceEqDiff, Nat.reduceAdd, reduceIte, reduceCtorEq, d5]); push_cast; rfl
            · (repeat' (first | refine Z ?_ | refine Zq ?_ | refine zaa (by decide) ?_ | ((first | refine' Y ?_ ?_ | refine' X ?_ ?_ ?_); rotate_left; (· (first | (simp (disch := omega) only [evl, Nat.reduceEqDiff, Nat.reduceAdd, reduceIte, reduceCtorEq, d0, d3, d4, d5, hix, qL, hlenL] <;> exact rfl) | exact rfl)); all_goals try (refine fun (hb : _ = _) => ?_; try simp only [Zu, ne_eq, reduceCtorEq] at hb)) | (apply zba; · simp [evl])))
              refine zga ?_
              refine lpq_e (.inl ⟨rfl, ?_, ?_, ?_, rfl⟩)
              · (simp (disch := omega) only [evl, Nat.reduceEqDiff, Nat.reduceAdd, reduceIte, reduceCtorEq, d0])
              · (simp (disch := omega) only [evl, Nat.reduceEqDiff, Nat.reduceAdd, reduceIte, reduceCtorEq, d3])
              · (simp (disch := omega) only [evl, Nat.reduceEqDiff, Nat.reduceAdd, reduceIte, reduceCtorEq, d4])
          · refine ⟨0, by omega, Nat.zero_le _, ?_, ?_, ?_, ?_, rfl⟩
            · (simp (disch := omega) only [evl, Nat.reduceEqDiff, Nat.reduceAdd, reduceIte, reduceCtorEq, e0])
            · (simp (disch := omega) only [evl, Nat.reduceEqDiff, Nat.reduceAdd, reduceIte, reduceCtorEq, e3])
            · (simp (disch := omega) only [evl, Nat.reduceEqDiff, Nat.reduceAdd, reduceIte, reduceCtorEq, e4])
            · (simp (disch := omega) only [evl, Nat.reduceEqDiff, Nat.reduceAdd, reduceIte, reduceCtorEq]); rfl
        · rintro ex T' H' (⟨rfl, d0, d3, d4, rfl⟩ | ⟨rfl, d2⟩)
          · (repeat' (first | refine Z ?_ | refine Zq ?_ | refine zaa (by decide) ?_ | ((first | refine' Y ?_ ?_ | refine' X ?_ ?_ ?_); rotate_left; (· (first | (simp (disch := omega) only [evl, Nat.reduceEqDiff, Nat.reduceAdd, reduceIte, reduceCtorEq, d0, d3, d4, hix, q6] <;> exact rfl) | exact rfl)); all_goals try (refine fun (hb : _ = _) => ?_; try simp only [Zu, ne_eq, reduceCtorEq] at hb)) | (apply zba; · simp [evl])))
            refine rk_hn (by (simp (disch := omega) only [evl, Nat.reduceEqDiff, Nat.reduceAdd, reduceIte, reduceCtorEq, q6]); exact p6) ?_
            simp only [zra]
            (repeat' (first | refine Z ?_ | refine Zq ?_ | refine zaa (by decide) ?_ | ((first | refine' Y ?_ ?_ | refine' X ?_ ?_ ?_); rotate_left; (· (first | (simp (disch := omega) only [evl, Nat.reduceEqDiff, Nat.reduceAdd, reduceIte, reduceCtorEq, d0, d3, d4] <;> exact rfl) | exact rfl)); all_goals try (refine fun (hb : _ = _) => ?_; try simp only [Zu, ne_eq, reduceCtorEq] at hb)) | (apply zba; · simp [evl])))
            refine rk_hn (by (simp (disch := omega) only [evl, Nat.reduceEqDiff, Nat.reduceAdd, reduceIte, reduceCtorEq, d3]); exact p7) ?_
            simp only [zra]
            (repeat' (first | refine Z ?_ | refine Zq ?_ | refine zaa (by decide) ?_ | ((first | refine' Y ?_ ?_ | refine' X ?_ ?_ ?_); rotate_left; (· (first | (simp (disch := omega) only [evl, Nat.reduceEqDiff, Nat.reduceAdd, reduceIte, reduceCtorEq, d0, d3, d4] <;> exact rfl) | exact rfl)); all_goals try (refine fun (hb : _ = _) => ?_; try simp only [Zu, ne_eq, reduceCtorEq] at hb)) | (apply zba; · simp [evl])))
            refine zga ?_
            refine lpq_n 0 (by omega) ⟨?_, .inr ⟨rfl, ?_, ?_, rfl⟩⟩
            · (simp (disch := omega) only [evl, Nat.reduceEqDiff, Nat.reduceAdd, reduceIte, reduceCtorEq, d0])
            · (simp (disch := omega) only [evl, Nat.reduceEqDiff, Nat.reduceAdd, reduceIte, reduceCtorEq, d4]); rfl
            · (simp (disch := omega) only [evl, Nat.reduceEqDiff, Nat.reduceAdd, reduceIte, reduceCtorEq])
          · (repeat' (first | refine Z ?_ | refine Zq ?_ | refine zaa (by decide) ?_ | ((first | refine' Y ?_ ?_ | refine' X ?_ ?_ ?_); rotate_left; (· (first | (simp (disch := omega) only [evl, Nat.reduceEqDiff, Nat.reduceAdd, reduceIte, reduceCtorEq, d2] <;> exact rfl) | exact rfl)); all_goals try (refine fun (hb : _ = _) => ?_; try simp only [Zu, ne_eq, reduceCtorEq] at hb)) | (apply zba; · simp [evl])))
            refine zga ?_
            refine lpq_r (.inr ⟨rfl, ?_⟩)
            (simp (disch := omega) only [evl, Nat.reduceEqDiff, Nat.reduceAdd, reduceIte, reduceCtorEq, d2])
      · unfold f4l0
        (repeat' (first | refine Z ?_ | refine Zq ?_ | refine zaa (by decide) ?_ | ((first | refine' Y ?_ ?_ | refine' X ?_ ?_ ?_); rotate_left; (· (first | (simp (disch := omega) only [evl, Nat.reduceEqDiff, Nat.reduceAdd, reduceIte, reduceCtorEq, e0, e4, hlen] <;> exact rfl) | exact rfl)); all_goals try (refine fun (hb : _ = _) => ?_; try simp only [Zu, ne_eq, reduceCtorEq] at hb)) | (apply zba; · simp [evl])))
        refine zga ?_
        refine lpq_e (.inl ⟨rfl, ?_, ?_, rfl⟩)
        · (simp (disch := omega) only [evl, Nat.reduceEqDiff, Nat.reduceAdd, reduceIte, reduceCtorEq, e0])
        · (simp (disch := omega) only [evl, Nat.reduceEqDiff, Nat.reduceAdd, reduceIte, reduceCtorEq, e3])
    · refine ⟨?_, .inl ⟨rfl, ?_, ?_, rfl⟩⟩
      · (simp (disch := omega) only [evl, Nat.reduceEqDiff, Nat.reduceAdd, reduceIte, reduceCtorEq])
      · (simp (disch := omega) only [evl, Nat.reduceEqDiff, Nat.reduceAdd, reduceIte, reduceCtorEq])
      · (simp (disch := omega) only [evl, Nat.reduceEqDiff, Nat.reduceAdd, reduceIte, reduceCtorEq])
  · rintro ex T' H' (⟨rfl, e0, e3, rfl⟩ | ⟨rfl, e2⟩)
    · (repeat' (first | refine Z ?_ | refine Zq ?_ | refine zaa (by decide) ?_ | ((first | refine' Y ?_ ?_ | refine' X ?_ ?_ ?_); rotate_left; (· (first | (simp (disch := omega) only [evl, Nat.reduceEqDiff, Nat.reduceAdd, reduceIte, reduceCtorEq, e0, e3, hlen] <;> exact rfl) | exact rfl)); all_goals try (refine fun (hb : _ = _) => ?_; try simp only [Zu, ne_eq, reduceCtorEq] at hb)) | (apply zba; · simp [evl])))
      refine rk_cl (by (simp (disch := omega) only [evl, Nat.reduceEqDiff, Nat.reduceAdd, reduceIte, reduceCtorEq, e3]); exact hLong) ?_
      rintro r H3 (rfl | ⟨rfl, rfl⟩)
      · simp only [zra]
        (repeat' (first | refine Z ?_ | refine Zq ?_ | refine zaa (by decide) ?_ | ((first | refine' Y ?_ ?_ | refine' X ?_ ?_ ?_); rotate_left; (· (first | (simp (disch := omega) only [evl, Nat.reduceEqDiff, Nat.reduceAdd, reduceIte, reduceCtorEq] <;> exact rfl) | exact rfl)); all_goals try (refine fun (hb : _ = _) => ?_; try simp only [Zu, ne_eq, reduceCtorEq] at hb)) | (apply zba; · simp [evl])))
        refine zga ?_; refine zfc (zkc _ _) (.inl ?_)
        (simp (disch := omega) only [evl, Nat.reduceEqDiff, Nat.reduceAdd, reduceIte, reduceCtorEq])
      · simp only [zra]
        (repeat' (first | refine Z ?_ | refine Zq ?_ | refine zaa (by decide) ?_ | ((first | refine' Y ?_ ?_ | refine' X ?_ ?_ ?_); rotate_left; (· (first | (simp (disch := omega) only [evl, Nat.reduceEqDiff, Nat.reduceAdd, reduceIte, reduceCtorEq] <;> exact rfl) | exact rfl)); all_goals try (refine fun (hb : _ = _) => ?_; try simp only [Zu, ne_eq, reduceCtorEq] at hb)) | (apply zba; · simp [evl])))
        refine zga ?_; refine zfc (zkc _ _) (.inr ⟨?_, rfl⟩)
        (simp (disch := omega) only [evl, Nat.reduceEqDiff, Nat.reduceAdd, reduceIte, reduceCtorEq])
    · (repeat' (first | refine Z ?_ | refine Zq ?_ | refine zaa (by decide) ?_ | ((first | refine' Y ?_ ?_ | refine' X ?_ ?_ ?_); rotate_left; (· (first | (simp (disch := omega) only [evl, Nat.reduceEqDiff, Nat.reduceAdd, reduceIte, reduceCtorEq, e2] <;> exact rfl) | exact rfl)); all_goals try (refine fun (hb : _ = _) => ?_; try simp only [Zu, ne_eq, reduceCtorEq] at hb)) | (apply zba; · simp [evl])))
      refine zga ?_
      refine zfc (zkc _ _) (.inl ?_)
      (simp (disch := omega) only [evl, Nat.reduceEqDiff, Nat.reduceAdd, reduceIte, reduceCtorEq, e2])
set_option maxRecDepth 1000000
def getO : Option Out → Out | some o => o | none => ⟨.normal, .nil, H0⟩
theorem rc_runT {L : Lk} {c : C2} {T : Tr AV} {H : AH} {Q : PostC} (n : Nat) (h : ∀ k, evC' c L (evF L (k + n)) (kOf L (evF L (k + n)) []) T H = some (getO (evC' c L (evF L n) (kOf L (evF L n) []) T H)))
    (hq : Q (getO (evC' c L (evF L n) (kOf L (evF L n) []) T H)).ex (getO (evC' c L (evF L n) (kOf L (evF L n) []) T H)).T (getO (evC' c L (evF L n) (kOf L (evF L n) []) T H)).H) : RC L c [] T H Q :=
  ⟨_, hq, n, fun m hm => by obtain ⟨k, rfl⟩ : ∃ k, m = k + n := ⟨m - n, by omega⟩; exact h k⟩
theorem zae1 (H : AH) : FnE lookN 5 [] H fun r H' => r = .bool true ∧ H' = { H with fz := true } := fnE_ext (show lookN.ext 5 = some zqk from rfl) rfl
section
variable (x : ActA) (B : Nat → ABlk)
theorem k58a : ldN 58 (.ptr 5 0) (g1 x B) = some (.agg (actL x)) := by kernel_rfl
end
theorem zpo (x : ActA) (B : Nat → ABlk) (nL nN nA nB nK : Nat) (ss : Nat → ByteArray) (hL : SlR (h5 B) x.vL nL (fun k => .str (ss k))) (hN : IsSl (h5 B) x.vN nN) (hA : IsSl (h5 B) x.vA nA) (hB : IsSl (h5 B) x.vB nB) (hK : IsSl (h5 B) x.vK nK) :
    FnE lookN 3 [.agg (actL x)] (h5 B) fun r H' => r = .bool true := by
  have hLong := zzd1 x B nL nN nA nB nK ss hL hN hA hB hK
  clear hL hN hA hB hK
  refine zzb f3_eq (zzz rfl) rfl ?_
  unfold f3c
  (repeat' (first | refine Z ?_ | refine Zq ?_ | refine zaa (by decide) ?_ | ((first | refine' Y ?_ ?_ | refine' X ?_ ?_ ?_); rotate_left; (· (first | (simp (disch := omega) only [evl, Nat.reduceEqDiff, Nat.reduceAdd, reduceIte, reduceCtorEq] <;> exact rfl) | exact rfl)); all_goals try (refine fun (hb : _ = _) => ?_; try simp only [Zu, ne_eq, reduceCtorEq] at hb)) | (apply zba; · simp [evl])))
  refine rk_m1 (v := .ptr 5 0) (H' := g1 x B) (by (simp (disch := omega) only [evl, Nat.reduceEqDiff, Nat.reduceAdd, reduceIte, reduceCtorEq]); exact zwb1 _ _ _ _) ?_
  simp only [zra]
  have q := k58a x B
  (repeat' (first | refine Z ?_ | refine Zq ?_ | refine zaa (by decide) ?_ | ((first | refine' Y ?_ ?_ | refine' X ?_ ?_ ?_); rotate_left; (· (first | (simp (disch := omega) only [evl, Nat.reduceEqDiff, Nat.reduceAdd, reduceIte, reduceCtorEq, q] <;> exact rfl) | exact rfl)); all_goals try (refine fun (hb : _ = _) => ?_; try simp only [Zu, ne_eq, reduceCtorEq] at hb)) | (apply zba; · simp [evl])))
  refine rk_hn (v := .sl 6 0 1 1 false) (H' := g2 x B) (by (simp (disch := omega) only [evl, Nat.reduceEqDiff, Nat.reduceAdd, reduceIte, reduceCtorEq, q]); kernel_rfl) ?_
  simp only [zra]
  (repeat' (first | refine Z ?_ | refine Zq ?_ | refine zaa (by decide) ?_ | ((first | refine' Y ?_ ?_ | refine' X ?_ ?_ ?_); rotate_left; (· (first | (simp (disch := omega) only [evl, Nat.reduceEqDiff, Nat.reduceAdd, reduceIte, reduceCtorEq] <;> exact rfl) | exact rfl)); all_goals try (refine fun (hb : _ = _) => ?_; try simp only [Zu, ne_eq, reduceCtorEq] at hb)) | (apply zba; · simp [evl])))
  refine rk_cl (by (simp (disch := omega) only [evl, Nat.reduceEqDiff, Nat.reduceAdd, reduceIte, reduceCtorEq]); exact hLong) ?_
  rintro r H3 (rfl | ⟨rfl, rfl⟩)
  · simp only [zra]
    (repeat' (first | refine Z ?_ | refine Zq ?_ | refine zaa (by decide) ?_ | ((first | refine' Y ?_ ?_ | refine' X ?_ ?_ ?_); rotate_left; (· (first | (simp (disch := omega) only [evl, Nat.reduceEqDiff, Nat.reduceAdd, reduceIte, reduceCtorEq] <;> exact rfl) | exact rfl)); all_goals try (refine fun (hb : _ = _) => ?_; try simp only [Zu, ne_eq, reduceCtorEq] at hb)) | (apply zba; · simp [evl])))
    refine rk_cl (by (simp (disch := omega) only [evl, Nat.reduceEqDiff, Nat.reduceAdd, reduceIte, reduceCtorEq]); exact zae1 _) ?_
    rintro r H1 ⟨rfl, rfl⟩
    simp only [zra]
    (repeat' (first | refine Z ?_ | refine Zq ?_ | refine zaa (by decide) ?_ | ((first | refine' Y ?_ ?_ | refine' X ?_ ?_ ?_); rotate_left; (· (first | (simp (disch := omega) only [evl, Nat.reduceEqDiff, Nat.reduceAdd, reduceIte, reduceCtorEq] <;> exact rfl) | exact rfl)); all_goals try (refine fun (hb : _ = _) => ?_; try simp only [Zu, ne_eq, reduceCtorEq] at hb)) | (apply zba; · simp [evl])))
    refine zga ?_; refine zfc (zkc _ _) ?_
    (simp (disch := omega) only [evl, Nat.reduceEqDiff, Nat.reduceAdd, reduceIte, reduceCtorEq])
  · simp only [zra]
    refine rk_done ?_
    refine rn_seq_n ?_
    refine zhc1 (by (simp (disch := omega) only [evl, Nat.reduceEqDiff, Nat.reduceAdd, reduceIte, reduceCtorEq])) ?_
    refine rc_skip ?_
    refine rn_seq_n ?_
    clear hLong q
    refine rc_runT 400 (fun k => by kernel_rfl) ?_
    exact ⟨.inr (by kernel_rfl), _, zkc _ _, by show _ = AV.bool true; kernel_rfl⟩
set_option maxRecDepth 100000
section
variable {P : Program} {w : World} {base t : Nat} {v : Value}
theorem zia {k : IntKind} (hu : P.underlying t = some (.int k)) (h : Cell.okWide P w .any base t v) : ∃ n, v = .int k n := by
  unfold Cell.okWide at h
  rw [hu] at h
  have h : Cell.ok P w .any base t v := by cases v <;> exact h
  unfold Cell.ok at h
  rw [hu] at h
  cases v <;> first | exact h.elim | (obtain ⟨rfl, _⟩ := h; exact ⟨_, rfl⟩)
theorem zik (hu : P.underlying t = some .string) (h : Cell.okWide P w .any base t v) : ∃ s, v = .string s := by
  unfold Cell.okWide at h
  rw [hu] at h
  have h : Cell.ok P w .any base t v := by cases v <;> exact h
  unfold Cell.ok at h
  rw [hu] at h
  cases v <;> first | exact h.elim | exact ⟨_, rfl⟩
theorem zqo {e : Nat} (hu : P.underlying t = some (.slice e)) (h : Cell.okWide P w .any base t v) :
    v = .slice none 0 0 ∨ ∃ x len cap, v = .slice (some x) len cap ∧ len ≤ cap ∧ (cap : Int) ≤ IntKind.i64.max ∧ x.spot = none ∧ ∃ cs e fz, w.heap[x.block]? = some (.cells cs e fz) := by
  have h0 := h
  unfold Cell.okWide at h
  rw [hu] at h
  have h : Cell.ok P w .any base t v := by cases v <;> exact h
  unfold Cell.ok at h
  rw [hu] at h
  cases v with
  | slice a len cap =>
    cases a with
    | none =>
      left
      cases len with
      | zero => cases cap with | zero => rfl | succ c => exact h.elim
      | succ n => exact h.elim
    | some x =>
      right
      have hb := zlc1 (P := P) (w := w) (base := base) (t := t) (e := e) (x := x) (len := len) (cap := cap) hu (by unfold Value.okWide; rw [hu]; exact h0)
      exact ⟨x, len, cap, rfl, h.1, h.2.1, hb.1, hb.2⟩
  | _ => exact h.elim
end
theorem zvg1 (k : Nat) {w : World} {a : Option Addr} {len cap e z : Nat} (hrow : (a = none ∧ len = 0 ∧ cap = 0) ∨ ∃ x, a = some x ∧ (x.spot = none ∧ ∃ cs e fz, w.heap[x.block]? = some (.cells cs e fz))) :
    ∃ (b : ABlk × EB) (v : AV), Arg w k (.slice a len cap) (fun H v => IsSl H v len) b v := by
  rcases hrow with ⟨rfl, rfl, rfl⟩ | ⟨x, rfl, hsp, hblk⟩
  · exact ⟨_, _, zjf1 w k fun H => .inl ⟨rfl, rfl⟩⟩
  · refine ⟨_, _, zkf1 k (e := e) (z := z) (l := []) hsp hblk (fun E j v hj => by simp at hj) (fun H hk hr => ?_)⟩
    obtain ⟨c, hg, _⟩ := hr
    exact .inr ⟨k, 0, cap, false, rfl, hk, c, _, _, _, _, hg, Nat.zero_le _⟩
theorem zvm {P : Program} {w : World} {base t e : Nat} {v : Value} (k : Nat) (hu : P.underlying t = some (.slice e)) (h : Cell.okWide P w .any base t v) :
    ∃ (a : Option Addr) (len cap : Nat) (b : ABlk × EB) (u : AV), v = .slice a len cap ∧ Arg w k (.slice a len cap) (fun H v => IsSl H v len) b u := by
  rcases zqo hu h with rfl | ⟨x, len, cap, rfl, _, _, hsp, hb⟩
  · obtain ⟨b, u, h2⟩ := zvg1 k (w := w) (a := none) (len := 0) (cap := 0) (e := e) (z := 1) (.inl ⟨rfl, rfl, rfl⟩)
    exact ⟨_, _, _, b, u, rfl, h2⟩
  · obtain ⟨b, u, h2⟩ := zvg1 k (w := w) (a := some x) (len := len) (cap := cap) (e := e) (z := 1) (.inr ⟨x, rfl, hsp, hb⟩)
    exact ⟨_, _, _, b, u, rfl, h2⟩
theorem zba1 (k : Nat) {w : World} {a : Option Addr} {len cap e : Nat} {Sx : Nat → ByteArray} (hrow : (a = none ∧ len = 0 ∧ cap = 0) ∨ ∃ x, a = some x ∧ len ≤ cap ∧ cap ≤ maxLen ∧ (∀ i, i < len → w.cell? (x.add i) = some (.string (Sx i))) ∧ (x.spot = none ∧ ∃ cs e fz, w.heap[x.block]? = some (.cells cs e fz))) :
    ∃ (ss : Nat → ByteArray) (b : ABlk × EB) (v : AV), len ≤ maxLen ∧ Arg w k (.slice a len cap) (fun H v => SlR H v len (fun k => .str (ss k))) b v := by
  rcases hrow with ⟨rfl, rfl, rfl⟩ | ⟨x, rfl, hlc, hm, hcell, hsp, hblk⟩
  · exact ⟨fun _ => ByteArray.empty, _, _, Nat.zero_le _, zjf1 w k fun H => ⟨.inl ⟨rfl, rfl⟩, fun k hk => by simp at hk⟩⟩
  · refine ⟨Sx, _, _, by omega, zkf1 k (e := e) (z := 1) (l := (List.range len).map fun i => AV.str (Sx i)) hsp hblk (fun E j v hj => ?_) (fun H hk hr => ?_)⟩
    · by_cases hjl : j < len
      · rw [List.getElem?_map, List.getElem?_range hjl] at hj
        cases hj
        have := hcell j hjl
        rw [zui1 hsp] at this
        exact this
      · rw [List.getElem?_eq_none (by simp; omega)] at hj; cases hj
    · exact hr.slR (o := 0) (n := len) (c := cap) (op' := false) hk (Nat.zero_le _) fun i hi => by
        rw [Nat.zero_add, List.getElem?_map, List.getElem?_range hi]; rfl
section
variable {H : Type} {enc : TypeId × Value → H} {P : Program} {w : World} {base : Nat} {spare : Nat → Bool} {held : Bool} {n : Nat} {T : TypeId} {cs : List Value} {o : Nat} {y : DataW H × List MemPlace}
theorem zbe1 {fs : Array Field} {fuel : Nat} {x : DataW H × List MemPlace} (hu : P.underlying T = some (.struct fs)) (h : DataW.trod enc P w base spare held fuel T cs = some x) :
    ∃ m, cs.length = P.cellsOf T ∧ ∀ (i : Nat) (f : Field), fs[i]? = some f → ∃ y, DataW.trod enc P w base spare held m f.type ((cs.drop f.offset).take (P.cellsOf f.type)) = some y := by
  obtain ⟨xs, m, _, _, hl, hlen, hg⟩ := DataW.trod_struct hu h
  refine ⟨m, hl, fun i f hf => ?_⟩
  have hi : i < xs.length := by
    rw [hlen]
    exact (Array.getElem?_eq_some_iff.1 hf).1
  rw [hg i f hf]
  exact ⟨xs[i], List.getElem?_eq_getElem hi⟩
theorem cellsSs : Tryz.prog.cellsOf 22 = 1 := by kernel_rfl
theorem act_l (h : DataW.trod enc Tryz.prog w base spare held n 37 cs = some y) : ∃ m z, DataW.trod enc Tryz.prog w base spare held m 22 ((cs.drop 5).take 1) = some z := by
  obtain ⟨m, hl, hf⟩ := zbe1 Tryz.underlying37 h
  obtain ⟨z, hz⟩ := hf 5 _ rfl
  exact ⟨m, z, by rw [← cellsSs]; exact hz⟩
end
end HS
end
