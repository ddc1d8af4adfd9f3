import Derived.Test.YtkihlgfcjhbgmaaGreatDoorVBAI
import Derived.WalkKit
import Derived.ProofKit
import Derived.OpenShut
import Derived.ShutString
import Derived.ChangeOld
import Derived.Below
import Derived.Deep.Slices
import Derived.Deep.Strs
import Derived.Deep.Fields
noncomputable section
set_option maxHeartbeats 8000000
set_option linter.unusedSimpArgs false
set_option linter.unusedVariables false
open Go Go.Ev Go.Proofs Go.RowKit
namespace HS
set_option maxRecDepth 1000000
def tabN : List (Nat × XFn) := (11, zxg) :: tab0
theorem tabN_ok (B : Nat) : ∀ p ∈ tabN, XOk Tryz.prog B p.1 p.2 := zdc (znv B) (zsz B)
def lookN : Lk := lk tabN
theorem zpr : LOk lookN Tryz.prog := lk_ok tabN
theorem zln (B : Nat) : ExtOk lookN Tryz.prog B := zin (tabN_ok B)
def f14body : Code := bodyN lookN 14
def f14r0 : K2 :=
  .mv (.con (.bool false)) (some (sOf 2)) <|
  .done
def f14r1 : K2 :=
  .mv (.con .nilSl) (some (sOf 3)) <|
  .done
def f14r2 : K2 :=
  .mv (.con (.int .i64 (0))) (some (sOf 4)) <|
  .done
def zrg1 : K2 := .ln (fun xs _ => pickF xs) [(tO 9), (tO 11), (.con (.bool false))] (some (sOf 12)) <|
  .done
def zsg1 : K2 := .gd (sOf 9) true (some (sOf 11)) (.p2 (binF .lss (evBin lookN .lss 3 (.tmp 10) (.const (.int .i64 (31))))) (tO 10) (.con (.int .i64 (31))) (some (sOf 11)) <|
  zrg1) zrg1
def f14r3 : K2 :=
  .mv (tO 4) (some (sOf 5)) <|
  .mv (tO 0) (some (sOf 6)) <|
  .ln (fun xs H => fstO (zna .len lookN [46] xs H)) [(tO 6)] (some (sOf 7)) <|
  .p2 (binF .lss (evBin lookN .lss 3 (.tmp 5) (.tmp 7))) (tO 5) (tO 7) (some (sOf 8)) <|
  .mv (tO 8) (some (sOf 9)) <|
  .gd (sOf 9) true (some (sOf 10)) (.mv (tO 4) (some (sOf 10)) <|
  zsg1) zsg1
def zvz : K2 := .ln (fun xs _ => pickF xs) [(tO 31), (.con (.bool true)), (tO 38)] (some (sOf 39)) <|
  .done
def zwz : K2 := .gd (sOf 31) false (some (sOf 38)) (.p2 (binF .gtr (evBin lookN .gtr 3 (.tmp 37) (.const (.int .i64 (2000))))) (tO 37) (.con (.int .i64 (2000))) (some (sOf 38)) <|
  zvz) zvz
def zxz : K2 := .gd (sOf 31) false (some (sOf 37)) (.ln (fun xs H => fstO (zna .len lookN [28] xs H)) [(tO 36)] (some (sOf 37)) <|
  zwz) zwz
def zyz : K2 := .gd (sOf 31) false (some (sOf 36)) (.r1 ld1 (tO 35) (some (sOf 36)) <|
  zxz) zxz
def zzz : K2 := .gd (sOf 31) false (some (sOf 35)) (.p1 (fa 8) (tO 34) (some (sOf 35)) <|
  zyz) zyz
def zaa1 : K2 := .gd (sOf 31) false (some (sOf 34)) (.p2 (ixS 16) (tO 32) (tO 33) (some (sOf 34)) <|
  zzz) zzz
def zba1 : K2 := .gd (sOf 31) false (some (sOf 33)) (.mv (tO 4) (some (sOf 33)) <|
  zaa1) zaa1
def zca1 : K2 := .ln (fun xs _ => pickF xs) [(tO 21), (.con (.bool true)), (tO 29)] (some (sOf 30)) <|
  .mv (tO 30) (some (sOf 31)) <|
  .gd (sOf 31) false (some (sOf 32)) (.mv (tO 0) (some (sOf 32)) <|
  zba1) zba1
def zda1 : K2 := .gd (sOf 21) false (some (sOf 29)) (.p2 (binF .gtr (evBin lookN .gtr 3 (.tmp 28) (.const (.int .i64 (2000))))) (tO 28) (.con (.int .i64 (2000))) (some (sOf 29)) <|
  zca1) zca1
def zea1 : K2 := .gd (sOf 21) false (some (sOf 28)) (.ln (fun xs H => fstO (zna .len lookN [28] xs H)) [(tO 27)] (some (sOf 28)) <|
  zda1) zda1
def zfa1 : K2 := .gd (sOf 21) false (some (sOf 27)) (.r1 ld1 (tO 26) (some (sOf 27)) <|
  zea1) zea1
def zga1 : K2 := .gd (sOf 21) false (some (sOf 26)) (.p1 (fa 6) (tO 25) (some (sOf 26)) <|
  zfa1) zfa1
def ztg1 : K2 := .gd (sOf 21) false (some (sOf 25)) (.p1 (fa 1) (tO 24) (some (sOf 25)) <|
  zga1) zga1
def zug1 : K2 := .gd (sOf 21) false (some (sOf 24)) (.p2 (ixS 16) (tO 22) (tO 23) (some (sOf 24)) <|
  ztg1) ztg1
def zvg1 : K2 := .gd (sOf 21) false (some (sOf 23)) (.mv (tO 4) (some (sOf 23)) <|
  zug1) zug1
def f14r4 : K2 :=
  .mv (tO 0) (some (sOf 15)) <|
  .mv (tO 4) (some (sOf 16)) <|
  .p2 (ixS 16) (tO 15) (tO 16) (some (sOf 17)) <|
  .p1 (fa 1) (tO 17) (some (sOf 18)) <|
  .r1 (ldN 7) (tO 18) (some (sOf 19)) <|
  .cl false 34 [(tO 19)] (some (sOf 20)) <|
  .mv (tO 20) (some (sOf 21)) <|
  .gd (sOf 21) false (some (sOf 22)) (.mv (tO 0) (some (sOf 22)) <|
  zvg1) zvg1
def f14r5 : K2 :=
  .mv (.con (.bool true)) (some (sOf 2)) <|
  .done
def f14r6 : K2 :=
  .mv (tO 3) (some (sOf 40)) <|
  .mv (tO 0) (some (sOf 41)) <|
  .mv (tO 4) (some (sOf 42)) <|
  .p2 (ixS 16) (tO 41) (tO 42) (some (sOf 43)) <|
  .p1 (fa 9) (tO 43) (some (sOf 44)) <|
  .r1 (ldN 7) (tO 44) (some (sOf 45)) <|
  .hn false (fun xs H => bsF 7 1 (.agg [(.int .i64 (0)), (.int .i64 (0)), (.int .i64 (0)), (.int .i64 (0)), (.int .u8 (0)), .nilSl, .nilSl]) 42 (zipF [0] xs) H) [(tO 45)] (some (sOf 46)) <|
  .hn false (appX 42 7 88) [(tO 40), (tO 46)] (some (sOf 47)) <|
  .mv (tO 47) (some (sOf 3)) <|
  .done
def f14r7 : K2 :=
  .mv (tO 4) (some (sOf 13)) <|
  .p2 (binF .add (evBin lookN .add 3 (.tmp 13) (.const (.int .i64 (1))))) (tO 13) (.con (.int .i64 (1))) (some (sOf 14)) <|
  .mv (tO 14) (some (sOf 4)) <|
  .done
def f14l0 : C2 := (.seq (.seq (.reg f14r3)
  (.cond (tO 12) .skip (.exit 0)))
  (.seq (.block 1 (.seq (.seq (.reg f14r4)
  (.cond (tO 39) (.seq (.reg f14r5)
  .ret) .skip))
  (.reg f14r6)))
  (.reg f14r7)))
def f14b0 : Code := lpN f14body 0
theorem zsk1 : comp lookN f14b0 = f14l0 := by kernel_rfl
def zwg1 : K2 := .ln (fun xs _ => pickF xs) [(tO 51), (.con (.bool true)), (tO 53)] (some (sOf 54)) <|
  .mv (tO 54) (some (sOf 2)) <|
  .done
def zxg1 : K2 := .gd (sOf 51) false (some (sOf 53)) (.cl false 35 [(tO 52)] (some (sOf 53)) <|
  zwg1) zwg1
def f14r8 : K2 :=
  .mv (tO 0) (some (sOf 48)) <|
  .ln (fun xs H => fstO (zna .len lookN [46] xs H)) [(tO 48)] (some (sOf 49)) <|
  .p2 (binF .gtr (evBin lookN .gtr 3 (.tmp 49) (.const (.int .i64 (30))))) (tO 49) (.con (.int .i64 (30))) (some (sOf 50)) <|
  .mv (tO 50) (some (sOf 51)) <|
  .gd (sOf 51) false (some (sOf 52)) (.mv (tO 3) (some (sOf 52)) <|
  zxg1) zxg1
def f14c : C2 := (.seq (.reg f14r0)
  (.seq (.reg f14r1)
  (.seq (.seq (.reg f14r2)
  (.block 0 (.loop f14b0)))
  (.seq (.reg f14r8)
  .ret))))
theorem f14_eq : fnF lookN 14 = some ⟨55, f14c, [.tmp 2]⟩ := by kernel_rfl
def f34body : Code := bodyN lookN 34
def f34r0 : K2 :=
  .m1 false (fun v H => alF v.toC 30 7 H) (tO 0) (some (sOf 1)) <|
  .mv (.con (.bool false)) (some (sOf 2)) <|
  .done
def f34r1 : K2 :=
  .mv (.con (.int .i64 (0))) (some (sOf 3)) <|
  .done
def zyg1 : K2 := .ln (fun xs _ => pickF xs) [(tO 9), (tO 11), (.con (.bool false))] (some (sOf 12)) <|
  .done
def zzg1 : K2 := .gd (sOf 9) true (some (sOf 11)) (.p2 (binF .lss (evBin lookN .lss 3 (.tmp 10) (.const (.int .i64 (31))))) (tO 10) (.con (.int .i64 (31))) (some (sOf 11)) <|
  zyg1) zyg1
def f34r2 : K2 :=
  .mv (tO 3) (some (sOf 4)) <|
  .p1 (fa 5) (tO 1) (some (sOf 5)) <|
  .r1 ld1 (tO 5) (some (sOf 6)) <|
  .ln (fun xs H => fstO (zna .len lookN [27] xs H)) [(tO 6)] (some (sOf 7)) <|
  .p2 (binF .lss (evBin lookN .lss 3 (.tmp 4) (.tmp 7))) (tO 4) (tO 7) (some (sOf 8)) <|
  .mv (tO 8) (some (sOf 9)) <|
  .gd (sOf 9) true (some (sOf 10)) (.mv (tO 3) (some (sOf 10)) <|
  zzg1) zzg1
def f34r3 : K2 :=
  .p1 (fa 5) (tO 1) (some (sOf 15)) <|
  .r1 ld1 (tO 15) (some (sOf 16)) <|
  .mv (tO 3) (some (sOf 17)) <|
  .p2 (ixS 1) (tO 16) (tO 17) (some (sOf 18)) <|
  .r1 ld1 (tO 18) (some (sOf 19)) <|
  .ln (fun xs H => fstO (zna .len lookN [9] xs H)) [(tO 19)] (some (sOf 20)) <|
  .p2 (binF .gtr (evBin lookN .gtr 3 (.tmp 20) (.const (.int .i64 (100))))) (tO 20) (.con (.int .i64 (100))) (some (sOf 21)) <|
  .done
def f34r4 : K2 :=
  .mv (.con (.bool true)) (some (sOf 2)) <|
  .done
def f34r5 : K2 :=
  .mv (tO 3) (some (sOf 13)) <|
  .p2 (binF .add (evBin lookN .add 3 (.tmp 13) (.const (.int .i64 (1))))) (tO 13) (.con (.int .i64 (1))) (some (sOf 14)) <|
  .mv (tO 14) (some (sOf 3)) <|
  .done
def f34l0 : C2 := (.seq (.seq (.reg f34r2)
  (.cond (tO 12) .skip (.exit 0)))
  (.seq (.block 1 (.seq (.reg f34r3)
  (.cond (tO 21) (.seq (.reg f34r4)
  .ret) .skip)))
  (.reg f34r5)))
def f34b0 : Code := lpN f34body 0
theorem ztk1 : comp lookN f34b0 = f34l0 := by kernel_rfl
def zha1 : K2 := .ln (fun xs _ => pickF xs) [(tO 38), (.con (.bool true)), (tO 42)] (some (sOf 43)) <|
  .mv (tO 43) (some (sOf 2)) <|
  .done
def zia1 : K2 := .gd (sOf 38) false (some (sOf 42)) (.p2 (binF .gtr (evBin lookN .gtr 3 (.tmp 41) (.const (.int .i64 (17000))))) (tO 41) (.con (.int .i64 (17000))) (some (sOf 42)) <|
  zha1) zha1
def zja1 : K2 := .gd (sOf 38) false (some (sOf 41)) (.ln (fun xs H => fstO (zna .len lookN [28] xs H)) [(tO 40)] (some (sOf 41)) <|
  zia1) zia1
def zka1 : K2 := .gd (sOf 38) false (some (sOf 40)) (.r1 ld1 (tO 39) (some (sOf 40)) <|
  zja1) zja1
def zla1 : K2 := .ln (fun xs _ => pickF xs) [(tO 32), (.con (.bool true)), (tO 36)] (some (sOf 37)) <|
  .mv (tO 37) (some (sOf 38)) <|
  .gd (sOf 38) false (some (sOf 39)) (.p1 (fa 6) (tO 1) (some (sOf 39)) <|
  zka1) zka1
def zma1 : K2 := .gd (sOf 32) false (some (sOf 36)) (.p2 (binF .gtr (evBin lookN .gtr 3 (.tmp 35) (.const (.int .i64 (30))))) (tO 35) (.con (.int .i64 (30))) (some (sOf 36)) <|
  zla1) zla1
def zna1 : K2 := .gd (sOf 32) false (some (sOf 35)) (.ln (fun xs H => fstO (zna .len lookN [27] xs H)) [(tO 34)] (some (sOf 35)) <|
  zma1) zma1
def zoa1 : K2 := .gd (sOf 32) false (some (sOf 34)) (.r1 ld1 (tO 33) (some (sOf 34)) <|
  zna1) zna1
def zah1 : K2 := .ln (fun xs _ => pickF xs) [(tO 26), (.con (.bool true)), (tO 30)] (some (sOf 31)) <|
  .mv (tO 31) (some (sOf 32)) <|
  .gd (sOf 32) false (some (sOf 33)) (.p1 (fa 5) (tO 1) (some (sOf 33)) <|
  zoa1) zoa1
def zbh1 : K2 := .gd (sOf 26) false (some (sOf 30)) (.p2 (binF .gtr (evBin lookN .gtr 3 (.tmp 29) (.const (.int .i64 (100))))) (tO 29) (.con (.int .i64 (100))) (some (sOf 30)) <|
  zah1) zah1
def zch1 : K2 := .gd (sOf 26) false (some (sOf 29)) (.ln (fun xs H => fstO (zna .len lookN [9] xs H)) [(tO 28)] (some (sOf 29)) <|
  zbh1) zbh1
def zdh1 : K2 := .gd (sOf 26) false (some (sOf 28)) (.r1 ld1 (tO 27) (some (sOf 28)) <|
  zch1) zch1
def f34r6 : K2 :=
  .p1 (fa 1) (tO 1) (some (sOf 22)) <|
  .r1 ld1 (tO 22) (some (sOf 23)) <|
  .ln (fun xs H => fstO (zna .len lookN [9] xs H)) [(tO 23)] (some (sOf 24)) <|
  .p2 (binF .gtr (evBin lookN .gtr 3 (.tmp 24) (.const (.int .i64 (100))))) (tO 24) (.con (.int .i64 (100))) (some (sOf 25)) <|
  .mv (tO 25) (some (sOf 26)) <|
  .gd (sOf 26) false (some (sOf 27)) (.p1 (fa 2) (tO 1) (some (sOf 27)) <|
  zdh1) zdh1
def f34c : C2 := (.seq (.reg f34r0)
  (.seq (.seq (.reg f34r1)
  (.block 0 (.loop f34b0)))
  (.seq (.reg f34r6)
  .ret)))
theorem f34_eq : fnF lookN 34 = some ⟨44, f34c, [.tmp 2]⟩ := by kernel_rfl
def f35body : Code := bodyN lookN 35
def f35r0 : K2 :=
  .mv (.con (.bool false)) (some (sOf 2)) <|
  .done
def f35r1 : K2 :=
  .mv (.con (.int .i64 (0))) (some (sOf 3)) <|
  .done
def zeh1 : K2 := .ln (fun xs _ => pickF xs) [(tO 8), (tO 10), (.con (.bool false))] (some (sOf 11)) <|
  .done
def zfh1 : K2 := .gd (sOf 8) true (some (sOf 10)) (.p2 (binF .lss (evBin lookN .lss 3 (.tmp 9) (.const (.int .i64 (101))))) (tO 9) (.con (.int .i64 (101))) (some (sOf 10)) <|
  zeh1) zeh1
def f35r2 : K2 :=
  .mv (tO 3) (some (sOf 4)) <|
  .mv (tO 0) (some (sOf 5)) <|
  .ln (fun xs H => fstO (zna .len lookN [95] xs H)) [(tO 5)] (some (sOf 6)) <|
  .p2 (binF .lss (evBin lookN .lss 3 (.tmp 4) (.tmp 6))) (tO 4) (tO 6) (some (sOf 7)) <|
  .mv (tO 7) (some (sOf 8)) <|
  .gd (sOf 8) true (some (sOf 9)) (.mv (tO 3) (some (sOf 9)) <|
  zfh1) zfh1
def zpa1 : K2 := .ln (fun xs _ => pickF xs) [(tO 21), (.con (.bool true)), (tO 28)] (some (sOf 29)) <|
  .done
def zqa1 : K2 := .gd (sOf 21) false (some (sOf 28)) (.p2 (binF .gtr (evBin lookN .gtr 3 (.tmp 27) (.const (.int .i64 (200))))) (tO 27) (.con (.int .i64 (200))) (some (sOf 28)) <|
  zpa1) zpa1
def zra1 : K2 := .gd (sOf 21) false (some (sOf 27)) (.ln (fun xs H => fstO (zna .len lookN [40] xs H)) [(tO 26)] (some (sOf 27)) <|
  zqa1) zqa1
def zsa1 : K2 := .gd (sOf 21) false (some (sOf 26)) (.r1 ld1 (tO 25) (some (sOf 26)) <|
  zra1) zra1
def zta1 : K2 := .gd (sOf 21) false (some (sOf 25)) (.p1 (fa 6) (tO 24) (some (sOf 25)) <|
  zsa1) zsa1
def zgh1 : K2 := .gd (sOf 21) false (some (sOf 24)) (.p2 (ixS 7) (tO 22) (tO 23) (some (sOf 24)) <|
  zta1) zta1
def zhh1 : K2 := .gd (sOf 21) false (some (sOf 23)) (.mv (tO 3) (some (sOf 23)) <|
  zgh1) zgh1
def f35r3 : K2 :=
  .mv (tO 0) (some (sOf 14)) <|
  .mv (tO 3) (some (sOf 15)) <|
  .p2 (ixS 7) (tO 14) (tO 15) (some (sOf 16)) <|
  .p1 (fa 5) (tO 16) (some (sOf 17)) <|
  .r1 ld1 (tO 17) (some (sOf 18)) <|
  .ln (fun xs H => fstO (zna .len lookN [28] xs H)) [(tO 18)] (some (sOf 19)) <|
  .p2 (binF .gtr (evBin lookN .gtr 3 (.tmp 19) (.const (.int .i64 (300))))) (tO 19) (.con (.int .i64 (300))) (some (sOf 20)) <|
  .mv (tO 20) (some (sOf 21)) <|
  .gd (sOf 21) false (some (sOf 22)) (.mv (tO 0) (some (sOf 22)) <|
  zhh1) zhh1
def f35r4 : K2 :=
  .mv (.con (.bool true)) (some (sOf 2)) <|
  .done
def f35r5 : K2 :=
  .mv (tO 3) (some (sOf 12)) <|
  .p2 (binF .add (evBin lookN .add 3 (.tmp 12) (.const (.int .i64 (1))))) (tO 12) (.con (.int .i64 (1))) (some (sOf 13)) <|
  .mv (tO 13) (some (sOf 3)) <|
  .done
def f35l0 : C2 := (.seq (.seq (.reg f35r2)
  (.cond (tO 11) .skip (.exit 0)))
  (.seq (.block 1 (.seq (.reg f35r3)
  (.cond (tO 29) (.seq (.reg f35r4)
  .ret) .skip)))
  (.reg f35r5)))
def f35b0 : Code := lpN f35body 0
theorem zuk1 : comp lookN f35b0 = f35l0 := by kernel_rfl
def f35r6 : K2 :=
  .mv (tO 0) (some (sOf 30)) <|
  .ln (fun xs H => fstO (zna .len lookN [95] xs H)) [(tO 30)] (some (sOf 31)) <|
  .p2 (binF .gtr (evBin lookN .gtr 3 (.tmp 31) (.const (.int .i64 (100))))) (tO 31) (.con (.int .i64 (100))) (some (sOf 32)) <|
  .mv (tO 32) (some (sOf 2)) <|
  .done
def f35c : C2 := (.seq (.reg f35r0)
  (.seq (.seq (.reg f35r1)
  (.block 0 (.loop f35b0)))
  (.seq (.reg f35r6)
  .ret)))
theorem f35_eq : fnF lookN 35 = some ⟨33, f35c, [.tmp 2]⟩ := by kernel_rfl
def f4body : Code := bodyN lookN 4
def f4r0 : K2 :=
  .m1 false (fun v H => alF v.toC 44 16 H) (tO 0) (some (sOf 1)) <|
  .mv (.con (.bool false)) (some (sOf 2)) <|
  .done
def f4r1 : K2 :=
  .r1 (ldN 16) (tO 1) (some (sOf 11)) <|
  .hn false (fun xs H => bsF 16 1 (.agg [(.int .i64 (0)), (.int .i64 (0)), (.str ⟨#[]⟩), (.str ⟨#[]⟩), (.int .i64 (0)), (.int .i64 (0)), .nilSl, .nilSl, .nilSl, (.int .i64 (0)), (.int .i64 (0)), (.int .i64 (0)), (.int .i64 (0)), (.int .u8 (0)), .nilSl, .nilSl]) 44 (zipF [0] xs) H) [(tO 11)] (some (sOf 12)) <|
  .cl false 14 [(tO 12)] (some (sOf 13)) <|
  .done
def f4r2 : K2 :=
  .cl false 11 [] (some (sOf 14)) <|
  .mv (tO 14) (some (sOf 2)) <|
  .done
def f4r3 : K2 :=
  .ln (fun xs _ => zee lookN 49 (zipF [] xs)) [] (some (sOf 15)) <|
  .m1 false (fun v H => alF v.toC 49 1 H) (tO 15) (some (sOf 16)) <|
  .hn false (fun xs H => bsF 1 2 .nilPtr 23 (zipF [0, 1] xs) H) [(.con .nilPtr), (tO 16)] (some (sOf 17)) <|
  .mv (tO 17) (some (sOf 3)) <|
  .done
def f4r4 : K2 :=
  .ln (fun xs _ => zee lookN 54 (zipF [] xs)) [] (some (sOf 18)) <|
  .m1 false (fun v H => alF v.toC 54 5 H) (tO 18) (some (sOf 19)) <|
  .hn false (fun xs H => bsF 1 2 .nilPtr 22 (zipF [0, 1] xs) H) [(.con .nilPtr), (tO 19)] (some (sOf 20)) <|
  .mv (tO 20) (some (sOf 4)) <|
  .done
def f4r5 : K2 :=
  .mv (.con (.int .i64 (0))) (some (sOf 5)) <|
  .done
def f4b0 : Code := lpN f4body 0
def f4r15 : K2 :=
  .cl false 11 [] (some (sOf 89)) <|
  .mv (tO 89) (some (sOf 2)) <|
  .done
def f4c : C2 := (.seq (.reg f4r0)
  (.seq (.seq (.reg f4r1)
  (.cond (tO 13) (.seq (.reg f4r2)
  .ret) .skip))
  (.seq (.reg f4r3)
  (.seq (.reg f4r4)
  (.seq (.seq (.reg f4r5)
  (.block 0 (.loop f4b0)))
  (.seq (.reg f4r15)
  .ret))))))
theorem f4_eq : fnF lookN 4 = some ⟨90, f4c, [.tmp 2]⟩ := by kernel_rfl
set_option maxRecDepth 100000
open Go.Ev
open Ra Rb Rc Rd Re Rf Rg Rh Ri Rj Rk Rl Rm Rn Ro Rp Rq Rr
theorem zve1 {f : Nat} (h : xLook tabN f = none) : lookN.ext f = none := h
theorem len_str {L : Lk} {t : Nat} (ht : L.under t = some .string) (s : ByteArray) (H : AH) : fstO (zna .len L [t] [.str s] H) = some (.int .i64 s.size) := by
  show fstO (match evLen L t (.str s) H with | some v => some (v, H) | none => none) = _
  unfold evLen
  rw [ht]
  rfl
theorem uN9 : lookN.under 9 = some .string := by kernel_rfl
theorem uN26 : lookN.under 27 = some (.slice 9) := by kernel_rfl
theorem uN24 : lookN.under 46 = some (.slice 44) := by kernel_rfl
theorem uN35 : lookN.under 28 = some (.slice 5) := by kernel_rfl
theorem uN36 : lookN.under 40 = some (.slice 4) := by kernel_rfl
theorem uN83 : lookN.under 95 = some (.slice 42) := by kernel_rfl
theorem zwe1 (H : AH) (k c : Nat) (op : Bool) (vA vB : AV) (nA nB : Nat) (h0 : IsSl H (.sl k 0 1 c op) 1) (r1 : ld1 (.ptr k 5) H = some vA) (r2 : ld1 (.ptr k 6) H = some vB) (hA : IsSl H vA nA) (hB : IsSl H vB nB) :
    FnE lookN 35 [.sl k 0 1 c op] H fun r H' => (∃ b, r = .bool b) ∧ H' = H := by
  refine zzb f35_eq (zve1 rfl) rfl ?_
  unfold f35c
  have hlen := fun H' => zaj (H' := H') uN83 h0
  have hlenA := fun H' => zaj (H' := H') uN35 hA
  have hlenB := fun H' => zaj (H' := H') uN36 hB
  have hix : ixS 7 (.sl k 0 1 c op) (.int .i64 0) = some (.ptr k 0) := rfl
  (repeat' (first | refine Z ?_ | refine Zq ?_ | refine zaa (by decide) ?_ | ((first | refine' Y ?_ ?_ | refine' X ?_ ?_ ?_); rotate_left; (· (first | (simp (disch := omega) only [evl, Nat.reduceEqDiff, Nat.reduceAdd, reduceIte, reduceCtorEq] <;> exact rfl) | exact rfl)); all_goals try (refine fun (hb : _ = _) => ?_; try simp only [Zu, ne_eq, reduceCtorEq] at hb)) | (apply zba; · simp [evl])))
  refine zoh (R := fun ex T' H' => (ex = .exit 0 ∧ gT T' 0 = .sl k 0 1 c op ∧ H' = H) ∨ (ex = .ret ∧ gT T' 2 = .bool true ∧ H' = H)) ?_ ?_
  · refine zxm zuk1 (fun j T H' => gT T 0 = .sl k 0 1 c op ∧ H' = H ∧ ((j = 1 ∧ gT T 3 = .int .i64 0) ∨ (j = 0 ∧ gT T 3 = .int .i64 1))) _ ?_ 1 _ _ ?_
    · rintro j T H2 ⟨e0, rfl, ⟨rfl, e3⟩ | ⟨rfl, e3⟩⟩
      · unfold f35l0
        by_cases b1 : 300 < nA
        · (repeat' (first | refine Z ?_ | refine Zq ?_ | refine zaa (by decide) ?_ | ((first | refine' Y ?_ ?_ | refine' X ?_ ?_ ?_); rotate_left; (· (first | (simp (disch := omega) only [evl, Nat.reduceEqDiff, Nat.reduceAdd, reduceIte, reduceCtorEq, e0, e3, hlen, hix, r1, r2, hlenA, hlenB] <;> exact rfl) | exact rfl)); all_goals try (refine fun (hb : _ = _) => ?_; try simp only [Zu, ne_eq, reduceCtorEq] at hb)) | (apply zba; · simp [evl])))
          refine zma ?_
          refine lpq_r (.inr ⟨rfl, ?_, rfl⟩)
          (simp (disch := omega) only [evl, Nat.reduceEqDiff, Nat.reduceAdd, reduceIte, reduceCtorEq])
        · by_cases b2 : 200 < nB
          · (repeat' (first | refine Z ?_ | refine Zq ?_ | refine zaa (by decide) ?_ | ((first | refine' Y ?_ ?_ | refine' X ?_ ?_ ?_); rotate_left; (· (first | (simp (disch := omega) only [evl, Nat.reduceEqDiff, Nat.reduceAdd, reduceIte, reduceCtorEq, e0, e3, hlen, hix, r1, r2, hlenA, hlenB] <;> exact rfl) | exact rfl)); all_goals try (refine fun (hb : _ = _) => ?_; try simp only [Zu, ne_eq, reduceCtorEq] at hb)) | (apply zba; · simp [evl])))
            refine zma ?_
            refine lpq_r (.inr ⟨rfl, ?_, rfl⟩)
            (simp (disch := omega) only [evl, Nat.reduceEqDiff, Nat.reduceAdd, reduceIte, reduceCtorEq])
          · (repeat' (first | refine Z ?_ | refine Zq ?_ | refine zaa (by decide) ?_ | ((first | refine' Y ?_ ?_ | refine' X ?_ ?_ ?_); rotate_left; (· (first | (simp (disch := omega) only [evl, Nat.reduceEqDiff, Nat.reduceAdd, reduceIte, reduceCtorEq, e0, e3, hlen, hix, r1, r2, hlenA, hlenB] <;> exact rfl) | exact rfl)); all_goals try (refine fun (hb : _ = _) => ?_; try simp only [Zu, ne_eq, reduceCtorEq] at hb)) | (apply zba; · simp [evl])))
            refine zma ?_
            refine lpq_n 0 (by omega) ⟨?_, rfl, .inr ⟨rfl, ?_⟩⟩
            · (simp (disch := omega) only [evl, Nat.reduceEqDiff, Nat.reduceAdd, reduceIte, reduceCtorEq, e0])
            · (simp (disch := omega) only [evl, Nat.reduceEqDiff, Nat.reduceAdd, reduceIte, reduceCtorEq, e3]); rfl
      · unfold f35l0
        (repeat' (first | refine Z ?_ | refine Zq ?_ | refine zaa (by decide) ?_ | ((first | refine' Y ?_ ?_ | refine' X ?_ ?_ ?_); rotate_left; (· (first | (simp (disch := omega) only [evl, Nat.reduceEqDiff, Nat.reduceAdd, reduceIte, reduceCtorEq, e0, e3, hlen] <;> exact rfl) | exact rfl)); all_goals try (refine fun (hb : _ = _) => ?_; try simp only [Zu, ne_eq, reduceCtorEq] at hb)) | (apply zba; · simp [evl])))
        refine zma ?_
        refine lpq_e (.inl ⟨rfl, ?_, rfl⟩)
        (simp (disch := omega) only [evl, Nat.reduceEqDiff, Nat.reduceAdd, reduceIte, reduceCtorEq, e0])
    · refine ⟨?_, rfl, .inl ⟨rfl, ?_⟩⟩
      · (simp (disch := omega) only [evl, Nat.reduceEqDiff, Nat.reduceAdd, reduceIte, reduceCtorEq])
      · (simp (disch := omega) only [evl, Nat.reduceEqDiff, Nat.reduceAdd, reduceIte, reduceCtorEq])
  · rintro ex T' H' (⟨rfl, e0, rfl⟩ | ⟨rfl, e2, rfl⟩)
    · (repeat' (first | refine Z ?_ | refine Zq ?_ | refine zaa (by decide) ?_ | ((first | refine' Y ?_ ?_ | refine' X ?_ ?_ ?_); rotate_left; (· (first | (simp (disch := omega) only [evl, Nat.reduceEqDiff, Nat.reduceAdd, reduceIte, reduceCtorEq, e0, hlen] <;> exact rfl) | exact rfl)); all_goals try (refine fun (hb : _ = _) => ?_; try simp only [Zu, ne_eq, reduceCtorEq] at hb)) | (apply zba; · simp [evl])))
      all_goals
        refine zma ?_
        refine zqc (zjc _ _) ⟨?_, rfl⟩
        (simp (disch := omega) only [evl, Nat.reduceEqDiff, Nat.reduceAdd, reduceIte, reduceCtorEq])
        exact ⟨_, rfl⟩
    · (repeat' (first | refine Z ?_ | refine Zq ?_ | refine zaa (by decide) ?_ | ((first | refine' Y ?_ ?_ | refine' X ?_ ?_ ?_); rotate_left; (· (first | (simp (disch := omega) only [evl, Nat.reduceEqDiff, Nat.reduceAdd, reduceIte, reduceCtorEq, e2] <;> exact rfl) | exact rfl)); all_goals try (refine fun (hb : _ = _) => ?_; try simp only [Zu, ne_eq, reduceCtorEq] at hb)) | (apply zba; · simp [evl])))
      refine zma ?_
      refine zqc (zjc _ _) ⟨⟨true, ?_⟩, rfl⟩
      (simp (disch := omega) only [evl, Nat.reduceEqDiff, Nat.reduceAdd, reduceIte, reduceCtorEq, e2])
abbrev ordL (op n m : Int) (name to : ByteArray) (vL vB : AV) : List AV := [.int .i64 op, .str name, .str to, .int .i64 n, .int .i64 m, vL, vB]
abbrev ordB (op n m : Int) (name to : ByteArray) (vL vB : AV) : ABlk := .cells (.lst (ordL op n m name to vL vB)) 30 7 false false
theorem zqr (H : AH) (op n m : Int) (name to : ByteArray) (vL vB : AV) (nL nB : Nat) (ss : Nat → ByteArray) (hL : SlR H vL nL (fun k => .str (ss k))) (hB : IsSl H vB nB) (hl : nL ≤ 9223372036854775807) (hh : H.hide = []) :
    FnE lookN 34 [.agg (ordL op n m name to vL vB)] H fun r H' => (∃ b, r = .bool b) ∧ H' = H.new (ordB op n m name to vL vB) := by
  refine zzb f34_eq (zve1 rfl) rfl ?_
  unfold f34c
  (repeat' (first | refine Z ?_ | refine Zq ?_ | refine zaa (by decide) ?_ | ((first | refine' Y ?_ ?_ | refine' X ?_ ?_ ?_); rotate_left; (· (first | (simp (disch := omega) only [evl, Nat.reduceEqDiff, Nat.reduceAdd, reduceIte, reduceCtorEq] <;> exact rfl) | exact rfl)); all_goals try (refine fun (hb : _ = _) => ?_; try simp only [Zu, ne_eq, reduceCtorEq] at hb)) | (apply zba; · simp [evl])))
  refine rk_m1 (v := .ptr H.next 0) (H' := H.new (ordB op n m name to vL vB)) (by (simp (disch := omega) only [evl, Nat.reduceEqDiff, Nat.reduceAdd, reduceIte, reduceCtorEq]); exact zum _ _ _ _) ?_
  simp only [zpa]
  have hx := HX.new H (ordB op n m name to vL vB)
  have hr : Row (H.new (ordB op n m name to vL vB)) H.next false false 30 7 (ordL op n m name to vL vB) := Row.new hh _ _ _ _ _
  generalize hH1 : H.new (ordB op n m name to vL vB) = H1 at hx hr ⊢
  have hL1 := hL.hx hx
  have hB1 := hB.hx hx
  have r1 := hr.rd (k := 1) rfl
  have r2 := hr.rd (k := 2) rfl
  have r5 := hr.rd (k := 5) rfl
  have r6 := hr.rd (k := 6) rfl
  have hlenL := fun H' => zaj (H' := H') uN26 hL1.is
  have hlenB := fun H' => zaj (H' := H') uN35 hB1
  have hstr := fun s H' => len_str uN9 s H'
  (repeat' (first | refine Z ?_ | refine Zq ?_ | refine zaa (by decide) ?_ | ((first | refine' Y ?_ ?_ | refine' X ?_ ?_ ?_); rotate_left; (· (first | (simp (disch := omega) only [evl, Nat.reduceEqDiff, Nat.reduceAdd, reduceIte, reduceCtorEq] <;> exact rfl) | exact rfl)); all_goals try (refine fun (hb : _ = _) => ?_; try simp only [Zu, ne_eq, reduceCtorEq] at hb)) | (apply zba; · simp [evl])))
  refine zoh (R := fun ex T' H' => (ex = .exit 0 ∧ gT T' 1 = .ptr H.next 0 ∧ H' = H1) ∨ (ex = .ret ∧ gT T' 2 = .bool true ∧ H' = H1)) ?_ ?_
  · refine zxm ztk1 (fun k T H' => ∃ q : Nat, k = nL - q ∧ q ≤ nL ∧ gT T 1 = .ptr H.next 0 ∧ gT T 3 = .int .i64 q ∧ H' = H1) _ ?_ nL _ _ ?_
    · rintro k T H2 ⟨q, hk, hq, h1, h3, rfl⟩
      unfold f34l0
      by_cases hlt : q < nL
      · have hix := @ix_el _ _ _ hL1.is
        have hel := hL1.el q hlt
        by_cases h31 : q < 31
        · (repeat' (first | refine Z ?_ | refine Zq ?_ | refine zaa (by decide) ?_ | ((first | refine' Y ?_ ?_ | refine' X ?_ ?_ ?_); rotate_left; (· (first | (simp (disch := omega) only [evl, Nat.reduceEqDiff, Nat.reduceAdd, reduceIte, reduceCtorEq, h1, h3, r5, hlenL] <;> exact rfl) | exact rfl)); all_goals try (refine fun (hb : _ = _) => ?_; try simp only [Zu, ne_eq, reduceCtorEq] at hb)) | (apply zba; · simp [evl])))
          by_cases hbig : 100 < (ss q).size
          · (repeat' (first | refine Z ?_ | refine Zq ?_ | refine zaa (by decide) ?_ | ((first | refine' Y ?_ ?_ | refine' X ?_ ?_ ?_); rotate_left; (· (first | (simp (disch := omega) only [evl, Nat.reduceEqDiff, Nat.reduceAdd, reduceIte, reduceCtorEq, h1, h3, r5, hlenL, hix, hel, hstr] <;> exact rfl) | exact rfl)); all_goals try (refine fun (hb : _ = _) => ?_; try simp only [Zu, ne_eq, reduceCtorEq] at hb)) | (apply zba; · simp [evl])))
            refine zma ?_
            refine lpq_r (.inr ⟨rfl, ?_, rfl⟩)
            (simp (disch := omega) only [evl, Nat.reduceEqDiff, Nat.reduceAdd, reduceIte, reduceCtorEq])
          · (repeat' (first | refine Z ?_ | refine Zq ?_ | refine zaa (by decide) ?_ | ((first | refine' Y ?_ ?_ | refine' X ?_ ?_ ?_); rotate_left; (· (first | (simp (disch := omega) only [evl, Nat.reduceEqDiff, Nat.reduceAdd, reduceIte, reduceCtorEq, h1, h3, r5, hlenL, hix, hel, hstr] <;> exact rfl) | exact rfl)); all_goals try (refine fun (hb : _ = _) => ?_; try simp only [Zu, ne_eq, reduceCtorEq] at hb)) | (apply zba; · simp [evl])))
            refine zma ?_
            refine lpq_n (nL - (q + 1)) (by omega) ⟨q + 1, rfl, by omega, ?_, ?_, rfl⟩
            · (simp (disch := omega) only [evl, Nat.reduceEqDiff, Nat.reduceAdd, reduceIte, reduceCtorEq, h1])
            · (simp (disch := omega) only [evl, Nat.reduceEqDiff, Nat.reduceAdd, reduceIte, reduceCtorEq, h3]); push_cast; rfl
        · (repeat' (first | refine Z ?_ | refine Zq ?_ | refine zaa (by decide) ?_ | ((first | refine' Y ?_ ?_ | refine' X ?_ ?_ ?_); rotate_left; (· (first | (simp (disch := omega) only [evl, Nat.reduceEqDiff, Nat.reduceAdd, reduceIte, reduceCtorEq, h1, h3, r5, hlenL] <;> exact rfl) | exact rfl)); all_goals try (refine fun (hb : _ = _) => ?_; try simp only [Zu, ne_eq, reduceCtorEq] at hb)) | (apply zba; · simp [evl])))
          refine zma ?_
          refine lpq_e (.inl ⟨rfl, ?_, rfl⟩)
          (simp (disch := omega) only [evl, Nat.reduceEqDiff, Nat.reduceAdd, reduceIte, reduceCtorEq, h1])
      · (repeat' (first | refine Z ?_ | refine Zq ?_ | refine zaa (by decide) ?_ | ((first | refine' Y ?_ ?_ | refine' X ?_ ?_ ?_); rotate_left; (· (first | (simp (disch := omega) only [evl, Nat.reduceEqDiff, Nat.reduceAdd, reduceIte, reduceCtorEq, h1, h3, r5, hlenL] <;> exact rfl) | exact rfl)); all_goals try (refine fun (hb : _ = _) => ?_; try simp only [Zu, ne_eq, reduceCtorEq] at hb)) | (apply zba; · simp [evl])))
        refine zma ?_
        refine lpq_e (.inl ⟨rfl, ?_, rfl⟩)
        (simp (disch := omega) only [evl, Nat.reduceEqDiff, Nat.reduceAdd, reduceIte, reduceCtorEq, h1])
    · refine ⟨0, by omega, Nat.zero_le _, ?_, ?_, rfl⟩
      · (simp (disch := omega) only [evl, Nat.reduceEqDiff, Nat.reduceAdd, reduceIte, reduceCtorEq])
      · (simp (disch := omega) only [evl, Nat.reduceEqDiff, Nat.reduceAdd, reduceIte, reduceCtorEq]); rfl
  · rintro ex T' H' (⟨rfl, h1, rfl⟩ | ⟨rfl, h2, rfl⟩)
    · (repeat' (first | refine Z ?_ | refine Zq ?_ | refine zaa (by decide) ?_ | ((first | refine' Y ?_ ?_ | refine' X ?_ ?_ ?_); rotate_left; (· (first | (simp (disch := omega) only [evl, Nat.reduceEqDiff, Nat.reduceAdd, reduceIte, reduceCtorEq, h1, r1, r2, r5, r6, hlenL, hlenB, hstr] <;> exact rfl) | exact rfl)); all_goals try (refine fun (hb : _ = _) => ?_; try simp only [Zu, ne_eq, reduceCtorEq] at hb)) | (apply zba; · simp [evl])))
      all_goals
        refine zma ?_
        refine zqc (zjc _ _) ⟨?_, rfl⟩
        (simp (disch := omega) only [evl, Nat.reduceEqDiff, Nat.reduceAdd, reduceIte, reduceCtorEq])
        exact ⟨_, rfl⟩
    · (repeat' (first | refine Z ?_ | refine Zq ?_ | refine zaa (by decide) ?_ | ((first | refine' Y ?_ ?_ | refine' X ?_ ?_ ?_); rotate_left; (· (first | (simp (disch := omega) only [evl, Nat.reduceEqDiff, Nat.reduceAdd, reduceIte, reduceCtorEq, h2] <;> exact rfl) | exact rfl)); all_goals try (refine fun (hb : _ = _) => ?_; try simp only [Zu, ne_eq, reduceCtorEq] at hb)) | (apply zba; · simp [evl])))
      refine zma ?_
      refine zqc (zjc _ _) ⟨⟨true, ?_⟩, rfl⟩
      (simp (disch := omega) only [evl, Nat.reduceEqDiff, Nat.reduceAdd, reduceIte, reduceCtorEq, h2])
structure ActA where
  kd : Int
  op : Int
  nm : ByteArray
  to : ByteArray
  n_ : Int
  m_ : Int
  vL : AV
  vO : AV
  vR : AV
  x0 : Int
  x1 : Int
  x2 : Int
  x3 : Int
  xm : Int
  vB : AV
  vK : AV
abbrev actL (x : ActA) : List AV := [.int .i64 x.kd, .int .i64 x.op, .str x.nm, .str x.to, .int .i64 x.n_, .int .i64 x.m_, x.vL, x.vO, x.vR, .int .i64 x.x0, .int .i64 x.x1, .int .i64 x.x2, .int .i64 x.x3, .int .u8 x.xm, x.vB, x.vK]
abbrev actX (x : ActA) : List AV := [.int .i64 x.x0, .int .i64 x.x1, .int .i64 x.x2, .int .i64 x.x3, .int .u8 x.xm, x.vB, x.vK]
abbrev actO (x : ActA) : List AV := ordL x.op x.n_ x.m_ x.nm x.to x.vL x.vO
abbrev h5 (B : Nat → ABlk) : AH := hA [B 0, B 1, B 2, B 3, B 4]
abbrev g1 (x : ActA) (B : Nat → ABlk) : AH := (h5 B).new (.cells (.lst (actL x)) 44 16 false false)
abbrev g2 (x : ActA) (B : Nat → ABlk) : AH := (g1 x B).new (.cells (.lst (actL x)) 44 16 false false)
abbrev g3 (x : ActA) (B : Nat → ABlk) : AH := (g2 x B).new (ordB x.op x.n_ x.m_ x.nm x.to x.vL x.vO)
abbrev g4 (x : ActA) (B : Nat → ABlk) : AH := (g3 x B).new (.cells (.lst (actX x)) 42 7 false false)
abbrev g5 (x : ActA) (B : Nat → ABlk) : AH := (g4 x B).new (.cells (.lst (actX x)) 42 7 true false)
section
variable (x : ActA) (B : Nat → ABlk)
theorem jO : ldN 7 (.ptr 6 1) (g2 x B) = some (.agg (actO x)) := by kernel_rfl
theorem j7 : ld1 (.ptr 6 7) (g3 x B) = some x.vO := by kernel_rfl
theorem j8 : ld1 (.ptr 6 8) (g3 x B) = some x.vR := by kernel_rfl
theorem j9 : ldN 7 (.ptr 6 9) (g3 x B) = some (.agg (actX x)) := by kernel_rfl
theorem kb6 : bsF 7 1 (.agg [(.int .i64 (0)), (.int .i64 (0)), (.int .i64 (0)), (.int .i64 (0)), (.int .u8 (0)), .nilSl, .nilSl]) 42 (zipF [0] [.agg (actX x)]) (g3 x B) = some (.sl 8 0 1 1 false, g4 x B) := by kernel_rfl
theorem ka7 (hv : x.vB.oneCell = true) (hw : x.vK.oneCell = true) : appX 42 7 88 [.nilSl, .sl 8 0 1 1 false] (g4 x B) = some (.sl 9 0 1 1 true, g5 x B) := by
  obtain ⟨kd, op, nm, to, n_, m_, vL, vO, vR, x0, x1, x2, x3, xm, vB, vK⟩ := x
  cases vB <;> first | (cases hv; done) | (cases vK <;> first | (cases hw; done) | kernel_rfl)
end
theorem zmt {H : AH} {v : AV} {n : Nat} (h : IsSl H v n) : v.oneCell = true := by
  rcases h with ⟨rfl, _⟩ | ⟨i, o, c, op, rfl, _⟩ <;> rfl
theorem zxe1 (x : ActA) (B : Nat → ABlk) (nL nO nR nB nK : Nat) (ss : Nat → ByteArray) (hL : SlR (h5 B) x.vL nL (fun k => .str (ss k))) (hO : IsSl (h5 B) x.vO nO) (hR : IsSl (h5 B) x.vR nR) (hB : IsSl (h5 B) x.vB nB) (hK : IsSl (h5 B) x.vK nK) (hl : nL ≤ 9223372036854775807) :
    FnE lookN 14 [.sl 6 0 1 1 false] (g2 x B) fun r H' => r = .bool true ∨ (r = .bool false ∧ H' = g5 x B) := by
  refine zzb f14_eq (zve1 rfl) rfl ?_
  unfold f14c
  have qO := jO x B
  have q7 := j7 x B
  have q8 := j8 x B
  have q9 := j9 x B
  have p6 := kb6 x B
  have p7 := ka7 x B (zmt hB) (zmt hK)
  have row6 : Row (g2 x B) 6 false false 44 16 (actL x) := Row.new (H := g1 x B) rfl (.lst (actL x)) 44 16 false false
  have hs : IsSl (g2 x B) (.sl 6 0 1 1 false) 1 := row6.isSl (by show 6 < 7; decide) (Nat.zero_le _)
  have hx2 : HX (h5 B) (g2 x B) := (HX.new _ _).trans (HX.new _ _)
  have hx3 : HX (h5 B) (g3 x B) := hx2.trans (HX.new _ _)
  have hx5 : HX (h5 B) (g5 x B) := hx3.trans ((HX.new _ _).trans (HX.new _ _))
  have row9 : Row (g5 x B) 9 false true 42 7 (actX x) := Row.new (H := g4 x B) rfl (.lst (actX x)) 42 7 true false
  have hLO := zqr (g2 x B) x.op x.n_ x.m_ x.nm x.to x.vL x.vO nL nO ss (hL.hx hx2) (hO.hx hx2) hl rfl
  have h15 := zwe1 (g5 x B) 9 1 true x.vB x.vK nB nK (row9.isSl (by show 9 < 10; decide) (Nat.zero_le _)) (by kernel_rfl) (by kernel_rfl) (hB.hx hx5) (hK.hx hx5)
  have hlen := fun H' => zaj (H' := H') uN24 hs
  have hlenO := fun H' => zaj (H' := H') uN35 (hO.hx hx3)
  have hlenR := fun H' => zaj (H' := H') uN35 (hR.hx hx3)
  have hix : ixS 16 (.sl 6 0 1 1 false) (.int .i64 0) = some (.ptr 6 0) := rfl
  have hg3 : (g2 x B).new (ordB x.op x.n_ x.m_ x.nm x.to x.vL x.vO) = g3 x B := rfl
  rw [hg3] at hLO
  clear hx2 hx3 hx5 hL hO hR hB hK row6 row9 hg3
  generalize g2 x B = G2 at *
  generalize g3 x B = G3 at *
  generalize g4 x B = G4 at *
  generalize g5 x B = G5 at *
  (repeat' (first | refine Z ?_ | refine Zq ?_ | refine zaa (by decide) ?_ | ((first | refine' Y ?_ ?_ | refine' X ?_ ?_ ?_); rotate_left; (· (first | (simp (disch := omega) only [evl, Nat.reduceEqDiff, Nat.reduceAdd, reduceIte, reduceCtorEq] <;> exact rfl) | exact rfl)); all_goals try (refine fun (hb : _ = _) => ?_; try simp only [Zu, ne_eq, reduceCtorEq] at hb)) | (apply zba; · simp [evl])))
  refine zoh (R := fun ex T' H' => (ex = .exit 0 ∧ gT T' 0 = .sl 6 0 1 1 false ∧ gT T' 3 = .sl 9 0 1 1 true ∧ H' = G5) ∨ (ex = .ret ∧ gT T' 2 = .bool true)) ?_ ?_
  · refine zxm zsk1 (fun j T H' => gT T 0 = .sl 6 0 1 1 false ∧ ((j = 1 ∧ gT T 4 = .int .i64 0 ∧ gT T 3 = .nilSl ∧ H' = G2) ∨ (j = 0 ∧ gT T 4 = .int .i64 1 ∧ gT T 3 = .sl 9 0 1 1 true ∧ H' = G5))) _ ?_ 1 _ _ ?_
    · rintro j T H2 ⟨e0, ⟨rfl, e4, e3, rfl⟩ | ⟨rfl, e4, e3, rfl⟩⟩
      · unfold f14l0
        (repeat' (first | refine Z ?_ | refine Zq ?_ | refine zaa (by decide) ?_ | ((first | refine' Y ?_ ?_ | refine' X ?_ ?_ ?_); rotate_left; (· (first | (simp (disch := omega) only [evl, Nat.reduceEqDiff, Nat.reduceAdd, reduceIte, reduceCtorEq, e0, e3, e4, hlen, hix, qO] <;> exact rfl) | exact rfl)); all_goals try (refine fun (hb : _ = _) => ?_; try simp only [Zu, ne_eq, reduceCtorEq] at hb)) | (apply zba; · simp [evl])))
        refine rk_cl (by (simp (disch := omega) only [evl, Nat.reduceEqDiff, Nat.reduceAdd, reduceIte, reduceCtorEq, e0, e4, hix, qO]); exact hLO) ?_
        rintro r H3 ⟨⟨b, rfl⟩, rfl⟩
        simp only [zpa]
        cases b with
        | true =>
          (repeat' (first | refine Z ?_ | refine Zq ?_ | refine zaa (by decide) ?_ | ((first | refine' Y ?_ ?_ | refine' X ?_ ?_ ?_); rotate_left; (· (first | (simp (disch := omega) only [evl, Nat.reduceEqDiff, Nat.reduceAdd, reduceIte, reduceCtorEq, e0, e3, e4, hix, q7, q8, hlenO, hlenR] <;> exact rfl) | exact rfl)); all_goals try (refine fun (hb : _ = _) => ?_; try simp only [Zu, ne_eq, reduceCtorEq] at hb)) | (apply zba; · simp [evl])))
          refine zma ?_
          refine lpq_r (.inr ⟨rfl, ?_⟩)
          (simp (disch := omega) only [evl, Nat.reduceEqDiff, Nat.reduceAdd, reduceIte, reduceCtorEq])
        | false =>
          by_cases hb1 : 2000 < nO
          · (repeat' (first | refine Z ?_ | refine Zq ?_ | refine zaa (by decide) ?_ | ((first | refine' Y ?_ ?_ | refine' X ?_ ?_ ?_); rotate_left; (· (first | (simp (disch := omega) only [evl, Nat.reduceEqDiff, Nat.reduceAdd, reduceIte, reduceCtorEq, e0, e3, e4, hix, q7, q8, hlenO, hlenR] <;> exact rfl) | exact rfl)); all_goals try (refine fun (hb : _ = _) => ?_; try simp only [Zu, ne_eq, reduceCtorEq] at hb)) | (apply zba; · simp [evl])))
            refine zma ?_
            refine lpq_r (.inr ⟨rfl, ?_⟩)
            (simp (disch := omega) only [evl, Nat.reduceEqDiff, Nat.reduceAdd, reduceIte, reduceCtorEq])
          by_cases hb2 : 2000 < nR
          · (repeat' (first | refine Z ?_ | refine Zq ?_ | refine zaa (by decide) ?_ | ((first | refine' Y ?_ ?_ | refine' X ?_ ?_ ?_); rotate_left; (· (first | (simp (disch := omega) only [evl, Nat.reduceEqDiff, Nat.reduceAdd, reduceIte, reduceCtorEq, e0, e3, e4, hix, q7, q8, hlenO, hlenR] <;> exact rfl) | exact rfl)); all_goals try (refine fun (hb : _ = _) => ?_; try simp only [Zu, ne_eq, reduceCtorEq] at hb)) | (apply zba; · simp [evl])))
            refine zma ?_
            refine lpq_r (.inr ⟨rfl, ?_⟩)
            (simp (disch := omega) only [evl, Nat.reduceEqDiff, Nat.reduceAdd, reduceIte, reduceCtorEq])
          (repeat' (first | refine Z ?_ | refine Zq ?_ | refine zaa (by decide) ?_ | ((first | refine' Y ?_ ?_ | refine' X ?_ ?_ ?_); rotate_left; (· (first | (simp (disch := omega) only [evl, Nat.reduceEqDiff, Nat.reduceAdd, reduceIte, reduceCtorEq, e0, e3, e4, hix, q7, q8, q9, hlenO, hlenR] <;> exact rfl) | exact rfl)); all_goals try (refine fun (hb : _ = _) => ?_; try simp only [Zu, ne_eq, reduceCtorEq] at hb)) | (apply zba; · simp [evl])))
          refine rk_hn (by (simp (disch := omega) only [evl, Nat.reduceEqDiff, Nat.reduceAdd, reduceIte, reduceCtorEq, q9]); exact p6) ?_
          simp only [zpa]
          (repeat' (first | refine Z ?_ | refine Zq ?_ | refine zaa (by decide) ?_ | ((first | refine' Y ?_ ?_ | refine' X ?_ ?_ ?_); rotate_left; (· (first | (simp (disch := omega) only [evl, Nat.reduceEqDiff, Nat.reduceAdd, reduceIte, reduceCtorEq, e0, e3, e4] <;> exact rfl) | exact rfl)); all_goals try (refine fun (hb : _ = _) => ?_; try simp only [Zu, ne_eq, reduceCtorEq] at hb)) | (apply zba; · simp [evl])))
          refine rk_hn (by (simp (disch := omega) only [evl, Nat.reduceEqDiff, Nat.reduceAdd, reduceIte, reduceCtorEq, e3]); exact p7) ?_
          simp only [zpa]
          (repeat' (first | refine Z ?_ | refine Zq ?_ | refine zaa (by decide) ?_ | ((first | refine' Y ?_ ?_ | refine' X ?_ ?_ ?_); rotate_left; (· (first | (simp (disch := omega) only [evl, Nat.reduceEqDiff, Nat.reduceAdd, reduceIte, reduceCtorEq, e0, e3, e4] <;> exact rfl) | exact rfl)); all_goals try (refine fun (hb : _ = _) => ?_; try simp only [Zu, ne_eq, reduceCtorEq] at hb)) | (apply zba; · simp [evl])))
          refine zma ?_
          refine lpq_n 0 (by omega) ⟨?_, .inr ⟨rfl, ?_, ?_, rfl⟩⟩
          · (simp (disch := omega) only [evl, Nat.reduceEqDiff, Nat.reduceAdd, reduceIte, reduceCtorEq, e0])
          · (simp (disch := omega) only [evl, Nat.reduceEqDiff, Nat.reduceAdd, reduceIte, reduceCtorEq, e4]); rfl
          · (simp (disch := omega) only [evl, Nat.reduceEqDiff, Nat.reduceAdd, reduceIte, reduceCtorEq])
      · unfold f14l0
        (repeat' (first | refine Z ?_ | refine Zq ?_ | refine zaa (by decide) ?_ | ((first | refine' Y ?_ ?_ | refine' X ?_ ?_ ?_); rotate_left; (· (first | (simp (disch := omega) only [evl, Nat.reduceEqDiff, Nat.reduceAdd, reduceIte, reduceCtorEq, e0, e4, hlen] <;> exact rfl) | exact rfl)); all_goals try (refine fun (hb : _ = _) => ?_; try simp only [Zu, ne_eq, reduceCtorEq] at hb)) | (apply zba; · simp [evl])))
        refine zma ?_
        refine lpq_e (.inl ⟨rfl, ?_, ?_, rfl⟩)
        · (simp (disch := omega) only [evl, Nat.reduceEqDiff, Nat.reduceAdd, reduceIte, reduceCtorEq, e0])
        · (simp (disch := omega) only [evl, Nat.reduceEqDiff, Nat.reduceAdd, reduceIte, reduceCtorEq, e3])
    · refine ⟨?_, .inl ⟨rfl, ?_, ?_, rfl⟩⟩
      · (simp (disch := omega) only [evl, Nat.reduceEqDiff, Nat.reduceAdd, reduceIte, reduceCtorEq])
      · (simp (disch := omega) only [evl, Nat.reduceEqDiff, Nat.reduceAdd, reduceIte, reduceCtorEq])
      · (simp (disch := omega) only [evl, Nat.reduceEqDiff, Nat.reduceAdd, reduceIte, reduceCtorEq])
  · rintro ex T' H' (⟨rfl, e0, e3, rfl⟩ | ⟨rfl, e2⟩)
    · (repeat' (first | refine Z ?_ | refine Zq ?_ | refine zaa (by decide) ?_ | ((first | refine' Y ?_ ?_ | refine' X ?_ ?_ ?_); rotate_left; (· (first | (simp (disch := omega) only [evl, Nat.reduceEqDiff, Nat.reduceAdd, reduceIte, reduceCtorEq, e0, e3, hlen] <;> exact rfl) | exact rfl)); all_goals try (refine fun (hb : _ = _) => ?_; try simp only [Zu, ne_eq, reduceCtorEq] at hb)) | (apply zba; · simp [evl])))
      refine rk_cl (by (simp (disch := omega) only [evl, Nat.reduceEqDiff, Nat.reduceAdd, reduceIte, reduceCtorEq, e3]); exact h15) ?_
      rintro r H3 ⟨⟨b, rfl⟩, rfl⟩
      simp only [zpa]
      cases b with
      | true =>
        (repeat' (first | refine Z ?_ | refine Zq ?_ | refine zaa (by decide) ?_ | ((first | refine' Y ?_ ?_ | refine' X ?_ ?_ ?_); rotate_left; (· (first | (simp (disch := omega) only [evl, Nat.reduceEqDiff, Nat.reduceAdd, reduceIte, reduceCtorEq] <;> exact rfl) | exact rfl)); all_goals try (refine fun (hb : _ = _) => ?_; try simp only [Zu, ne_eq, reduceCtorEq] at hb)) | (apply zba; · simp [evl])))
        refine zma ?_; refine zqc (zjc _ _) (.inl ?_)
        (simp (disch := omega) only [evl, Nat.reduceEqDiff, Nat.reduceAdd, reduceIte, reduceCtorEq])
      | false =>
        (repeat' (first | refine Z ?_ | refine Zq ?_ | refine zaa (by decide) ?_ | ((first | refine' Y ?_ ?_ | refine' X ?_ ?_ ?_); rotate_left; (· (first | (simp (disch := omega) only [evl, Nat.reduceEqDiff, Nat.reduceAdd, reduceIte, reduceCtorEq] <;> exact rfl) | exact rfl)); all_goals try (refine fun (hb : _ = _) => ?_; try simp only [Zu, ne_eq, reduceCtorEq] at hb)) | (apply zba; · simp [evl])))
        refine zma ?_; refine zqc (zjc _ _) (.inr ⟨?_, rfl⟩)
        (simp (disch := omega) only [evl, Nat.reduceEqDiff, Nat.reduceAdd, reduceIte, reduceCtorEq])
    · (repeat' (first | refine Z ?_ | refine Zq ?_ | refine zaa (by decide) ?_ | ((first | refine' Y ?_ ?_ | refine' X ?_ ?_ ?_); rotate_left; (· (first | (simp (disch := omega) only [evl, Nat.reduceEqDiff, Nat.reduceAdd, reduceIte, reduceCtorEq, e2] <;> exact rfl) | exact rfl)); all_goals try (refine fun (hb : _ = _) => ?_; try simp only [Zu, ne_eq, reduceCtorEq] at hb)) | (apply zba; · simp [evl])))
      refine zma ?_
      refine zqc (zjc _ _) (.inl ?_)
      (simp (disch := omega) only [evl, Nat.reduceEqDiff, Nat.reduceAdd, reduceIte, reduceCtorEq, e2])
set_option maxRecDepth 1000000
def getO : Option Out → Out | some o => o | none => ⟨.normal, .nil, H0⟩
theorem zyl {L : Lk} {c : C2} {T : Tr AV} {H : AH} {Q : PostC} (n : Nat) (h : ∀ k, evC' c L (evF L (k + n)) (kOf L (evF L (k + n)) []) T H = some (getO (evC' c L (evF L n) (kOf L (evF L n) []) T H)))
    (hq : Q (getO (evC' c L (evF L n) (kOf L (evF L n) []) T H)).ex (getO (evC' c L (evF L n) (kOf L (evF L n) []) T H)).T (getO (evC' c L (evF L n) (kOf L (evF L n) []) T H)).H) : RC L c [] T H Q :=
  ⟨_, hq, n, fun m hm => by obtain ⟨k, rfl⟩ : ∃ k, m = k + n := ⟨m - n, by omega⟩; exact h k⟩
theorem zjg (H : AH) : FnE lookN 11 [] H fun r H' => r = .bool true ∧ H' = { H with fz := true } := zeg1 (show lookN.ext 11 = some zxg from rfl) rfl
section
variable (x : ActA) (B : Nat → ABlk)
theorem k58a : ldN 16 (.ptr 5 0) (g1 x B) = some (.agg (actL x)) := by kernel_rfl
end
theorem zrr (x : ActA) (B : Nat → ABlk) (nL nO nR nB nK : Nat) (ss : Nat → ByteArray) (hL : SlR (h5 B) x.vL nL (fun k => .str (ss k))) (hO : IsSl (h5 B) x.vO nO) (hR : IsSl (h5 B) x.vR nR) (hB : IsSl (h5 B) x.vB nB) (hK : IsSl (h5 B) x.vK nK) (hl : nL ≤ 9223372036854775807) :
    FnE lookN 4 [.agg (actL x)] (h5 B) fun r H' => r = .bool true := by
  have hLong := zxe1 x B nL nO nR nB nK ss hL hO hR hB hK hl
  clear hL hO hR hB hK
  refine zzb f4_eq (zve1 rfl) rfl ?_
  unfold f4c
  (repeat' (first | refine Z ?_ | refine Zq ?_ | refine zaa (by decide) ?_ | ((first | refine' Y ?_ ?_ | refine' X ?_ ?_ ?_); rotate_left; (· (first | (simp (disch := omega) only [evl, Nat.reduceEqDiff, Nat.reduceAdd, reduceIte, reduceCtorEq] <;> exact rfl) | exact rfl)); all_goals try (refine fun (hb : _ = _) => ?_; try simp only [Zu, ne_eq, reduceCtorEq] at hb)) | (apply zba; · simp [evl])))
  refine rk_m1 (v := .ptr 5 0) (H' := g1 x B) (by (simp (disch := omega) only [evl, Nat.reduceEqDiff, Nat.reduceAdd, reduceIte, reduceCtorEq]); exact zum _ _ _ _) ?_
  simp only [zpa]
  have q := k58a x B
  (repeat' (first | refine Z ?_ | refine Zq ?_ | refine zaa (by decide) ?_ | ((first | refine' Y ?_ ?_ | refine' X ?_ ?_ ?_); rotate_left; (· (first | (simp (disch := omega) only [evl, Nat.reduceEqDiff, Nat.reduceAdd, reduceIte, reduceCtorEq, q] <;> exact rfl) | exact rfl)); all_goals try (refine fun (hb : _ = _) => ?_; try simp only [Zu, ne_eq, reduceCtorEq] at hb)) | (apply zba; · simp [evl])))
  refine rk_hn (v := .sl 6 0 1 1 false) (H' := g2 x B) (by (simp (disch := omega) only [evl, Nat.reduceEqDiff, Nat.reduceAdd, reduceIte, reduceCtorEq, q]); kernel_rfl) ?_
  simp only [zpa]
  (repeat' (first | refine Z ?_ | refine Zq ?_ | refine zaa (by decide) ?_ | ((first | refine' Y ?_ ?_ | refine' X ?_ ?_ ?_); rotate_left; (· (first | (simp (disch := omega) only [evl, Nat.reduceEqDiff, Nat.reduceAdd, reduceIte, reduceCtorEq] <;> exact rfl) | exact rfl)); all_goals try (refine fun (hb : _ = _) => ?_; try simp only [Zu, ne_eq, reduceCtorEq] at hb)) | (apply zba; · simp [evl])))
  refine rk_cl (by (simp (disch := omega) only [evl, Nat.reduceEqDiff, Nat.reduceAdd, reduceIte, reduceCtorEq]); exact hLong) ?_
  rintro r H3 (rfl | ⟨rfl, rfl⟩)
  · simp only [zpa]
    (repeat' (first | refine Z ?_ | refine Zq ?_ | refine zaa (by decide) ?_ | ((first | refine' Y ?_ ?_ | refine' X ?_ ?_ ?_); rotate_left; (· (first | (simp (disch := omega) only [evl, Nat.reduceEqDiff, Nat.reduceAdd, reduceIte, reduceCtorEq] <;> exact rfl) | exact rfl)); all_goals try (refine fun (hb : _ = _) => ?_; try simp only [Zu, ne_eq, reduceCtorEq] at hb)) | (apply zba; · simp [evl])))
    refine rk_cl (by (simp (disch := omega) only [evl, Nat.reduceEqDiff, Nat.reduceAdd, reduceIte, reduceCtorEq]); exact zjg _) ?_
    rintro r H1 ⟨rfl, rfl⟩
    simp only [zpa]
    (repeat' (first | refine Z ?_ | refine Zq ?_ | refine zaa (by decide) ?_ | ((first | refine' Y ?_ ?_ | refine' X ?_ ?_ ?_); rotate_left; (· (first | (simp (disch := omega) only [evl, Nat.reduceEqDiff, Nat.reduceAdd, reduceIte, reduceCtorEq] <;> exact rfl) | exact rfl)); all_goals try (refine fun (hb : _ = _) => ?_; try simp only [Zu, ne_eq, reduceCtorEq] at hb)) | (apply zba; · simp [evl])))
    refine zma ?_; refine zqc (zjc _ _) ?_
    (simp (disch := omega) only [evl, Nat.reduceEqDiff, Nat.reduceAdd, reduceIte, reduceCtorEq])
  · simp only [zpa]
    refine rk_done ?_
    refine rn_seq_n ?_
    refine znh (by (simp (disch := omega) only [evl, Nat.reduceEqDiff, Nat.reduceAdd, reduceIte, reduceCtorEq])) ?_
    refine rc_skip ?_
    refine rn_seq_n ?_
    clear hLong q
    refine zyl 400 (fun k => by kernel_rfl) ?_
    exact ⟨.inr (by kernel_rfl), _, zjc _ _, by show _ = AV.bool true; kernel_rfl⟩
set_option maxRecDepth 100000
section
variable {P : Program} {w : World} {base t : Nat} {v : Value}
theorem zvc {k : IntKind} (hu : P.underlying t = some (.int k)) (h : Cell.okWide P w .any base t v) : ∃ n, v = .int k n := by
  unfold Cell.okWide at h
  rw [hu] at h
  have h : Cell.ok P w .any base t v := by cases v <;> exact h
  unfold Cell.ok at h
  rw [hu] at h
  cases v <;> first | exact h.elim | (obtain ⟨rfl, _⟩ := h; exact ⟨_, rfl⟩)
theorem zsr (hu : P.underlying t = some .string) (h : Cell.okWide P w .any base t v) : ∃ s, v = .string s := by
  unfold Cell.okWide at h
  rw [hu] at h
  have h : Cell.ok P w .any base t v := by cases v <;> exact h
  unfold Cell.ok at h
  rw [hu] at h
  cases v <;> first | exact h.elim | exact ⟨_, rfl⟩
theorem zsh {e : Nat} (hu : P.underlying t = some (.slice e)) (h : Cell.okWide P w .any base t v) :
    v = .slice none 0 0 ∨ ∃ x len cap, v = .slice (some x) len cap ∧ len ≤ cap ∧ (cap : Int) ≤ IntKind.i64.max ∧ x.spot = none ∧ ∃ cs e fz, w.heap[x.block]? = some (.cells cs e fz) := by
  have h0 := h
  unfold Cell.okWide at h
  rw [hu] at h
  have h : Cell.ok P w .any base t v := by cases v <;> exact h
  unfold Cell.ok at h
  rw [hu] at h
  cases v with
  | slice a len cap =>
    cases a with
    | none =>
      left
      cases len with
      | zero => cases cap with | zero => rfl | succ c => exact h.elim
      | succ n => exact h.elim
    | some x =>
      right
      have hb := zxs (P := P) (w := w) (base := base) (t := t) (e := e) (x := x) (len := len) (cap := cap) hu (by unfold Value.okWide; rw [hu]; exact h0)
      exact ⟨x, len, cap, rfl, h.1, h.2.1, hb.1, hb.2⟩
  | _ => exact h.elim
end
theorem zvp (k : Nat) {w : World} {a : Option Addr} {len cap e z : Nat} (hrow : (a = none ∧ len = 0 ∧ cap = 0) ∨ ∃ x, a = some x ∧ (x.spot = none ∧ ∃ cs e fz, w.heap[x.block]? = some (.cells cs e fz))) :
    ∃ (b : ABlk × EB) (v : AV), Arg w k (.slice a len cap) (fun H v => IsSl H v len) b v := by
  rcases hrow with ⟨rfl, rfl, rfl⟩ | ⟨x, rfl, hsp, hblk⟩
  · exact ⟨_, _, zyx w k fun H => .inl ⟨rfl, rfl⟩⟩
  · refine ⟨_, _, zzx k (e := e) (z := z) (l := []) hsp hblk (fun E j v hj => by simp at hj) (fun H hk hr => ?_)⟩
    obtain ⟨c, hg, _⟩ := hr
    exact .inr ⟨k, 0, cap, false, rfl, hk, c, _, _, _, _, hg, Nat.zero_le _⟩
theorem zyg {P : Program} {w : World} {base t e : Nat} {v : Value} (k : Nat) (hu : P.underlying t = some (.slice e)) (h : Cell.okWide P w .any base t v) :
    ∃ (a : Option Addr) (len cap : Nat) (b : ABlk × EB) (u : AV), v = .slice a len cap ∧ Arg w k (.slice a len cap) (fun H v => IsSl H v len) b u := by
  rcases zsh hu h with rfl | ⟨x, len, cap, rfl, _, _, hsp, hb⟩
  · obtain ⟨b, u, h2⟩ := zvp k (w := w) (a := none) (len := 0) (cap := 0) (e := e) (z := 1) (.inl ⟨rfl, rfl, rfl⟩)
    exact ⟨_, _, _, b, u, rfl, h2⟩
  · obtain ⟨b, u, h2⟩ := zvp k (w := w) (a := some x) (len := len) (cap := cap) (e := e) (z := 1) (.inr ⟨x, rfl, hsp, hb⟩)
    exact ⟨_, _, _, b, u, rfl, h2⟩
theorem zua1 (k : Nat) {w : World} {a : Option Addr} {len cap e : Nat} {Sx : Nat → ByteArray} (hrow : (a = none ∧ len = 0 ∧ cap = 0) ∨ ∃ x, a = some x ∧ len ≤ cap ∧ cap ≤ maxLen ∧ (∀ i, i < len → w.cell? (x.add i) = some (.string (Sx i))) ∧ (x.spot = none ∧ ∃ cs e fz, w.heap[x.block]? = some (.cells cs e fz))) :
    ∃ (ss : Nat → ByteArray) (b : ABlk × EB) (v : AV), len ≤ maxLen ∧ Arg w k (.slice a len cap) (fun H v => SlR H v len (fun k => .str (ss k))) b v := by
  rcases hrow with ⟨rfl, rfl, rfl⟩ | ⟨x, rfl, hlc, hm, hcell, hsp, hblk⟩
  · exact ⟨fun _ => ByteArray.empty, _, _, Nat.zero_le _, zyx w k fun H => ⟨.inl ⟨rfl, rfl⟩, fun k hk => by simp at hk⟩⟩
  · refine ⟨Sx, _, _, by omega, zzx k (e := e) (z := 1) (l := (List.range len).map fun i => AV.str (Sx i)) hsp hblk (fun E j v hj => ?_) (fun H hk hr => ?_)⟩
    · by_cases hjl : j < len
      · rw [List.getElem?_map, List.getElem?_range hjl] at hj
        cases hj
        have := hcell j hjl
        rw [zmj1 hsp] at this
        exact this
      · rw [List.getElem?_eq_none (by simp; omega)] at hj; cases hj
    · exact hr.slR (o := 0) (n := len) (c := cap) (op' := false) hk (Nat.zero_le _) fun i hi => by
        rw [Nat.zero_add, List.getElem?_map, List.getElem?_range hi]; rfl
section
variable {H : Type} {enc : TypeId × Value → H} {P : Program} {w : World} {base : Nat} {spare : Nat → Bool} {held : Bool} {n : Nat} {T : TypeId} {cs : List Value} {o : Nat} {y : DataW H × List MemPlace}
theorem znt {fs : Array Field} {fuel : Nat} {x : DataW H × List MemPlace} (hu : P.underlying T = some (.struct fs)) (h : DataW.trod enc P w base spare held fuel T cs = some x) :
    ∃ m, cs.length = P.cellsOf T ∧ ∀ (i : Nat) (f : Field), fs[i]? = some f → ∃ y, DataW.trod enc P w base spare held m f.type ((cs.drop f.offset).take (P.cellsOf f.type)) = some y := by
  obtain ⟨xs, m, _, _, hl, hlen, hg⟩ := DataW.trod_struct hu h
  refine ⟨m, hl, fun i f hf => ?_⟩
  have hi : i < xs.length := by
    rw [hlen]
    exact (Array.getElem?_eq_some_iff.1 hf).1
  rw [hg i f hf]
  exact ⟨xs[i], List.getElem?_eq_getElem hi⟩
theorem cellsSs : Tryz.prog.cellsOf 27 = 1 := by kernel_rfl
theorem cellsO : Tryz.prog.cellsOf 30 = 7 := by kernel_rfl
theorem act_l (h : DataW.trod enc Tryz.prog w base spare held n 44 cs = some y) : ∃ m z, DataW.trod enc Tryz.prog w base spare held m 27 ((((cs.drop 1).take 7).drop 5).take 1) = some z := by
  obtain ⟨m, hl, hf⟩ := znt Tryz.underlying44 h
  obtain ⟨z, hz⟩ := hf 1 _ rfl
  have hz' : DataW.trod enc Tryz.prog w base spare held m 30 ((cs.drop 1).take 7) = some z := by rw [← cellsO]; exact hz
  obtain ⟨m2, hl2, hf2⟩ := znt Tryz.underlying30 hz'
  obtain ⟨z2, hz2⟩ := hf2 5 _ rfl
  exact ⟨m2, z2, by rw [← cellsSs]; exact hz2⟩
end
end HS
end
