import Derived.Test.YtbamianefacbgaaGreatDoorVCAL
import Derived.WalkKit
import Derived.ProofKit
import Derived.OpenShut
import Derived.ShutString
import Derived.ChangeOld
import Derived.Below
import Derived.Deep.Slices
import Derived.Deep.Strs
import Derived.Deep.Fields
set_option maxHeartbeats 8000000
set_option linter.unusedSimpArgs false
set_option linter.unusedVariables false
open Go Go.Ev Go.Proofs Go.RowKit
namespace HS
set_option maxRecDepth 1000000
noncomputable def tabN : List (Nat × XFn) := (8, zed) :: tab0
theorem tabN_ok (B : Nat) : ∀ p ∈ tabN, XOk Tryz.prog B p.1 p.2 := zlb (zyu B) (zkk B)
noncomputable def lookN : Lk := lk tabN
theorem zzi1 : LOk lookN Tryz.prog := lk_ok tabN
theorem zhd1 (B : Nat) : ExtOk lookN Tryz.prog B := zfj (tabN_ok B)
noncomputable def f7body : Code := bodyN lookN 7
noncomputable def f7r0 : K2 :=
  .mv (.con (.bool false)) (some (sOf 2)) <|
  .done
noncomputable def f7r1 : K2 :=
  .mv (.con .nilSl) (some (sOf 3)) <|
  .done
noncomputable def f7r2 : K2 :=
  .mv (.con .nilSl) (some (sOf 4)) <|
  .done
noncomputable def f7r3 : K2 :=
  .mv (.con (.int .i64 (0))) (some (sOf 5)) <|
  .done
noncomputable def f7r4_6 : K2 := .ln (fun xs _ => pickF xs) [(tO 10), (tO 12), (.con (.bool false))] (some (sOf 13)) <|
  .done
noncomputable def f7r4_5 : K2 := .gd (sOf 10) true (some (sOf 12)) (.p2 (binF .lss (evBin lookN .lss 3 (.tmp 11) (.const (.int .i64 (31))))) (tO 11) (.con (.int .i64 (31))) (some (sOf 12)) <|
  f7r4_6) f7r4_6
noncomputable def f7r4 : K2 :=
  .mv (tO 5) (some (sOf 6)) <|
  .mv (tO 0) (some (sOf 7)) <|
  .ln (fun xs H => fstO (zda .len lookN [36] xs H)) [(tO 7)] (some (sOf 8)) <|
  .p2 (binF .lss (evBin lookN .lss 3 (.tmp 6) (.tmp 8))) (tO 6) (tO 8) (some (sOf 9)) <|
  .mv (tO 9) (some (sOf 10)) <|
  .gd (sOf 10) true (some (sOf 11)) (.mv (tO 5) (some (sOf 11)) <|
  f7r4_5) f7r4_5
noncomputable def zif1 : K2 := .ln (fun xs _ => pickF xs) [(tO 23), (.con (.bool true)), (tO 30)] (some (sOf 31)) <|
  .done
noncomputable def zjf1 : K2 := .gd (sOf 23) false (some (sOf 30)) (.p2 (binF .gtr (evBin lookN .gtr 3 (.tmp 29) (.const (.int .i64 (2000))))) (tO 29) (.con (.int .i64 (2000))) (some (sOf 30)) <|
  zif1) zif1
noncomputable def zkf1 : K2 := .gd (sOf 23) false (some (sOf 29)) (.ln (fun xs H => fstO (zda .len lookN [22] xs H)) [(tO 28)] (some (sOf 29)) <|
  zjf1) zjf1
noncomputable def zlf1 : K2 := .gd (sOf 23) false (some (sOf 28)) (.r1 ld1 (tO 27) (some (sOf 28)) <|
  zkf1) zkf1
noncomputable def zmf1 : K2 := .gd (sOf 23) false (some (sOf 27)) (.p1 (fa 4) (tO 26) (some (sOf 27)) <|
  zlf1) zlf1
noncomputable def f7r5_9 : K2 := .gd (sOf 23) false (some (sOf 26)) (.p2 (ixS 52) (tO 24) (tO 25) (some (sOf 26)) <|
  zmf1) zmf1
noncomputable def f7r5_8 : K2 := .gd (sOf 23) false (some (sOf 25)) (.mv (tO 5) (some (sOf 25)) <|
  f7r5_9) f7r5_9
noncomputable def f7r5 : K2 :=
  .mv (tO 0) (some (sOf 16)) <|
  .mv (tO 5) (some (sOf 17)) <|
  .p2 (ixS 52) (tO 16) (tO 17) (some (sOf 18)) <|
  .p1 (fa 3) (tO 18) (some (sOf 19)) <|
  .r1 ld1 (tO 19) (some (sOf 20)) <|
  .ln (fun xs H => fstO (zda .len lookN [9] xs H)) [(tO 20)] (some (sOf 21)) <|
  .p2 (binF .gtr (evBin lookN .gtr 3 (.tmp 21) (.const (.int .i64 (100))))) (tO 21) (.con (.int .i64 (100))) (some (sOf 22)) <|
  .mv (tO 22) (some (sOf 23)) <|
  .gd (sOf 23) false (some (sOf 24)) (.mv (tO 0) (some (sOf 24)) <|
  f7r5_8) f7r5_8
noncomputable def f7r6 : K2 :=
  .mv (.con (.bool true)) (some (sOf 2)) <|
  .done
noncomputable def f7r7 : K2 :=
  .mv (tO 3) (some (sOf 32)) <|
  .mv (tO 0) (some (sOf 33)) <|
  .mv (tO 5) (some (sOf 34)) <|
  .p2 (ixS 52) (tO 33) (tO 34) (some (sOf 35)) <|
  .p1 (fa 5) (tO 35) (some (sOf 36)) <|
  .r1 (ldN 40) (tO 36) (some (sOf 37)) <|
  .hn false (fun xs H => bsF 40 1 (.agg [(.int .i64 (0)), (.str ⟨#[]⟩), (.str ⟨#[]⟩), (.int .i64 (0)), (.int .i64 (0)), .nilSl, (.int .i64 (0)), (.int .i64 (0)), (.int .u8 (0)), (.int .u8 (0)), (.int .u8 (0)), (.int .u8 (0)), (.int .u8 (0)), (.int .u8 (0)), (.int .u8 (0)), (.int .u8 (0)), (.int .u8 (0)), (.int .u8 (0)), (.int .u8 (0)), (.int .u8 (0)), (.int .u8 (0)), (.int .u8 (0)), (.int .u8 (0)), (.int .u8 (0)), (.int .u8 (0)), (.int .u8 (0)), (.int .u8 (0)), (.int .u8 (0)), (.int .u8 (0)), (.int .u8 (0)), (.int .u8 (0)), (.int .u8 (0)), (.int .u8 (0)), (.int .u8 (0)), (.int .u8 (0)), (.int .u8 (0)), (.int .u8 (0)), (.int .u8 (0)), (.int .u8 (0)), (.int .u8 (0))]) 29 (zipF [0] xs) H) [(tO 37)] (some (sOf 38)) <|
  .hn false (appX 29 40 128) [(tO 32), (tO 38)] (some (sOf 39)) <|
  .mv (tO 39) (some (sOf 3)) <|
  .done
noncomputable def f7r8 : K2 :=
  .mv (tO 4) (some (sOf 40)) <|
  .mv (tO 0) (some (sOf 41)) <|
  .mv (tO 5) (some (sOf 42)) <|
  .p2 (ixS 52) (tO 41) (tO 42) (some (sOf 43)) <|
  .p1 (fa 45) (tO 43) (some (sOf 44)) <|
  .r1 (ldN 7) (tO 44) (some (sOf 45)) <|
  .hn false (fun xs H => bsF 7 1 (.agg [(.int .i64 (0)), (.int .i64 (0)), (.int .i64 (0)), (.int .i64 (0)), (.int .u8 (0)), .nilSl, .nilSl]) 32 (zipF [0] xs) H) [(tO 45)] (some (sOf 46)) <|
  .hn false (appX 32 7 88) [(tO 40), (tO 46)] (some (sOf 47)) <|
  .mv (tO 47) (some (sOf 4)) <|
  .done
noncomputable def f7r9 : K2 :=
  .mv (tO 5) (some (sOf 14)) <|
  .p2 (binF .add (evBin lookN .add 3 (.tmp 14) (.const (.int .i64 (1))))) (tO 14) (.con (.int .i64 (1))) (some (sOf 15)) <|
  .mv (tO 15) (some (sOf 5)) <|
  .done
noncomputable def f7l0 : C2 := (.seq (.seq (.reg f7r4)
  (.cond (tO 13) .skip (.exit 0)))
  (.seq (.block 1 (.seq (.seq (.reg f7r5)
  (.cond (tO 31) (.seq (.reg f7r6)
  .ret) .skip))
  (.seq (.reg f7r7)
  (.reg f7r8))))
  (.reg f7r9)))
noncomputable def f7b0 : Code := lpN f7body 0
theorem f7l0_eq : comp lookN f7b0 = f7l0 := by kernel_rfl
noncomputable def znf1 : K2 := .ln (fun xs _ => pickF xs) [(tO 55), (.con (.bool true)), (tO 57)] (some (sOf 58)) <|
  .mv (tO 58) (some (sOf 2)) <|
  .done
noncomputable def zof1 : K2 := .gd (sOf 55) false (some (sOf 57)) (.cl false 34 [(tO 56)] (some (sOf 57)) <|
  znf1) znf1
noncomputable def zpf1 : K2 := .ln (fun xs _ => pickF xs) [(tO 51), (.con (.bool true)), (tO 53)] (some (sOf 54)) <|
  .mv (tO 54) (some (sOf 55)) <|
  .gd (sOf 55) false (some (sOf 56)) (.mv (tO 4) (some (sOf 56)) <|
  zof1) zof1
noncomputable def zqf1 : K2 := .gd (sOf 51) false (some (sOf 53)) (.cl false 33 [(tO 52)] (some (sOf 53)) <|
  zpf1) zpf1
noncomputable def f7r10 : K2 :=
  .mv (tO 0) (some (sOf 48)) <|
  .ln (fun xs H => fstO (zda .len lookN [36] xs H)) [(tO 48)] (some (sOf 49)) <|
  .p2 (binF .gtr (evBin lookN .gtr 3 (.tmp 49) (.const (.int .i64 (30))))) (tO 49) (.con (.int .i64 (30))) (some (sOf 50)) <|
  .mv (tO 50) (some (sOf 51)) <|
  .gd (sOf 51) false (some (sOf 52)) (.mv (tO 3) (some (sOf 52)) <|
  zqf1) zqf1
noncomputable def f7c : C2 := (.seq (.reg f7r0)
  (.seq (.reg f7r1)
  (.seq (.reg f7r2)
  (.seq (.seq (.reg f7r3)
  (.block 0 (.loop f7b0)))
  (.seq (.reg f7r10)
  .ret)))))
theorem f7_eq : fnF lookN 7 = some ⟨59, f7c, [.tmp 2]⟩ := by kernel_rfl
noncomputable def f33body : Code := bodyN lookN 33
noncomputable def f33r0 : K2 :=
  .mv (.con (.bool false)) (some (sOf 2)) <|
  .done
noncomputable def f33r1 : K2 :=
  .mv (.con (.int .i64 (0))) (some (sOf 3)) <|
  .done
noncomputable def zrf1 : K2 := .ln (fun xs _ => pickF xs) [(tO 8), (tO 10), (.con (.bool false))] (some (sOf 11)) <|
  .done
noncomputable def zsf1 : K2 := .gd (sOf 8) true (some (sOf 10)) (.p2 (binF .lss (evBin lookN .lss 3 (.tmp 9) (.const (.int .i64 (61))))) (tO 9) (.con (.int .i64 (61))) (some (sOf 10)) <|
  zrf1) zrf1
noncomputable def f33r2 : K2 :=
  .mv (tO 3) (some (sOf 4)) <|
  .mv (tO 0) (some (sOf 5)) <|
  .ln (fun xs H => fstO (zda .len lookN [84] xs H)) [(tO 5)] (some (sOf 6)) <|
  .p2 (binF .lss (evBin lookN .lss 3 (.tmp 4) (.tmp 6))) (tO 4) (tO 6) (some (sOf 7)) <|
  .mv (tO 7) (some (sOf 8)) <|
  .gd (sOf 8) true (some (sOf 9)) (.mv (tO 3) (some (sOf 9)) <|
  zsf1) zsf1
noncomputable def zcz : K2 := .ln (fun xs _ => pickF xs) [(tO 30), (.con (.bool true)), (tO 38)] (some (sOf 39)) <|
  .done
noncomputable def zdz : K2 := .gd (sOf 30) false (some (sOf 38)) (.p2 (binF .gtr (evBin lookN .gtr 3 (.tmp 37) (.const (.int .i64 (20))))) (tO 37) (.con (.int .i64 (20))) (some (sOf 38)) <|
  zcz) zcz
noncomputable def zez : K2 := .gd (sOf 30) false (some (sOf 37)) (.ln (fun xs H => fstO (zda .len lookN [23] xs H)) [(tO 36)] (some (sOf 37)) <|
  zdz) zdz
noncomputable def zfz : K2 := .gd (sOf 30) false (some (sOf 36)) (.r1 ld1 (tO 35) (some (sOf 36)) <|
  zez) zez
noncomputable def zgz : K2 := .gd (sOf 30) false (some (sOf 35)) (.p1 (fa 0) (tO 34) (some (sOf 35)) <|
  zfz) zfz
noncomputable def zhz : K2 := .gd (sOf 30) false (some (sOf 34)) (.p1 (fa 5) (tO 33) (some (sOf 34)) <|
  zgz) zgz
noncomputable def ziz : K2 := .gd (sOf 30) false (some (sOf 33)) (.p2 (ixS 40) (tO 31) (tO 32) (some (sOf 33)) <|
  zhz) zhz
noncomputable def zjz : K2 := .gd (sOf 30) false (some (sOf 32)) (.mv (tO 3) (some (sOf 32)) <|
  ziz) ziz
noncomputable def zkz : K2 := .ln (fun xs _ => pickF xs) [(tO 21), (.con (.bool true)), (tO 28)] (some (sOf 29)) <|
  .mv (tO 29) (some (sOf 30)) <|
  .gd (sOf 30) false (some (sOf 31)) (.mv (tO 0) (some (sOf 31)) <|
  zjz) zjz
noncomputable def zlz : K2 := .gd (sOf 21) false (some (sOf 28)) (.p2 (binF .gtr (evBin lookN .gtr 3 (.tmp 27) (.const (.int .i64 (100))))) (tO 27) (.con (.int .i64 (100))) (some (sOf 28)) <|
  zkz) zkz
noncomputable def zmz : K2 := .gd (sOf 21) false (some (sOf 27)) (.ln (fun xs H => fstO (zda .len lookN [9] xs H)) [(tO 26)] (some (sOf 27)) <|
  zlz) zlz
noncomputable def znz : K2 := .gd (sOf 21) false (some (sOf 26)) (.r1 ld1 (tO 25) (some (sOf 26)) <|
  zmz) zmz
noncomputable def zoz : K2 := .gd (sOf 21) false (some (sOf 25)) (.p1 (fa 2) (tO 24) (some (sOf 25)) <|
  znz) znz
noncomputable def ztf1 : K2 := .gd (sOf 21) false (some (sOf 24)) (.p2 (ixS 40) (tO 22) (tO 23) (some (sOf 24)) <|
  zoz) zoz
noncomputable def zuf1 : K2 := .gd (sOf 21) false (some (sOf 23)) (.mv (tO 3) (some (sOf 23)) <|
  ztf1) ztf1
noncomputable def f33r3 : K2 :=
  .mv (tO 0) (some (sOf 14)) <|
  .mv (tO 3) (some (sOf 15)) <|
  .p2 (ixS 40) (tO 14) (tO 15) (some (sOf 16)) <|
  .p1 (fa 1) (tO 16) (some (sOf 17)) <|
  .r1 ld1 (tO 17) (some (sOf 18)) <|
  .ln (fun xs H => fstO (zda .len lookN [9] xs H)) [(tO 18)] (some (sOf 19)) <|
  .p2 (binF .gtr (evBin lookN .gtr 3 (.tmp 19) (.const (.int .i64 (100))))) (tO 19) (.con (.int .i64 (100))) (some (sOf 20)) <|
  .mv (tO 20) (some (sOf 21)) <|
  .gd (sOf 21) false (some (sOf 22)) (.mv (tO 0) (some (sOf 22)) <|
  zuf1) zuf1
noncomputable def f33r4 : K2 :=
  .mv (.con (.bool true)) (some (sOf 2)) <|
  .done
noncomputable def f33r5 : K2 :=
  .mv (tO 3) (some (sOf 12)) <|
  .p2 (binF .add (evBin lookN .add 3 (.tmp 12) (.const (.int .i64 (1))))) (tO 12) (.con (.int .i64 (1))) (some (sOf 13)) <|
  .mv (tO 13) (some (sOf 3)) <|
  .done
noncomputable def f33l0 : C2 := (.seq (.seq (.reg f33r2)
  (.cond (tO 11) .skip (.exit 0)))
  (.seq (.block 1 (.seq (.reg f33r3)
  (.cond (tO 39) (.seq (.reg f33r4)
  .ret) .skip)))
  (.reg f33r5)))
noncomputable def f33b0 : Code := lpN f33body 0
theorem zaj1 : comp lookN f33b0 = f33l0 := by kernel_rfl
noncomputable def f33r6 : K2 :=
  .mv (tO 0) (some (sOf 40)) <|
  .ln (fun xs H => fstO (zda .len lookN [84] xs H)) [(tO 40)] (some (sOf 41)) <|
  .p2 (binF .gtr (evBin lookN .gtr 3 (.tmp 41) (.const (.int .i64 (60))))) (tO 41) (.con (.int .i64 (60))) (some (sOf 42)) <|
  .mv (tO 42) (some (sOf 2)) <|
  .done
noncomputable def f33c : C2 := (.seq (.reg f33r0)
  (.seq (.seq (.reg f33r1)
  (.block 0 (.loop f33b0)))
  (.seq (.reg f33r6)
  .ret)))
theorem f33_eq : fnF lookN 33 = some ⟨43, f33c, [.tmp 2]⟩ := by kernel_rfl
noncomputable def f34body : Code := bodyN lookN 34
noncomputable def f34r0 : K2 :=
  .mv (.con (.bool false)) (some (sOf 2)) <|
  .done
noncomputable def f34r1 : K2 :=
  .mv (.con (.int .i64 (0))) (some (sOf 3)) <|
  .done
noncomputable def zvf1 : K2 := .ln (fun xs _ => pickF xs) [(tO 8), (tO 10), (.con (.bool false))] (some (sOf 11)) <|
  .done
noncomputable def zwf1 : K2 := .gd (sOf 8) true (some (sOf 10)) (.p2 (binF .lss (evBin lookN .lss 3 (.tmp 9) (.const (.int .i64 (101))))) (tO 9) (.con (.int .i64 (101))) (some (sOf 10)) <|
  zvf1) zvf1
noncomputable def f34r2 : K2 :=
  .mv (tO 3) (some (sOf 4)) <|
  .mv (tO 0) (some (sOf 5)) <|
  .ln (fun xs H => fstO (zda .len lookN [85] xs H)) [(tO 5)] (some (sOf 6)) <|
  .p2 (binF .lss (evBin lookN .lss 3 (.tmp 4) (.tmp 6))) (tO 4) (tO 6) (some (sOf 7)) <|
  .mv (tO 7) (some (sOf 8)) <|
  .gd (sOf 8) true (some (sOf 9)) (.mv (tO 3) (some (sOf 9)) <|
  zwf1) zwf1
noncomputable def zpz : K2 := .ln (fun xs _ => pickF xs) [(tO 21), (.con (.bool true)), (tO 28)] (some (sOf 29)) <|
  .done
noncomputable def zqz : K2 := .gd (sOf 21) false (some (sOf 28)) (.p2 (binF .gtr (evBin lookN .gtr 3 (.tmp 27) (.const (.int .i64 (200))))) (tO 27) (.con (.int .i64 (200))) (some (sOf 28)) <|
  zpz) zpz
noncomputable def zrz : K2 := .gd (sOf 21) false (some (sOf 27)) (.ln (fun xs H => fstO (zda .len lookN [30] xs H)) [(tO 26)] (some (sOf 27)) <|
  zqz) zqz
noncomputable def zsz : K2 := .gd (sOf 21) false (some (sOf 26)) (.r1 ld1 (tO 25) (some (sOf 26)) <|
  zrz) zrz
noncomputable def ztz : K2 := .gd (sOf 21) false (some (sOf 25)) (.p1 (fa 6) (tO 24) (some (sOf 25)) <|
  zsz) zsz
noncomputable def zxf1 : K2 := .gd (sOf 21) false (some (sOf 24)) (.p2 (ixS 7) (tO 22) (tO 23) (some (sOf 24)) <|
  ztz) ztz
noncomputable def zyf1 : K2 := .gd (sOf 21) false (some (sOf 23)) (.mv (tO 3) (some (sOf 23)) <|
  zxf1) zxf1
noncomputable def f34r3 : K2 :=
  .mv (tO 0) (some (sOf 14)) <|
  .mv (tO 3) (some (sOf 15)) <|
  .p2 (ixS 7) (tO 14) (tO 15) (some (sOf 16)) <|
  .p1 (fa 5) (tO 16) (some (sOf 17)) <|
  .r1 ld1 (tO 17) (some (sOf 18)) <|
  .ln (fun xs H => fstO (zda .len lookN [22] xs H)) [(tO 18)] (some (sOf 19)) <|
  .p2 (binF .gtr (evBin lookN .gtr 3 (.tmp 19) (.const (.int .i64 (300))))) (tO 19) (.con (.int .i64 (300))) (some (sOf 20)) <|
  .mv (tO 20) (some (sOf 21)) <|
  .gd (sOf 21) false (some (sOf 22)) (.mv (tO 0) (some (sOf 22)) <|
  zyf1) zyf1
noncomputable def f34r4 : K2 :=
  .mv (.con (.bool true)) (some (sOf 2)) <|
  .done
noncomputable def f34r5 : K2 :=
  .mv (tO 3) (some (sOf 12)) <|
  .p2 (binF .add (evBin lookN .add 3 (.tmp 12) (.const (.int .i64 (1))))) (tO 12) (.con (.int .i64 (1))) (some (sOf 13)) <|
  .mv (tO 13) (some (sOf 3)) <|
  .done
noncomputable def f34l0 : C2 := (.seq (.seq (.reg f34r2)
  (.cond (tO 11) .skip (.exit 0)))
  (.seq (.block 1 (.seq (.reg f34r3)
  (.cond (tO 29) (.seq (.reg f34r4)
  .ret) .skip)))
  (.reg f34r5)))
noncomputable def f34b0 : Code := lpN f34body 0
theorem zbj1 : comp lookN f34b0 = f34l0 := by kernel_rfl
noncomputable def f34r6 : K2 :=
  .mv (tO 0) (some (sOf 30)) <|
  .ln (fun xs H => fstO (zda .len lookN [85] xs H)) [(tO 30)] (some (sOf 31)) <|
  .p2 (binF .gtr (evBin lookN .gtr 3 (.tmp 31) (.const (.int .i64 (100))))) (tO 31) (.con (.int .i64 (100))) (some (sOf 32)) <|
  .mv (tO 32) (some (sOf 2)) <|
  .done
noncomputable def f34c : C2 := (.seq (.reg f34r0)
  (.seq (.seq (.reg f34r1)
  (.block 0 (.loop f34b0)))
  (.seq (.reg f34r6)
  .ret)))
theorem f34_eq : fnF lookN 34 = some ⟨33, f34c, [.tmp 2]⟩ := by kernel_rfl
noncomputable def f3body : Code := bodyN lookN 3
noncomputable def f3r0 : K2 :=
  .m1 false (fun v H => alF v.toC 34 52 H) (tO 0) (some (sOf 1)) <|
  .mv (.con (.bool false)) (some (sOf 2)) <|
  .done
noncomputable def f3r1 : K2 :=
  .r1 (ldN 52) (tO 1) (some (sOf 11)) <|
  .hn false (fun xs H => bsF 52 1 (.agg [(.int .i64 (0)), (.int .i64 (0)), (.int .i64 (0)), (.str ⟨#[]⟩), .nilSl, (.int .i64 (0)), (.str ⟨#[]⟩), (.str ⟨#[]⟩), (.int .i64 (0)), (.int .i64 (0)), .nilSl, (.int .i64 (0)), (.int .i64 (0)), (.int .u8 (0)), (.int .u8 (0)), (.int .u8 (0)), (.int .u8 (0)), (.int .u8 (0)), (.int .u8 (0)), (.int .u8 (0)), (.int .u8 (0)), (.int .u8 (0)), (.int .u8 (0)), (.int .u8 (0)), (.int .u8 (0)), (.int .u8 (0)), (.int .u8 (0)), (.int .u8 (0)), (.int .u8 (0)), (.int .u8 (0)), (.int .u8 (0)), (.int .u8 (0)), (.int .u8 (0)), (.int .u8 (0)), (.int .u8 (0)), (.int .u8 (0)), (.int .u8 (0)), (.int .u8 (0)), (.int .u8 (0)), (.int .u8 (0)), (.int .u8 (0)), (.int .u8 (0)), (.int .u8 (0)), (.int .u8 (0)), (.int .u8 (0)), (.int .i64 (0)), (.int .i64 (0)), (.int .i64 (0)), (.int .i64 (0)), (.int .u8 (0)), .nilSl, .nilSl]) 34 (zipF [0] xs) H) [(tO 11)] (some (sOf 12)) <|
  .cl false 7 [(tO 12)] (some (sOf 13)) <|
  .done
noncomputable def f3r2 : K2 :=
  .cl false 8 [] (some (sOf 14)) <|
  .mv (tO 14) (some (sOf 2)) <|
  .done
noncomputable def f3r3 : K2 :=
  .ln (fun xs _ => zof lookN 47 (zipF [] xs)) [] (some (sOf 15)) <|
  .m1 false (fun v H => alF v.toC 47 8 H) (tO 15) (some (sOf 16)) <|
  .hn false (fun xs H => bsF 1 2 .nilPtr 38 (zipF [0, 1] xs) H) [(.con .nilPtr), (tO 16)] (some (sOf 17)) <|
  .mv (tO 17) (some (sOf 3)) <|
  .done
noncomputable def f3r4 : K2 :=
  .mv (.con (.int .i64 (0))) (some (sOf 4)) <|
  .done
noncomputable def f3b0 : Code := lpN f3body 0
noncomputable def f3r14 : K2 :=
  .cl false 8 [] (some (sOf 103)) <|
  .mv (tO 103) (some (sOf 2)) <|
  .done
noncomputable def f3c : C2 := (.seq (.reg f3r0)
  (.seq (.seq (.reg f3r1)
  (.cond (tO 13) (.seq (.reg f3r2)
  .ret) .skip))
  (.seq (.reg f3r3)
  (.seq (.seq (.reg f3r4)
  (.block 0 (.loop f3b0)))
  (.seq (.reg f3r14)
  .ret)))))
theorem f3_eq : fnF lookN 3 = some ⟨104, f3c, [.tmp 2]⟩ := by kernel_rfl
end HS
open Go Go.Ev Go.Proofs Go.RowKit
namespace HS
set_option maxRecDepth 100000
open Go.Ev
open Ra Rb Rc Rd Re Rf Rg Rh Ri Rj Rk Rl Rm Rn Ro Rp Rq Rr
theorem zid1 {f : Nat} (h : xLook tabN f = none) : lookN.ext f = none := h
theorem zzf1 {L : Lk} {t : Nat} (ht : L.under t = some .string) (s : ByteArray) (H : AH) : fstO (zda .len L [t] [.str s] H) = some (.int .i64 s.size) := by
  show fstO (match evLen L t (.str s) H with | some v => some (v, H) | none => none) = _
  unfold evLen
  rw [ht]
  rfl
theorem uN22 : lookN.under 23 = some (.slice 116) := by kernel_rfl
theorem uN9 : lookN.under 9 = some .string := by kernel_rfl
theorem uN35 : lookN.under 22 = some (.slice 5) := by kernel_rfl
theorem uN36 : lookN.under 30 = some (.slice 4) := by kernel_rfl
theorem uN82 : lookN.under 84 = some (.slice 29) := by kernel_rfl
theorem uN83 : lookN.under 85 = some (.slice 32) := by kernel_rfl
theorem uN42 : lookN.under 36 = some (.slice 34) := by kernel_rfl
set_option maxHeartbeats 4000000 in
theorem zjd1 (H : AH) (k c : Nat) (op : Bool) (s1 s2 : ByteArray) (vA : AV) (nA : Nat) (h0 : IsSl H (.sl k 0 1 c op) 1) (r1 : ld1 (.ptr k 1) H = some (.str s1)) (r2 : ld1 (.ptr k 2) H = some (.str s2)) (r5 : ld1 (.ptr k 5) H = some vA) (hA : IsSl H vA nA) :
    FnE lookN 33 [.sl k 0 1 c op] H fun r H' => (∃ b, r = .bool b) ∧ H' = H := by
  refine zfc f33_eq (zid1 rfl) rfl ?_
  unfold f33c
  have hlen := fun H' => zno (H' := H') uN82 h0
  have hlenA := fun H' => zno (H' := H') uN22 hA
  have hstr := fun s H' => zzf1 uN9 s H'
  have hix : ixS 40 (.sl k 0 1 c op) (.int .i64 0) = some (.ptr k 0) := rfl
  (repeat' (first | refine Z ?_ | refine Zq ?_ | refine zaa (by decide) ?_ | ((first | refine' Y ?_ ?_ | refine' X ?_ ?_ ?_); rotate_left; (· (first | (simp (disch := omega) only [evl, Nat.reduceEqDiff, Nat.reduceAdd, reduceIte, reduceCtorEq] <;> exact rfl) | exact rfl)); all_goals try (refine fun (hb : _ = _) => ?_; try simp only [Zu, ne_eq, reduceCtorEq] at hb)) | (apply zca; · simp [evl])))
  refine zri (R := fun ex T' H' => (ex = .exit 0 ∧ gT T' 0 = .sl k 0 1 c op ∧ H' = H) ∨ (ex = .ret ∧ gT T' 2 = .bool true ∧ H' = H)) ?_ ?_
  · refine zmo zaj1 (fun j T H' => gT T 0 = .sl k 0 1 c op ∧ H' = H ∧ ((j = 1 ∧ gT T 3 = .int .i64 0) ∨ (j = 0 ∧ gT T 3 = .int .i64 1))) _ ?_ 1 _ _ ?_
    · rintro j T H2 ⟨e0, rfl, ⟨rfl, e3⟩ | ⟨rfl, e3⟩⟩
      · unfold f33l0
        by_cases b1 : 100 < s1.size
        · (repeat' (first | refine Z ?_ | refine Zq ?_ | refine zaa (by decide) ?_ | ((first | refine' Y ?_ ?_ | refine' X ?_ ?_ ?_); rotate_left; (· (first | (simp (disch := omega) only [evl, Nat.reduceEqDiff, Nat.reduceAdd, reduceIte, reduceCtorEq, e0, e3, hlen, hix, r1, r2, r5, hstr, hlenA] <;> exact rfl) | exact rfl)); all_goals try (refine fun (hb : _ = _) => ?_; try simp only [Zu, ne_eq, reduceCtorEq] at hb)) | (apply zca; · simp [evl])))
          refine zqa ?_
          refine lpq_r (.inr ⟨rfl, ?_, rfl⟩)
          (simp (disch := omega) only [evl, Nat.reduceEqDiff, Nat.reduceAdd, reduceIte, reduceCtorEq])
        · by_cases b2 : 100 < s2.size
          · (repeat' (first | refine Z ?_ | refine Zq ?_ | refine zaa (by decide) ?_ | ((first | refine' Y ?_ ?_ | refine' X ?_ ?_ ?_); rotate_left; (· (first | (simp (disch := omega) only [evl, Nat.reduceEqDiff, Nat.reduceAdd, reduceIte, reduceCtorEq, e0, e3, hlen, hix, r1, r2, r5, hstr, hlenA] <;> exact rfl) | exact rfl)); all_goals try (refine fun (hb : _ = _) => ?_; try simp only [Zu, ne_eq, reduceCtorEq] at hb)) | (apply zca; · simp [evl])))
            refine zqa ?_
            refine lpq_r (.inr ⟨rfl, ?_, rfl⟩)
            (simp (disch := omega) only [evl, Nat.reduceEqDiff, Nat.reduceAdd, reduceIte, reduceCtorEq])
          · by_cases b3 : 20 < nA
            · (repeat' (first | refine Z ?_ | refine Zq ?_ | refine zaa (by decide) ?_ | ((first | refine' Y ?_ ?_ | refine' X ?_ ?_ ?_); rotate_left; (· (first | (simp (disch := omega) only [evl, Nat.reduceEqDiff, Nat.reduceAdd, reduceIte, reduceCtorEq, e0, e3, hlen, hix, r1, r2, r5, hstr, hlenA] <;> exact rfl) | exact rfl)); all_goals try (refine fun (hb : _ = _) => ?_; try simp only [Zu, ne_eq, reduceCtorEq] at hb)) | (apply zca; · simp [evl])))
              refine zqa ?_
              refine lpq_r (.inr ⟨rfl, ?_, rfl⟩)
              (simp (disch := omega) only [evl, Nat.reduceEqDiff, Nat.reduceAdd, reduceIte, reduceCtorEq])
            · (repeat' (first | refine Z ?_ | refine Zq ?_ | refine zaa (by decide) ?_ | ((first | refine' Y ?_ ?_ | refine' X ?_ ?_ ?_); rotate_left; (· (first | (simp (disch := omega) only [evl, Nat.reduceEqDiff, Nat.reduceAdd, reduceIte, reduceCtorEq, e0, e3, hlen, hix, r1, r2, r5, hstr, hlenA] <;> exact rfl) | exact rfl)); all_goals try (refine fun (hb : _ = _) => ?_; try simp only [Zu, ne_eq, reduceCtorEq] at hb)) | (apply zca; · simp [evl])))
              refine zqa ?_
              refine lpq_n 0 (by omega) ⟨?_, rfl, .inr ⟨rfl, ?_⟩⟩
              · (simp (disch := omega) only [evl, Nat.reduceEqDiff, Nat.reduceAdd, reduceIte, reduceCtorEq, e0])
              · (simp (disch := omega) only [evl, Nat.reduceEqDiff, Nat.reduceAdd, reduceIte, reduceCtorEq, e3]); rfl
      · unfold f33l0
        (repeat' (first | refine Z ?_ | refine Zq ?_ | refine zaa (by decide) ?_ | ((first | refine' Y ?_ ?_ | refine' X ?_ ?_ ?_); rotate_left; (· (first | (simp (disch := omega) only [evl, Nat.reduceEqDiff, Nat.reduceAdd, reduceIte, reduceCtorEq, e0, e3, hlen] <;> exact rfl) | exact rfl)); all_goals try (refine fun (hb : _ = _) => ?_; try simp only [Zu, ne_eq, reduceCtorEq] at hb)) | (apply zca; · simp [evl])))
        refine zqa ?_
        refine lpq_e (.inl ⟨rfl, ?_, rfl⟩)
        (simp (disch := omega) only [evl, Nat.reduceEqDiff, Nat.reduceAdd, reduceIte, reduceCtorEq, e0])
    · refine ⟨?_, rfl, .inl ⟨rfl, ?_⟩⟩
      · (simp (disch := omega) only [evl, Nat.reduceEqDiff, Nat.reduceAdd, reduceIte, reduceCtorEq])
      · (simp (disch := omega) only [evl, Nat.reduceEqDiff, Nat.reduceAdd, reduceIte, reduceCtorEq])
  · rintro ex T' H' (⟨rfl, e0, rfl⟩ | ⟨rfl, e2, rfl⟩)
    · (repeat' (first | refine Z ?_ | refine Zq ?_ | refine zaa (by decide) ?_ | ((first | refine' Y ?_ ?_ | refine' X ?_ ?_ ?_); rotate_left; (· (first | (simp (disch := omega) only [evl, Nat.reduceEqDiff, Nat.reduceAdd, reduceIte, reduceCtorEq, e0, hlen] <;> exact rfl) | exact rfl)); all_goals try (refine fun (hb : _ = _) => ?_; try simp only [Zu, ne_eq, reduceCtorEq] at hb)) | (apply zca; · simp [evl])))
      all_goals
        refine zqa ?_
        refine zsc (zwc _ _) ⟨?_, rfl⟩
        (simp (disch := omega) only [evl, Nat.reduceEqDiff, Nat.reduceAdd, reduceIte, reduceCtorEq])
        exact ⟨_, rfl⟩
    · (repeat' (first | refine Z ?_ | refine Zq ?_ | refine zaa (by decide) ?_ | ((first | refine' Y ?_ ?_ | refine' X ?_ ?_ ?_); rotate_left; (· (first | (simp (disch := omega) only [evl, Nat.reduceEqDiff, Nat.reduceAdd, reduceIte, reduceCtorEq, e2] <;> exact rfl) | exact rfl)); all_goals try (refine fun (hb : _ = _) => ?_; try simp only [Zu, ne_eq, reduceCtorEq] at hb)) | (apply zca; · simp [evl])))
      refine zqa ?_
      refine zsc (zwc _ _) ⟨⟨true, ?_⟩, rfl⟩
      (simp (disch := omega) only [evl, Nat.reduceEqDiff, Nat.reduceAdd, reduceIte, reduceCtorEq, e2])
set_option maxHeartbeats 4000000 in
theorem zkd1 (H : AH) (k c : Nat) (op : Bool) (vA vB : AV) (nA nB : Nat) (h0 : IsSl H (.sl k 0 1 c op) 1) (r1 : ld1 (.ptr k 5) H = some vA) (r2 : ld1 (.ptr k 6) H = some vB) (hA : IsSl H vA nA) (hB : IsSl H vB nB) :
    FnE lookN 34 [.sl k 0 1 c op] H fun r H' => (∃ b, r = .bool b) ∧ H' = H := by
  refine zfc f34_eq (zid1 rfl) rfl ?_
  unfold f34c
  have hlen := fun H' => zno (H' := H') uN83 h0
  have hlenA := fun H' => zno (H' := H') uN35 hA
  have hlenB := fun H' => zno (H' := H') uN36 hB
  have hix : ixS 7 (.sl k 0 1 c op) (.int .i64 0) = some (.ptr k 0) := rfl
  (repeat' (first | refine Z ?_ | refine Zq ?_ | refine zaa (by decide) ?_ | ((first | refine' Y ?_ ?_ | refine' X ?_ ?_ ?_); rotate_left; (· (first | (simp (disch := omega) only [evl, Nat.reduceEqDiff, Nat.reduceAdd, reduceIte, reduceCtorEq] <;> exact rfl) | exact rfl)); all_goals try (refine fun (hb : _ = _) => ?_; try simp only [Zu, ne_eq, reduceCtorEq] at hb)) | (apply zca; · simp [evl])))
  refine zri (R := fun ex T' H' => (ex = .exit 0 ∧ gT T' 0 = .sl k 0 1 c op ∧ H' = H) ∨ (ex = .ret ∧ gT T' 2 = .bool true ∧ H' = H)) ?_ ?_
  · refine zmo zbj1 (fun j T H' => gT T 0 = .sl k 0 1 c op ∧ H' = H ∧ ((j = 1 ∧ gT T 3 = .int .i64 0) ∨ (j = 0 ∧ gT T 3 = .int .i64 1))) _ ?_ 1 _ _ ?_
    · rintro j T H2 ⟨e0, rfl, ⟨rfl, e3⟩ | ⟨rfl, e3⟩⟩
      · unfold f34l0
        by_cases b1 : 300 < nA
        · (repeat' (first | refine Z ?_ | refine Zq ?_ | refine zaa (by decide) ?_ | ((first | refine' Y ?_ ?_ | refine' X ?_ ?_ ?_); rotate_left; (· (first | (simp (disch := omega) only [evl, Nat.reduceEqDiff, Nat.reduceAdd, reduceIte, reduceCtorEq, e0, e3, hlen, hix, r1, r2, hlenA, hlenB] <;> exact rfl) | exact rfl)); all_goals try (refine fun (hb : _ = _) => ?_; try simp only [Zu, ne_eq, reduceCtorEq] at hb)) | (apply zca; · simp [evl])))
          refine zqa ?_
          refine lpq_r (.inr ⟨rfl, ?_, rfl⟩)
          (simp (disch := omega) only [evl, Nat.reduceEqDiff, Nat.reduceAdd, reduceIte, reduceCtorEq])
        · by_cases b2 : 200 < nB
          · (repeat' (first | refine Z ?_ | refine Zq ?_ | refine zaa (by decide) ?_ | ((first | refine' Y ?_ ?_ | refine' X ?_ ?_ ?_); rotate_left; (· (first | (simp (disch := omega) only [evl, Nat.reduceEqDiff, Nat.reduceAdd, reduceIte, reduceCtorEq, e0, e3, hlen, hix, r1, r2, hlenA, hlenB] <;> exact rfl) | exact rfl)); all_goals try (refine fun (hb : _ = _) => ?_; try simp only [Zu, ne_eq, reduceCtorEq] at hb)) | (apply zca; · simp [evl])))
            refine zqa ?_
            refine lpq_r (.inr ⟨rfl, ?_, rfl⟩)
            (simp (disch := omega) only [evl, Nat.reduceEqDiff, Nat.reduceAdd, reduceIte, reduceCtorEq])
          · (repeat' (first | refine Z ?_ | refine Zq ?_ | refine zaa (by decide) ?_ | ((first | refine' Y ?_ ?_ | refine' X ?_ ?_ ?_); rotate_left; (· (first | (simp (disch := omega) only [evl, Nat.reduceEqDiff, Nat.reduceAdd, reduceIte, reduceCtorEq, e0, e3, hlen, hix, r1, r2, hlenA, hlenB] <;> exact rfl) | exact rfl)); all_goals try (refine fun (hb : _ = _) => ?_; try simp only [Zu, ne_eq, reduceCtorEq] at hb)) | (apply zca; · simp [evl])))
            refine zqa ?_
            refine lpq_n 0 (by omega) ⟨?_, rfl, .inr ⟨rfl, ?_⟩⟩
            · (simp (disch := omega) only [evl, Nat.reduceEqDiff, Nat.reduceAdd, reduceIte, reduceCtorEq, e0])
            · (simp (disch := omega) only [evl, Nat.reduceEqDiff, Nat.reduceAdd, reduceIte, reduceCtorEq, e3]); rfl
      · unfold f34l0
        (repeat' (first | refine Z ?_ | refine Zq ?_ | refine zaa (by decide) ?_ | ((first | refine' Y ?_ ?_ | refine' X ?_ ?_ ?_); rotate_left; (· (first | (simp (disch := omega) only [evl, Nat.reduceEqDiff, Nat.reduceAdd, reduceIte, reduceCtorEq, e0, e3, hlen] <;> exact rfl) | exact rfl)); all_goals try (refine fun (hb : _ = _) => ?_; try simp only [Zu, ne_eq, reduceCtorEq] at hb)) | (apply zca; · simp [evl])))
        refine zqa ?_
        refine lpq_e (.inl ⟨rfl, ?_, rfl⟩)
        (simp (disch := omega) only [evl, Nat.reduceEqDiff, Nat.reduceAdd, reduceIte, reduceCtorEq, e0])
    · refine ⟨?_, rfl, .inl ⟨rfl, ?_⟩⟩
      · (simp (disch := omega) only [evl, Nat.reduceEqDiff, Nat.reduceAdd, reduceIte, reduceCtorEq])
      · (simp (disch := omega) only [evl, Nat.reduceEqDiff, Nat.reduceAdd, reduceIte, reduceCtorEq])
  · rintro ex T' H' (⟨rfl, e0, rfl⟩ | ⟨rfl, e2, rfl⟩)
    · (repeat' (first | refine Z ?_ | refine Zq ?_ | refine zaa (by decide) ?_ | ((first | refine' Y ?_ ?_ | refine' X ?_ ?_ ?_); rotate_left; (· (first | (simp (disch := omega) only [evl, Nat.reduceEqDiff, Nat.reduceAdd, reduceIte, reduceCtorEq, e0, hlen] <;> exact rfl) | exact rfl)); all_goals try (refine fun (hb : _ = _) => ?_; try simp only [Zu, ne_eq, reduceCtorEq] at hb)) | (apply zca; · simp [evl])))
      all_goals
        refine zqa ?_
        refine zsc (zwc _ _) ⟨?_, rfl⟩
        (simp (disch := omega) only [evl, Nat.reduceEqDiff, Nat.reduceAdd, reduceIte, reduceCtorEq])
        exact ⟨_, rfl⟩
    · (repeat' (first | refine Z ?_ | refine Zq ?_ | refine zaa (by decide) ?_ | ((first | refine' Y ?_ ?_ | refine' X ?_ ?_ ?_); rotate_left; (· (first | (simp (disch := omega) only [evl, Nat.reduceEqDiff, Nat.reduceAdd, reduceIte, reduceCtorEq, e2] <;> exact rfl) | exact rfl)); all_goals try (refine fun (hb : _ = _) => ?_; try simp only [Zu, ne_eq, reduceCtorEq] at hb)) | (apply zca; · simp [evl])))
      refine zqa ?_
      refine zsc (zwc _ _) ⟨⟨true, ?_⟩, rfl⟩
      (simp (disch := omega) only [evl, Nat.reduceEqDiff, Nat.reduceAdd, reduceIte, reduceCtorEq, e2])
end HS
open Go Go.Ev Go.Proofs Go.RowKit
namespace HS
set_option maxRecDepth 100000
open Go.Ev
open Ra Rb Rc Rd Re Rf Rg Rh Ri Rj Rk Rl Rm Rn Ro Rp Rq Rr
structure ActA where
  kd : Int
  at_ : Int
  n : Int
  nm : ByteArray
  vN : AV
  dk : Int
  dn : ByteArray
  dt : ByteArray
  d3 : Int
  d4 : Int
  vA : AV
  p1 : Int
  p2 : Int
  ds : Nat → Int
  x0 : Int
  x1 : Int
  x2 : Int
  x3 : Int
  xm : Int
  vB : AV
  vK : AV
noncomputable abbrev actL (x : ActA) : List AV := [.int .i64 x.kd, .int .i64 x.at_, .int .i64 x.n, .str x.nm, x.vN, .int .i64 x.dk, .str x.dn, .str x.dt, .int .i64 x.d3, .int .i64 x.d4, x.vA, .int .i64 x.p1, .int .i64 x.p2, .int .u8 (x.ds 0), .int .u8 (x.ds 1), .int .u8 (x.ds 2), .int .u8 (x.ds 3), .int .u8 (x.ds 4), .int .u8 (x.ds 5), .int .u8 (x.ds 6), .int .u8 (x.ds 7), .int .u8 (x.ds 8), .int .u8 (x.ds 9), .int .u8 (x.ds 10), .int .u8 (x.ds 11), .int .u8 (x.ds 12), .int .u8 (x.ds 13), .int .u8 (x.ds 14), .int .u8 (x.ds 15), .int .u8 (x.ds 16), .int .u8 (x.ds 17), .int .u8 (x.ds 18), .int .u8 (x.ds 19), .int .u8 (x.ds 20), .int .u8 (x.ds 21), .int .u8 (x.ds 22), .int .u8 (x.ds 23), .int .u8 (x.ds 24), .int .u8 (x.ds 25), .int .u8 (x.ds 26), .int .u8 (x.ds 27), .int .u8 (x.ds 28), .int .u8 (x.ds 29), .int .u8 (x.ds 30), .int .u8 (x.ds 31), .int .i64 x.x0, .int .i64 x.x1, .int .i64 x.x2, .int .i64 x.x3, .int .u8 x.xm, x.vB, x.vK]
noncomputable abbrev actD (x : ActA) : List AV := [.int .i64 x.dk, .str x.dn, .str x.dt, .int .i64 x.d3, .int .i64 x.d4, x.vA, .int .i64 x.p1, .int .i64 x.p2, .int .u8 (x.ds 0), .int .u8 (x.ds 1), .int .u8 (x.ds 2), .int .u8 (x.ds 3), .int .u8 (x.ds 4), .int .u8 (x.ds 5), .int .u8 (x.ds 6), .int .u8 (x.ds 7), .int .u8 (x.ds 8), .int .u8 (x.ds 9), .int .u8 (x.ds 10), .int .u8 (x.ds 11), .int .u8 (x.ds 12), .int .u8 (x.ds 13), .int .u8 (x.ds 14), .int .u8 (x.ds 15), .int .u8 (x.ds 16), .int .u8 (x.ds 17), .int .u8 (x.ds 18), .int .u8 (x.ds 19), .int .u8 (x.ds 20), .int .u8 (x.ds 21), .int .u8 (x.ds 22), .int .u8 (x.ds 23), .int .u8 (x.ds 24), .int .u8 (x.ds 25), .int .u8 (x.ds 26), .int .u8 (x.ds 27), .int .u8 (x.ds 28), .int .u8 (x.ds 29), .int .u8 (x.ds 30), .int .u8 (x.ds 31)]
noncomputable abbrev actX (x : ActA) : List AV := [.int .i64 x.x0, .int .i64 x.x1, .int .i64 x.x2, .int .i64 x.x3, .int .u8 x.xm, x.vB, x.vK]
noncomputable abbrev h4 (B : Nat → ABlk) : AH := hA [B 0, B 1, B 2, B 3]
noncomputable abbrev g1 (x : ActA) (B : Nat → ABlk) : AH := (h4 B).new (.cells (.lst (actL x)) 34 52 false false)
noncomputable abbrev g2 (x : ActA) (B : Nat → ABlk) : AH := (g1 x B).new (.cells (.lst (actL x)) 34 52 false false)
noncomputable abbrev g4 (x : ActA) (B : Nat → ABlk) : AH := (g2 x B).new (.cells (.lst (actD x)) 29 40 false false)
noncomputable abbrev g5 (x : ActA) (B : Nat → ABlk) : AH := (g4 x B).new (.cells (.lst (actD x)) 29 40 true false)
noncomputable abbrev g6 (x : ActA) (B : Nat → ABlk) : AH := (g5 x B).new (.cells (.lst (actX x)) 32 7 false false)
noncomputable abbrev g7 (x : ActA) (B : Nat → ABlk) : AH := (g6 x B).new (.cells (.lst (actX x)) 32 7 true false)
section
variable (x : ActA) (B : Nat → ABlk)
theorem k3 : ld1 (.ptr 5 3) (g2 x B) = some (.str x.nm) := by kernel_rfl
theorem kN : ld1 (.ptr 5 4) (g2 x B) = some x.vN := by kernel_rfl
theorem k4 : ldN 40 (.ptr 5 5) (g2 x B) = some (.agg (actD x)) := by kernel_rfl
theorem kb4 : bsF 40 1 (.agg [(.int .i64 (0)), (.str ⟨#[]⟩), (.str ⟨#[]⟩), (.int .i64 (0)), (.int .i64 (0)), .nilSl, (.int .i64 (0)), (.int .i64 (0)), (.int .u8 (0)), (.int .u8 (0)), (.int .u8 (0)), (.int .u8 (0)), (.int .u8 (0)), (.int .u8 (0)), (.int .u8 (0)), (.int .u8 (0)), (.int .u8 (0)), (.int .u8 (0)), (.int .u8 (0)), (.int .u8 (0)), (.int .u8 (0)), (.int .u8 (0)), (.int .u8 (0)), (.int .u8 (0)), (.int .u8 (0)), (.int .u8 (0)), (.int .u8 (0)), (.int .u8 (0)), (.int .u8 (0)), (.int .u8 (0)), (.int .u8 (0)), (.int .u8 (0)), (.int .u8 (0)), (.int .u8 (0)), (.int .u8 (0)), (.int .u8 (0)), (.int .u8 (0)), (.int .u8 (0)), (.int .u8 (0)), (.int .u8 (0))]) 29 (zipF [0] [.agg (actD x)]) (g2 x B) = some (.sl 6 0 1 1 false, g4 x B) := by kernel_rfl
theorem ka5 (hv : x.vA.oneCell = true) : appX 29 40 128 [.nilSl, .sl 6 0 1 1 false] (g4 x B) = some (.sl 7 0 1 1 true, g5 x B) := by
  obtain ⟨kd, at_, n, nm, vN, dk, dn, dt, d3, d4, vA, p1, p2, ds, x0, x1, x2, x3, xm, vB, vK⟩ := x
  cases vA <;> first | (cases hv; done) | kernel_rfl
theorem k51 : ldN 7 (.ptr 5 45) (g5 x B) = some (.agg (actX x)) := by kernel_rfl
theorem kb6 : bsF 7 1 (.agg [(.int .i64 (0)), (.int .i64 (0)), (.int .i64 (0)), (.int .i64 (0)), (.int .u8 (0)), .nilSl, .nilSl]) 32 (zipF [0] [.agg (actX x)]) (g5 x B) = some (.sl 8 0 1 1 false, g6 x B) := by kernel_rfl
theorem ka7 (hv : x.vB.oneCell = true) (hw : x.vK.oneCell = true) : appX 32 7 88 [.nilSl, .sl 8 0 1 1 false] (g6 x B) = some (.sl 9 0 1 1 true, g7 x B) := by
  obtain ⟨kd, at_, n, nm, vN, dk, dn, dt, d3, d4, vA, p1, p2, ds, x0, x1, x2, x3, xm, vB, vK⟩ := x
  cases vB <;> first | (cases hv; done) | (cases vK <;> first | (cases hw; done) | kernel_rfl)
end
end HS
open Go Go.Ev Go.Proofs Go.RowKit
namespace HS
set_option maxRecDepth 100000
open Go.Ev
open Ra Rb Rc Rd Re Rf Rg Rh Ri Rj Rk Rl Rm Rn Ro Rp Rq Rr
theorem zcn {H : AH} {v : AV} {n : Nat} (h : IsSl H v n) : v.oneCell = true := by
  rcases h with ⟨rfl, _⟩ | ⟨i, o, c, op, rfl, _⟩ <;> rfl
set_option maxHeartbeats 8000000 in
theorem zld1 (x : ActA) (B : Nat → ABlk) (nN nA nB nK : Nat) (hN : IsSl (h4 B) x.vN nN) (hA : IsSl (h4 B) x.vA nA) (hB : IsSl (h4 B) x.vB nB) (hK : IsSl (h4 B) x.vK nK) :
    FnE lookN 7 [.sl 5 0 1 1 false] (g2 x B) fun r H' => r = .bool true ∨ (r = .bool false ∧ H' = g7 x B) := by
  refine zfc f7_eq (zid1 rfl) rfl ?_
  unfold f7c
  have q3 := k3 x B
  have qN := kN x B
  have q4 := k4 x B
  have q51 := k51 x B
  have p4 := kb4 x B
  have p5 := ka5 x B (zcn hA)
  have p6 := kb6 x B
  have p7 := ka7 x B (zcn hB) (zcn hK)
  have row6 : Row (g2 x B) 5 false false 34 52 (actL x) := Row.new (H := g1 x B) rfl (.lst (actL x)) 34 52 false false
  have row9a : Row (g5 x B) 7 false true 29 40 (actD x) := Row.new (H := g4 x B) rfl (.lst (actD x)) 29 40 true false
  have hx57 : HX (g5 x B) (g7 x B) := (HX.new _ _).trans (HX.new _ _)
  have row9 := row9a.hx hx57 (by show 7 < 8; decide)
  have row11 : Row (g7 x B) 9 false true 32 7 (actX x) := Row.new (H := g6 x B) rfl (.lst (actX x)) 32 7 true false
  have hs : IsSl (g2 x B) (.sl 5 0 1 1 false) 1 := row6.isSl (by show 5 < 6; decide) (Nat.zero_le _)
  have hx2 : HX (h4 B) (g2 x B) := (HX.new _ _).trans (HX.new _ _)
  have hx7 : HX (g2 x B) (g7 x B) := (HX.new _ _).trans ((HX.new _ _).trans ((HX.new _ _).trans (HX.new _ _)))
  have h13 := zjd1 (g7 x B) 7 1 true x.dn x.dt x.vA nA (row9.isSl (by show 7 < 10; decide) (Nat.zero_le _)) (by kernel_rfl) (by kernel_rfl) (by kernel_rfl) (hA.hx (hx2.trans hx7))
  have h15 := zkd1 (g7 x B) 9 1 true x.vB x.vK nB nK (row11.isSl (by show 9 < 10; decide) (Nat.zero_le _)) (by kernel_rfl) (by kernel_rfl) (hB.hx (hx2.trans hx7)) (hK.hx (hx2.trans hx7))
  have hlen := fun H' => zno (H' := H') uN42 hs
  have hlenN := fun H' => zno (H' := H') uN35 (hN.hx hx2)
  have hstr := fun s H' => zzf1 uN9 s H'
  have hix : ixS 52 (.sl 5 0 1 1 false) (.int .i64 0) = some (.ptr 5 0) := rfl
  clear hx2 hx7 hN hA hB hK row6 row9a hx57 row9 row11
  generalize g2 x B = G2 at *
  generalize g4 x B = G4 at *
  generalize g5 x B = G5 at *
  generalize g6 x B = G6 at *
  generalize g7 x B = G7 at *
  (repeat' (first | refine Z ?_ | refine Zq ?_ | refine zaa (by decide) ?_ | ((first | refine' Y ?_ ?_ | refine' X ?_ ?_ ?_); rotate_left; (· (first | (simp (disch := omega) only [evl, Nat.reduceEqDiff, Nat.reduceAdd, reduceIte, reduceCtorEq] <;> exact rfl) | exact rfl)); all_goals try (refine fun (hb : _ = _) => ?_; try simp only [Zu, ne_eq, reduceCtorEq] at hb)) | (apply zca; · simp [evl])))
  refine zri (R := fun ex T' H' => (ex = .exit 0 ∧ gT T' 0 = .sl 5 0 1 1 false ∧ gT T' 3 = .sl 7 0 1 1 true ∧ gT T' 4 = .sl 9 0 1 1 true ∧ H' = G7) ∨ (ex = .ret ∧ gT T' 2 = .bool true)) ?_ ?_
  · refine zmo f7l0_eq (fun j T H' => gT T 0 = .sl 5 0 1 1 false ∧ ((j = 1 ∧ gT T 5 = .int .i64 0 ∧ gT T 3 = .nilSl ∧ gT T 4 = .nilSl ∧ H' = G2) ∨ (j = 0 ∧ gT T 5 = .int .i64 1 ∧ gT T 3 = .sl 7 0 1 1 true ∧ gT T 4 = .sl 9 0 1 1 true ∧ H' = G7))) _ ?_ 1 _ _ ?_
    · rintro j T H2 ⟨e0, ⟨rfl, e5, e3, e4, rfl⟩ | ⟨rfl, e5, e3, e4, rfl⟩⟩
      · unfold f7l0
        by_cases hbig : 100 < x.nm.size
        · (repeat' (first | refine Z ?_ | refine Zq ?_ | refine zaa (by decide) ?_ | ((first | refine' Y ?_ ?_ | refine' X ?_ ?_ ?_); rotate_left; (· (first | (simp (disch := omega) only [evl, Nat.reduceEqDiff, Nat.reduceAdd, reduceIte, reduceCtorEq, e0, e3, e4, e5, hlen, hix, q3, hstr] <;> exact rfl) | exact rfl)); all_goals try (refine fun (hb : _ = _) => ?_; try simp only [Zu, ne_eq, reduceCtorEq] at hb)) | (apply zca; · simp [evl])))
          refine zqa ?_
          refine lpq_r (.inr ⟨rfl, ?_⟩)
          (simp (disch := omega) only [evl, Nat.reduceEqDiff, Nat.reduceAdd, reduceIte, reduceCtorEq])
        · by_cases hb2 : 2000 < nN
          · (repeat' (first | refine Z ?_ | refine Zq ?_ | refine zaa (by decide) ?_ | ((first | refine' Y ?_ ?_ | refine' X ?_ ?_ ?_); rotate_left; (· (first | (simp (disch := omega) only [evl, Nat.reduceEqDiff, Nat.reduceAdd, reduceIte, reduceCtorEq, e0, e3, e4, e5, hlen, hix, q3, qN, hstr, hlenN] <;> exact rfl) | exact rfl)); all_goals try (refine fun (hb : _ = _) => ?_; try simp only [Zu, ne_eq, reduceCtorEq] at hb)) | (apply zca; · simp [evl])))
            refine zqa ?_
            refine lpq_r (.inr ⟨rfl, ?_⟩)
            (simp (disch := omega) only [evl, Nat.reduceEqDiff, Nat.reduceAdd, reduceIte, reduceCtorEq])
          · (repeat' (first | refine Z ?_ | refine Zq ?_ | refine zaa (by decide) ?_ | ((first | refine' Y ?_ ?_ | refine' X ?_ ?_ ?_); rotate_left; (· (first | (simp (disch := omega) only [evl, Nat.reduceEqDiff, Nat.reduceAdd, reduceIte, reduceCtorEq, e0, e3, e4, e5, hlen, hix, q3, qN, q4, hstr, hlenN] <;> exact rfl) | exact rfl)); all_goals try (refine fun (hb : _ = _) => ?_; try simp only [Zu, ne_eq, reduceCtorEq] at hb)) | (apply zca; · simp [evl])))
            refine rk_hn (by (simp (disch := omega) only [evl, Nat.reduceEqDiff, Nat.reduceAdd, reduceIte, reduceCtorEq, q4]); exact p4) ?_
            simp only [zva]
            (repeat' (first | refine Z ?_ | refine Zq ?_ | refine zaa (by decide) ?_ | ((first | refine' Y ?_ ?_ | refine' X ?_ ?_ ?_); rotate_left; (· (first | (simp (disch := omega) only [evl, Nat.reduceEqDiff, Nat.reduceAdd, reduceIte, reduceCtorEq, e0, e3, e4, e5] <;> exact rfl) | exact rfl)); all_goals try (refine fun (hb : _ = _) => ?_; try simp only [Zu, ne_eq, reduceCtorEq] at hb)) | (apply zca; · simp [evl])))
            refine rk_hn (by (simp (disch := omega) only [evl, Nat.reduceEqDiff, Nat.reduceAdd, reduceIte, reduceCtorEq, e3]); exact p5) ?_
            simp only [zva]
            (repeat' (first | refine Z ?_ | refine Zq ?_ | refine zaa (by decide) ?_ | ((first | refine' Y ?_ ?_ | refine' X ?_ ?_ ?_); rotate_left; (· (first | (simp (disch := omega) only [evl, Nat.reduceEqDiff, Nat.reduceAdd, reduceIte, reduceCtorEq, e0, e3, e4, e5, hix, q51] <;> exact rfl) | exact rfl)); all_goals try (refine fun (hb : _ = _) => ?_; try simp only [Zu, ne_eq, reduceCtorEq] at hb)) | (apply zca; · simp [evl])))
            refine rk_hn (by (simp (disch := omega) only [evl, Nat.reduceEqDiff, Nat.reduceAdd, reduceIte, reduceCtorEq, q51]); exact p6) ?_
            simp only [zva]
            (repeat' (first | refine Z ?_ | refine Zq ?_ | refine zaa (by decide) ?_ | ((first | refine' Y ?_ ?_ | refine' X ?_ ?_ ?_); rotate_left; (· (first | (simp (disch := omega) only [evl, Nat.reduceEqDiff, Nat.reduceAdd, reduceIte, reduceCtorEq, e0, e3, e4, e5] <;> exact rfl) | exact rfl)); all_goals try (refine fun (hb : _ = _) => ?_; try simp only [Zu, ne_eq, reduceCtorEq] at hb)) | (apply zca; · simp [evl])))
            refine rk_hn (by (simp (disch := omega) only [evl, Nat.reduceEqDiff, Nat.reduceAdd, reduceIte, reduceCtorEq, e4]); exact p7) ?_
            simp only [zva]
            (repeat' (first | refine Z ?_ | refine Zq ?_ | refine zaa (by decide) ?_ | ((first | refine' Y ?_ ?_ | refine' X ?_ ?_ ?_); rotate_left; (· (first | (simp (disch := omega) only [evl, Nat.reduceEqDiff, Nat.reduceAdd, reduceIte, reduceCtorEq, e0, e3, e4, e5] <;> exact rfl) | exact rfl)); all_goals try (refine fun (hb : _ = _) => ?_; try simp only [Zu, ne_eq, reduceCtorEq] at hb)) | (apply zca; · simp [evl])))
            refine zqa ?_
            refine lpq_n 0 (by omega) ⟨?_, .inr ⟨rfl, ?_, ?_, ?_, rfl⟩⟩
            · (simp (disch := omega) only [evl, Nat.reduceEqDiff, Nat.reduceAdd, reduceIte, reduceCtorEq, e0])
            · (simp (disch := omega) only [evl, Nat.reduceEqDiff, Nat.reduceAdd, reduceIte, reduceCtorEq, e5]); rfl
            · (simp (disch := omega) only [evl, Nat.reduceEqDiff, Nat.reduceAdd, reduceIte, reduceCtorEq])
            · (simp (disch := omega) only [evl, Nat.reduceEqDiff, Nat.reduceAdd, reduceIte, reduceCtorEq])
      · unfold f7l0
        (repeat' (first | refine Z ?_ | refine Zq ?_ | refine zaa (by decide) ?_ | ((first | refine' Y ?_ ?_ | refine' X ?_ ?_ ?_); rotate_left; (· (first | (simp (disch := omega) only [evl, Nat.reduceEqDiff, Nat.reduceAdd, reduceIte, reduceCtorEq, e0, e5, hlen] <;> exact rfl) | exact rfl)); all_goals try (refine fun (hb : _ = _) => ?_; try simp only [Zu, ne_eq, reduceCtorEq] at hb)) | (apply zca; · simp [evl])))
        refine zqa ?_
        refine lpq_e (.inl ⟨rfl, ?_, ?_, ?_, rfl⟩)
        · (simp (disch := omega) only [evl, Nat.reduceEqDiff, Nat.reduceAdd, reduceIte, reduceCtorEq, e0])
        · (simp (disch := omega) only [evl, Nat.reduceEqDiff, Nat.reduceAdd, reduceIte, reduceCtorEq, e3])
        · (simp (disch := omega) only [evl, Nat.reduceEqDiff, Nat.reduceAdd, reduceIte, reduceCtorEq, e4])
    · refine ⟨?_, .inl ⟨rfl, ?_, ?_, ?_, rfl⟩⟩
      · (simp (disch := omega) only [evl, Nat.reduceEqDiff, Nat.reduceAdd, reduceIte, reduceCtorEq])
      · (simp (disch := omega) only [evl, Nat.reduceEqDiff, Nat.reduceAdd, reduceIte, reduceCtorEq])
      · (simp (disch := omega) only [evl, Nat.reduceEqDiff, Nat.reduceAdd, reduceIte, reduceCtorEq])
      · (simp (disch := omega) only [evl, Nat.reduceEqDiff, Nat.reduceAdd, reduceIte, reduceCtorEq])
  · rintro ex T' H' (⟨rfl, e0, e3, e4, rfl⟩ | ⟨rfl, e2⟩)
    · (repeat' (first | refine Z ?_ | refine Zq ?_ | refine zaa (by decide) ?_ | ((first | refine' Y ?_ ?_ | refine' X ?_ ?_ ?_); rotate_left; (· (first | (simp (disch := omega) only [evl, Nat.reduceEqDiff, Nat.reduceAdd, reduceIte, reduceCtorEq, e0, e3, e4, hlen] <;> exact rfl) | exact rfl)); all_goals try (refine fun (hb : _ = _) => ?_; try simp only [Zu, ne_eq, reduceCtorEq] at hb)) | (apply zca; · simp [evl])))
      refine rk_cl (by (simp (disch := omega) only [evl, Nat.reduceEqDiff, Nat.reduceAdd, reduceIte, reduceCtorEq, e3]); exact h13) ?_
      rintro r H3 ⟨⟨b, rfl⟩, rfl⟩
      simp only [zva]
      cases b
      · (repeat' (first | refine Z ?_ | refine Zq ?_ | refine zaa (by decide) ?_ | ((first | refine' Y ?_ ?_ | refine' X ?_ ?_ ?_); rotate_left; (· (first | (simp (disch := omega) only [evl, Nat.reduceEqDiff, Nat.reduceAdd, reduceIte, reduceCtorEq, e0, e3, e4] <;> exact rfl) | exact rfl)); all_goals try (refine fun (hb : _ = _) => ?_; try simp only [Zu, ne_eq, reduceCtorEq] at hb)) | (apply zca; · simp [evl])))
        refine rk_cl (by (simp (disch := omega) only [evl, Nat.reduceEqDiff, Nat.reduceAdd, reduceIte, reduceCtorEq, e4]); exact h15) ?_
        rintro r H3 ⟨⟨b, rfl⟩, rfl⟩
        simp only [zva]
        (repeat' (first | refine Z ?_ | refine Zq ?_ | refine zaa (by decide) ?_ | ((first | refine' Y ?_ ?_ | refine' X ?_ ?_ ?_); rotate_left; (· (first | (simp (disch := omega) only [evl, Nat.reduceEqDiff, Nat.reduceAdd, reduceIte, reduceCtorEq] <;> exact rfl) | exact rfl)); all_goals try (refine fun (hb : _ = _) => ?_; try simp only [Zu, ne_eq, reduceCtorEq] at hb)) | (apply zca; · simp [evl])))
        refine zqa ?_
        refine zsc (zwc _ _) ?_
        cases b
        · exact .inr ⟨by (simp (disch := omega) only [evl, Nat.reduceEqDiff, Nat.reduceAdd, reduceIte, reduceCtorEq]), rfl⟩
        · exact .inl (by (simp (disch := omega) only [evl, Nat.reduceEqDiff, Nat.reduceAdd, reduceIte, reduceCtorEq]))
      · (repeat' (first | refine Z ?_ | refine Zq ?_ | refine zaa (by decide) ?_ | ((first | refine' Y ?_ ?_ | refine' X ?_ ?_ ?_); rotate_left; (· (first | (simp (disch := omega) only [evl, Nat.reduceEqDiff, Nat.reduceAdd, reduceIte, reduceCtorEq, e0, e3, e4] <;> exact rfl) | exact rfl)); all_goals try (refine fun (hb : _ = _) => ?_; try simp only [Zu, ne_eq, reduceCtorEq] at hb)) | (apply zca; · simp [evl])))
        refine zqa ?_
        refine zsc (zwc _ _) (.inl ?_)
        (simp (disch := omega) only [evl, Nat.reduceEqDiff, Nat.reduceAdd, reduceIte, reduceCtorEq])
    · (repeat' (first | refine Z ?_ | refine Zq ?_ | refine zaa (by decide) ?_ | ((first | refine' Y ?_ ?_ | refine' X ?_ ?_ ?_); rotate_left; (· (first | (simp (disch := omega) only [evl, Nat.reduceEqDiff, Nat.reduceAdd, reduceIte, reduceCtorEq, e2] <;> exact rfl) | exact rfl)); all_goals try (refine fun (hb : _ = _) => ?_; try simp only [Zu, ne_eq, reduceCtorEq] at hb)) | (apply zca; · simp [evl])))
      refine zqa ?_
      refine zsc (zwc _ _) (.inl ?_)
      (simp (disch := omega) only [evl, Nat.reduceEqDiff, Nat.reduceAdd, reduceIte, reduceCtorEq, e2])
end HS
open Go Go.Ev Go.Proofs Go.RowKit
namespace HS
set_option maxRecDepth 1000000
open Go.Ev
open Ra Rb Rc Rd Re Rf Rg Rh Ri Rj Rk Rl Rm Rn Ro Rp Rq Rr
noncomputable def getO : Option Out → Out | some o => o | none => ⟨.normal, .nil, H0⟩
theorem rc_runT {L : Lk} {c : C2} {T : Tr AV} {H : AH} {Q : PostC} (n : Nat) (h : ∀ k, evC' c L (evF L (k + n)) (kOf L (evF L (k + n)) []) T H = some (getO (evC' c L (evF L n) (kOf L (evF L n) []) T H)))
    (hq : Q (getO (evC' c L (evF L n) (kOf L (evF L n) []) T H)).ex (getO (evC' c L (evF L n) (kOf L (evF L n) []) T H)).T (getO (evC' c L (evF L n) (kOf L (evF L n) []) T H)).H) : RC L c [] T H Q :=
  ⟨_, hq, n, fun m hm => by obtain ⟨k, rfl⟩ : ∃ k, m = k + n := ⟨m - n, by omega⟩; exact h k⟩
theorem zmd1 (H : AH) : FnE lookN 8 [] H fun r H' => r = .bool true ∧ H' = { H with fz := true } := zcs (show lookN.ext 8 = some zed from rfl) rfl
section
variable (x : ActA) (B : Nat → ABlk)
theorem k52 : ldN 52 (.ptr 4 0) (g1 x B) = some (.agg (actL x)) := by kernel_rfl
end
set_option maxHeartbeats 8000000 in
theorem zdn (x : ActA) (B : Nat → ABlk) (nN nA nB nK : Nat) (hN : IsSl (h4 B) x.vN nN) (hA : IsSl (h4 B) x.vA nA) (hB : IsSl (h4 B) x.vB nB) (hK : IsSl (h4 B) x.vK nK) :
    FnE lookN 3 [.agg (actL x)] (h4 B) fun r H' => r = .bool true := by
  have hLong := zld1 x B nN nA nB nK hN hA hB hK
  clear hN hA hB hK
  refine zfc f3_eq (zid1 rfl) rfl ?_
  unfold f3c
  (repeat' (first | refine Z ?_ | refine Zq ?_ | refine zaa (by decide) ?_ | ((first | refine' Y ?_ ?_ | refine' X ?_ ?_ ?_); rotate_left; (· (first | (simp (disch := omega) only [evl, Nat.reduceEqDiff, Nat.reduceAdd, reduceIte, reduceCtorEq] <;> exact rfl) | exact rfl)); all_goals try (refine fun (hb : _ = _) => ?_; try simp only [Zu, ne_eq, reduceCtorEq] at hb)) | (apply zca; · simp [evl])))
  refine rk_m1 (v := .ptr 4 0) (H' := g1 x B) (by (simp (disch := omega) only [evl, Nat.reduceEqDiff, Nat.reduceAdd, reduceIte, reduceCtorEq]); exact zpb1 _ _ _ _) ?_
  simp only [zva]
  have q := k52 x B
  (repeat' (first | refine Z ?_ | refine Zq ?_ | refine zaa (by decide) ?_ | ((first | refine' Y ?_ ?_ | refine' X ?_ ?_ ?_); rotate_left; (· (first | (simp (disch := omega) only [evl, Nat.reduceEqDiff, Nat.reduceAdd, reduceIte, reduceCtorEq, q] <;> exact rfl) | exact rfl)); all_goals try (refine fun (hb : _ = _) => ?_; try simp only [Zu, ne_eq, reduceCtorEq] at hb)) | (apply zca; · simp [evl])))
  refine rk_hn (v := .sl 5 0 1 1 false) (H' := g2 x B) (by (simp (disch := omega) only [evl, Nat.reduceEqDiff, Nat.reduceAdd, reduceIte, reduceCtorEq, q]); kernel_rfl) ?_
  simp only [zva]
  (repeat' (first | refine Z ?_ | refine Zq ?_ | refine zaa (by decide) ?_ | ((first | refine' Y ?_ ?_ | refine' X ?_ ?_ ?_); rotate_left; (· (first | (simp (disch := omega) only [evl, Nat.reduceEqDiff, Nat.reduceAdd, reduceIte, reduceCtorEq] <;> exact rfl) | exact rfl)); all_goals try (refine fun (hb : _ = _) => ?_; try simp only [Zu, ne_eq, reduceCtorEq] at hb)) | (apply zca; · simp [evl])))
  refine rk_cl (by (simp (disch := omega) only [evl, Nat.reduceEqDiff, Nat.reduceAdd, reduceIte, reduceCtorEq]); exact hLong) ?_
  rintro r H3 (rfl | ⟨rfl, rfl⟩)
  · simp only [zva]
    (repeat' (first | refine Z ?_ | refine Zq ?_ | refine zaa (by decide) ?_ | ((first | refine' Y ?_ ?_ | refine' X ?_ ?_ ?_); rotate_left; (· (first | (simp (disch := omega) only [evl, Nat.reduceEqDiff, Nat.reduceAdd, reduceIte, reduceCtorEq] <;> exact rfl) | exact rfl)); all_goals try (refine fun (hb : _ = _) => ?_; try simp only [Zu, ne_eq, reduceCtorEq] at hb)) | (apply zca; · simp [evl])))
    refine rk_cl (by (simp (disch := omega) only [evl, Nat.reduceEqDiff, Nat.reduceAdd, reduceIte, reduceCtorEq]); exact zmd1 _) ?_
    rintro r H1 ⟨rfl, rfl⟩
    simp only [zva]
    (repeat' (first | refine Z ?_ | refine Zq ?_ | refine zaa (by decide) ?_ | ((first | refine' Y ?_ ?_ | refine' X ?_ ?_ ?_); rotate_left; (· (first | (simp (disch := omega) only [evl, Nat.reduceEqDiff, Nat.reduceAdd, reduceIte, reduceCtorEq] <;> exact rfl) | exact rfl)); all_goals try (refine fun (hb : _ = _) => ?_; try simp only [Zu, ne_eq, reduceCtorEq] at hb)) | (apply zca; · simp [evl])))
    refine zqa ?_; refine zsc (zwc _ _) ?_
    (simp (disch := omega) only [evl, Nat.reduceEqDiff, Nat.reduceAdd, reduceIte, reduceCtorEq])
  · simp only [zva]
    refine rk_done ?_
    refine rn_seq_n ?_
    refine zbc1 (by (simp (disch := omega) only [evl, Nat.reduceEqDiff, Nat.reduceAdd, reduceIte, reduceCtorEq])) ?_
    refine rc_skip ?_
    refine rn_seq_n ?_
    clear hLong q
    refine rc_runT 200 (fun k => by kernel_rfl) ?_
    exact ⟨.inr (by kernel_rfl), _, zwc _ _, by show _ = AV.bool true; kernel_rfl⟩
end HS
open Go Go.Ev Go.Proofs Go.RowKit
namespace HS
set_option maxRecDepth 100000
open Go.Ev
open Ra Rb Rc Rd Re Rf Rg Rh Ri Rj Rk Rl Rm Rn Ro Rp Rq Rr
section
variable {P : Program} {w : World} {base t : Nat} {v : Value}
theorem zka {k : IntKind} (hu : P.underlying t = some (.int k)) (h : Cell.okWide P w .any base t v) : ∃ n, v = .int k n := by
  unfold Cell.okWide at h
  rw [hu] at h
  have h : Cell.ok P w .any base t v := by cases v <;> exact h
  unfold Cell.ok at h
  rw [hu] at h
  cases v <;> first | exact h.elim | (obtain ⟨rfl, _⟩ := h; exact ⟨_, rfl⟩)
theorem zzq (hu : P.underlying t = some .string) (h : Cell.okWide P w .any base t v) : ∃ s, v = .string s := by
  unfold Cell.okWide at h
  rw [hu] at h
  have h : Cell.ok P w .any base t v := by cases v <;> exact h
  unfold Cell.ok at h
  rw [hu] at h
  cases v <;> first | exact h.elim | exact ⟨_, rfl⟩
theorem zuz {e : Nat} (hu : P.underlying t = some (.slice e)) (h : Cell.okWide P w .any base t v) :
    v = .slice none 0 0 ∨ ∃ x len cap, v = .slice (some x) len cap ∧ len ≤ cap ∧ (cap : Int) ≤ IntKind.i64.max ∧ x.spot = none ∧ ∃ cs e fz, w.heap[x.block]? = some (.cells cs e fz) := by
  have h0 := h
  unfold Cell.okWide at h
  rw [hu] at h
  have h : Cell.ok P w .any base t v := by cases v <;> exact h
  unfold Cell.ok at h
  rw [hu] at h
  cases v with
  | slice a len cap =>
    cases a with
    | none =>
      left
      cases len with
      | zero => cases cap with | zero => rfl | succ c => exact h.elim
      | succ n => exact h.elim
    | some x =>
      right
      have hb := zdc1 (P := P) (w := w) (base := base) (t := t) (e := e) (x := x) (len := len) (cap := cap) hu (by unfold Value.okWide; rw [hu]; exact h0)
      exact ⟨x, len, cap, rfl, h.1, h.2.1, hb.1, hb.2⟩
  | _ => exact h.elim
end
theorem zag1 (k : Nat) {w : World} {a : Option Addr} {len cap e z : Nat} (hrow : (a = none ∧ len = 0 ∧ cap = 0) ∨ ∃ x, a = some x ∧ (x.spot = none ∧ ∃ cs e fz, w.heap[x.block]? = some (.cells cs e fz))) :
    ∃ (b : ABlk × EB) (v : AV), Arg w k (.slice a len cap) (fun H v => IsSl H v len) b v := by
  rcases hrow with ⟨rfl, rfl, rfl⟩ | ⟨x, rfl, hsp, hblk⟩
  · exact ⟨_, _, arg_nil w k fun H => .inl ⟨rfl, rfl⟩⟩
  · refine ⟨_, _, arg_row k (e := e) (z := z) (l := []) hsp hblk (fun E j v hj => by simp at hj) (fun H hk hr => ?_)⟩
    obtain ⟨c, hg, _⟩ := hr
    exact .inr ⟨k, 0, cap, false, rfl, hk, c, _, _, _, _, hg, Nat.zero_le _⟩
theorem zen {P : Program} {w : World} {base t e : Nat} {v : Value} (k : Nat) (hu : P.underlying t = some (.slice e)) (h : Cell.okWide P w .any base t v) :
    ∃ (a : Option Addr) (len cap : Nat) (b : ABlk × EB) (u : AV), v = .slice a len cap ∧ Arg w k (.slice a len cap) (fun H v => IsSl H v len) b u := by
  rcases zuz hu h with rfl | ⟨x, len, cap, rfl, _, _, hsp, hb⟩
  · obtain ⟨b, u, h2⟩ := zag1 k (w := w) (a := none) (len := 0) (cap := 0) (e := e) (z := 1) (.inl ⟨rfl, rfl, rfl⟩)
    exact ⟨_, _, _, b, u, rfl, h2⟩
  · obtain ⟨b, u, h2⟩ := zag1 k (w := w) (a := some x) (len := len) (cap := cap) (e := e) (z := 1) (.inr ⟨x, rfl, hsp, hb⟩)
    exact ⟨_, _, _, b, u, rfl, h2⟩
end HS
