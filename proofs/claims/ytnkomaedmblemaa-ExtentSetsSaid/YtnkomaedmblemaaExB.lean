import Derived.Test.YtnkomaedmblemaaCtB
set_option linter.unusedSimpArgs false
set_option linter.unusedVariables false
set_option maxRecDepth 100000
namespace Go.Proofs.Ytnkomaedmblemaa
open Go.Ev Exl
theorem u63 : look.under 63 = some (.slice 66) := by kernel_rfl
/-! caulker/extent.edges: parameters [22, 22], temporaries 51 -/
noncomputable def f52body : Code := bodyN look 52
/- extent.go:85 -/
noncomputable def f52r0 : K2 :=
  .mv (.con .nilSl) (some (sOf 4)) <|
  .done
/- extent.go:86 -/
noncomputable def f52r1 : K2 :=
  .mv (.con .nilSl) (some (sOf 5)) <|
  .done
/- extent.go:87 -/
noncomputable def f52r2 : K2 :=
  .mv (tO 0) (some (sOf 10)) <|
  .ln (fun xs H => fstO (builtinF .len look [22] xs H)) [(tO 10)] (some (sOf 11)) <|
  .mv (.con (.int .i64 (0))) (some (sOf 12)) <|
  .done
/- extent.go:87 -/
noncomputable def f52r3 : K2 :=
  .p2 (binF .lss (evBin look .lss 3 (.tmp 12) (.tmp 11))) (tO 12) (tO 11) (some (sOf 13)) <|
  .done
/- extent.go:87 -/
noncomputable def f52r4 : K2 :=
  .p2 (ixS 2) (tO 10) (tO 12) (some (sOf 14)) <|
  .r1 (ldN 2) (tO 14) (some (sOf 15)) <|
  .al false (alF (AV.toC (.agg [(.int .i64 (0)), (.int .i64 (0))])) 43 2) (some (sOf 7)) <|
  .st false (stN 2) (tO 7) (tO 15) none <|
  .done
/- extent.go:88 -/
noncomputable def f52r5 : K2 :=
  .mv (tO 5) (some (sOf 16)) <|
  .p1 (fa 0) (tO 7) (some (sOf 17)) <|
  .r1 ld1 (tO 17) (some (sOf 18)) <|
  .ln (fun xs _ => evBuild look 66 (zipF [0, 1] xs)) [(tO 18), (.con (.bool false))] (some (sOf 19)) <|
  .p1 (fa 0) (tO 7) (some (sOf 20)) <|
  .r1 ld1 (tO 20) (some (sOf 21)) <|
  .p1 (fa 1) (tO 7) (some (sOf 22)) <|
  .r1 ld1 (tO 22) (some (sOf 23)) <|
  .p2 (binF .add (evBin look .add 3 (.tmp 21) (.tmp 23))) (tO 21) (tO 23) (some (sOf 24)) <|
  .ln (fun xs _ => evBuild look 66 (zipF [0, 1] xs)) [(tO 24), (.con (.bool false))] (some (sOf 25)) <|
  .hn false (fun xs H => bsF 2 2 (.agg [(.int .i64 (0)), (.bool false)]) 66 (zipF [0, 1] xs) H) [(tO 19), (tO 25)] (some (sOf 26)) <|
  .hn false (appX 66 2 16) [(tO 16), (tO 26)] (some (sOf 27)) <|
  .mv (tO 27) (some (sOf 5)) <|
  .done
/- extent.go:87 -/
noncomputable def f52r6 : K2 :=
  .p2 (binF .add (evBin look .add 3 (.tmp 12) (.const (.int .i64 (1))))) (tO 12) (.con (.int .i64 (1))) (some (sOf 28)) <|
  .mv (tO 28) (some (sOf 12)) <|
  .done
noncomputable def f52l0 : C2 := (.seq (.reg f52r3)
  (.seq (.cond (tO 13) .skip (.exit 0))
  (.seq (.block 1 (.seq (.reg f52r4)
  (.reg f52r5)))
  (.reg f52r6))))
noncomputable def f52b0 : Code := lpN f52body 0
theorem f52l0_eq : comp look f52b0 = f52l0 := by kernel_rfl
/- extent.go:90 -/
noncomputable def f52r7 : K2 :=
  .mv (tO 1) (some (sOf 29)) <|
  .ln (fun xs H => fstO (builtinF .len look [22] xs H)) [(tO 29)] (some (sOf 30)) <|
  .mv (.con (.int .i64 (0))) (some (sOf 31)) <|
  .done
/- extent.go:90 -/
noncomputable def f52r8 : K2 :=
  .p2 (binF .lss (evBin look .lss 3 (.tmp 31) (.tmp 30))) (tO 31) (tO 30) (some (sOf 32)) <|
  .done
/- extent.go:90 -/
noncomputable def f52r9 : K2 :=
  .p2 (ixS 2) (tO 29) (tO 31) (some (sOf 33)) <|
  .r1 (ldN 2) (tO 33) (some (sOf 34)) <|
  .al false (alF (AV.toC (.agg [(.int .i64 (0)), (.int .i64 (0))])) 43 2) (some (sOf 9)) <|
  .st false (stN 2) (tO 9) (tO 34) none <|
  .done
/- extent.go:91 -/
noncomputable def f52r10 : K2 :=
  .mv (tO 5) (some (sOf 35)) <|
  .p1 (fa 0) (tO 9) (some (sOf 36)) <|
  .r1 ld1 (tO 36) (some (sOf 37)) <|
  .ln (fun xs _ => evBuild look 66 (zipF [0, 1] xs)) [(tO 37), (.con (.bool true))] (some (sOf 38)) <|
  .p1 (fa 0) (tO 9) (some (sOf 39)) <|
  .r1 ld1 (tO 39) (some (sOf 40)) <|
  .p1 (fa 1) (tO 9) (some (sOf 41)) <|
  .r1 ld1 (tO 41) (some (sOf 42)) <|
  .p2 (binF .add (evBin look .add 3 (.tmp 40) (.tmp 42))) (tO 40) (tO 42) (some (sOf 43)) <|
  .ln (fun xs _ => evBuild look 66 (zipF [0, 1] xs)) [(tO 43), (.con (.bool true))] (some (sOf 44)) <|
  .hn false (fun xs H => bsF 2 2 (.agg [(.int .i64 (0)), (.bool false)]) 66 (zipF [0, 1] xs) H) [(tO 38), (tO 44)] (some (sOf 45)) <|
  .hn false (appX 66 2 16) [(tO 35), (tO 45)] (some (sOf 46)) <|
  .mv (tO 46) (some (sOf 5)) <|
  .done
/- extent.go:90 -/
noncomputable def f52r11 : K2 :=
  .p2 (binF .add (evBin look .add 3 (.tmp 31) (.const (.int .i64 (1))))) (tO 31) (.con (.int .i64 (1))) (some (sOf 47)) <|
  .mv (tO 47) (some (sOf 31)) <|
  .done
noncomputable def f52l1 : C2 := (.seq (.reg f52r8)
  (.seq (.cond (tO 32) .skip (.exit 2))
  (.seq (.block 3 (.seq (.reg f52r9)
  (.reg f52r10)))
  (.reg f52r11))))
noncomputable def f52b1 : Code := lpN f52body 1
theorem f52l1_eq : comp look f52b1 = f52l1 := by kernel_rfl
/- extent.go:93 -/
noncomputable def f52r12 : K2 :=
  .mv (tO 5) (some (sOf 48)) <|
  .cl false 57 [(tO 48), (.con (.fn (.func 58) [] []))] (some (sOf 49)) <|
  .done
/- extent.go:94 -/
noncomputable def f52r13 : K2 :=
  .mv (tO 5) (some (sOf 50)) <|
  .mv (tO 50) (some (sOf 4)) <|
  .done
noncomputable def f52c : C2 := (.seq (.reg f52r0)
  (.seq (.reg f52r1)
  (.seq (.seq (.reg f52r2)
  (.block 0 (.loop f52b0)))
  (.seq (.seq (.reg f52r7)
  (.block 2 (.loop f52b1)))
  (.seq (.reg f52r12)
  (.seq (.reg f52r13)
  .ret))))))
theorem f52_eq : fnF look 52 = some ⟨51, f52c, [.tmp 4]⟩ := by kernel_rfl

/- sort.go:38 -/
noncomputable def f57r0 : K2 :=
  .mv (tO 0) (some (sOf 4)) <|
  .mv (tO 0) (some (sOf 5)) <|
  .ln (fun xs H => fstO (builtinF .len look [63] xs H)) [(tO 5)] (some (sOf 6)) <|
  .mv (tO 1) (some (sOf 7)) <|
  .cl false 62 [(tO 4), (tO 6), (tO 7)] (some (sOf 8)) <|
  .done
noncomputable def f57c : C2 := (.reg f57r0)
theorem f57_eq : fnF look 57 = some ⟨9, f57c, []⟩ := by kernel_rfl

/- extent.go:93 -/
noncomputable def f58r0 : K2 :=
  .m1 false (fun v H => alF v.toC 66 2 H) (tO 0) (some (sOf 2)) <|
  .m1 false (fun v H => alF v.toC 66 2 H) (tO 1) (some (sOf 3)) <|
  .mv (.con (.int .i64 (0))) (some (sOf 4)) <|
  .done
/- extent.go:93 -/
noncomputable def f58r1 : K2 :=
  .p1 (fa 0) (tO 2) (some (sOf 5)) <|
  .r1 ld1 (tO 5) (some (sOf 6)) <|
  .p1 (fa 0) (tO 3) (some (sOf 7)) <|
  .r1 ld1 (tO 7) (some (sOf 8)) <|
  .p2 (binF .sub (evBin look .sub 3 (.tmp 6) (.tmp 8))) (tO 6) (tO 8) (some (sOf 9)) <|
  .mv (tO 9) (some (sOf 4)) <|
  .done
noncomputable def f58c : C2 := (.seq (.reg f58r0)
  (.seq (.reg f58r1)
  .ret))
theorem f58_eq : fnF look 58 = some ⟨10, f58c, [.tmp 4]⟩ := by kernel_rfl

/-! slices.stableCmpFunc[caulker/extent.edge]: parameters [63, 3, 70], temporaries 63 -/
noncomputable def f62body : Code := bodyN look 62
/- zsortanyfunc.go:336 -/
noncomputable def f62r0 : K2 :=
  .mv (.con (.int .i64 (20))) (some (sOf 6)) <|
  .done
/- zsortanyfunc.go:337 -/
noncomputable def f62r1 : K2 :=
  .mv (tO 6) (some (sOf 10)) <|
  .mv (.con (.int .i64 (0))) (some (sOf 7)) <|
  .mv (tO 10) (some (sOf 8)) <|
  .done
/- zsortanyfunc.go:338 -/
noncomputable def f62r2 : K2 :=
  .mv (tO 8) (some (sOf 11)) <|
  .mv (tO 1) (some (sOf 12)) <|
  .p2 (binF .leq (evBin look .leq 3 (.tmp 11) (.tmp 12))) (tO 11) (tO 12) (some (sOf 13)) <|
  .done
/- zsortanyfunc.go:339 -/
noncomputable def f62r3 : K2 :=
  .mv (tO 0) (some (sOf 14)) <|
  .mv (tO 7) (some (sOf 15)) <|
  .mv (tO 8) (some (sOf 16)) <|
  .mv (tO 2) (some (sOf 17)) <|
  .cl false 74 [(tO 14), (tO 15), (tO 16), (tO 17)] (some (sOf 18)) <|
  .done
/- zsortanyfunc.go:340 -/
noncomputable def f62r4 : K2 :=
  .mv (tO 8) (some (sOf 19)) <|
  .mv (tO 19) (some (sOf 7)) <|
  .done
/- zsortanyfunc.go:341 -/
noncomputable def f62r5 : K2 :=
  .mv (tO 8) (some (sOf 20)) <|
  .mv (tO 6) (some (sOf 21)) <|
  .p2 (binF .add (evBin look .add 3 (.tmp 20) (.tmp 21))) (tO 20) (tO 21) (some (sOf 22)) <|
  .mv (tO 22) (some (sOf 8)) <|
  .done
noncomputable def f62l0 : C2 := (.seq (.seq (.reg f62r2)
  (.cond (tO 13) .skip (.exit 0)))
  (.block 1 (.seq (.reg f62r3)
  (.seq (.reg f62r4)
  (.reg f62r5)))))
noncomputable def f62b0 : Code := lpN f62body 0
theorem f62l0_eq : comp look f62b0 = f62l0 := by kernel_rfl
/- zsortanyfunc.go:343 -/
noncomputable def f62r6 : K2 :=
  .mv (tO 0) (some (sOf 23)) <|
  .mv (tO 7) (some (sOf 24)) <|
  .mv (tO 1) (some (sOf 25)) <|
  .mv (tO 2) (some (sOf 26)) <|
  .cl false 74 [(tO 23), (tO 24), (tO 25), (tO 26)] (some (sOf 27)) <|
  .done
/- zsortanyfunc.go:345 -/
noncomputable def f62r7 : K2 :=
  .mv (tO 6) (some (sOf 28)) <|
  .mv (tO 1) (some (sOf 29)) <|
  .p2 (binF .lss (evBin look .lss 3 (.tmp 28) (.tmp 29))) (tO 28) (tO 29) (some (sOf 30)) <|
  .done
/- zsortanyfunc.go:346 -/
noncomputable def f62r8 : K2 :=
  .mv (tO 6) (some (sOf 31)) <|
  .p2 (binF .mul (evBin look .mul 3 (.const (.int .i64 (2))) (.tmp 31))) (.con (.int .i64 (2))) (tO 31) (some (sOf 32)) <|
  .mv (.con (.int .i64 (0))) (some (sOf 7)) <|
  .mv (tO 32) (some (sOf 8)) <|
  .done
/- zsortanyfunc.go:347 -/
noncomputable def f62r9 : K2 :=
  .mv (tO 8) (some (sOf 33)) <|
  .mv (tO 1) (some (sOf 34)) <|
  .p2 (binF .leq (evBin look .leq 3 (.tmp 33) (.tmp 34))) (tO 33) (tO 34) (some (sOf 35)) <|
  .done
/- zsortanyfunc.go:348 -/
noncomputable def f62r10 : K2 :=
  .mv (tO 0) (some (sOf 36)) <|
  .mv (tO 7) (some (sOf 37)) <|
  .mv (tO 7) (some (sOf 38)) <|
  .mv (tO 6) (some (sOf 39)) <|
  .p2 (binF .add (evBin look .add 3 (.tmp 38) (.tmp 39))) (tO 38) (tO 39) (some (sOf 40)) <|
  .mv (tO 8) (some (sOf 41)) <|
  .mv (tO 2) (some (sOf 42)) <|
  .cl false 75 [(tO 36), (tO 37), (tO 40), (tO 41), (tO 42)] (some (sOf 43)) <|
  .done
/- zsortanyfunc.go:349 -/
noncomputable def f62r11 : K2 :=
  .mv (tO 8) (some (sOf 44)) <|
  .mv (tO 44) (some (sOf 7)) <|
  .done
/- zsortanyfunc.go:350 -/
noncomputable def f62r12 : K2 :=
  .mv (tO 8) (some (sOf 45)) <|
  .mv (tO 6) (some (sOf 46)) <|
  .p2 (binF .mul (evBin look .mul 3 (.const (.int .i64 (2))) (.tmp 46))) (.con (.int .i64 (2))) (tO 46) (some (sOf 47)) <|
  .p2 (binF .add (evBin look .add 3 (.tmp 45) (.tmp 47))) (tO 45) (tO 47) (some (sOf 48)) <|
  .mv (tO 48) (some (sOf 8)) <|
  .done
noncomputable def f62l2 : C2 := (.seq (.seq (.reg f62r9)
  (.cond (tO 35) .skip (.exit 4)))
  (.block 5 (.seq (.reg f62r10)
  (.seq (.reg f62r11)
  (.reg f62r12)))))
noncomputable def f62b2 : Code := lpN f62body 2
theorem f62l2_eq : comp look f62b2 = f62l2 := by kernel_rfl
/- zsortanyfunc.go:352 -/
noncomputable def f62r13 : K2 :=
  .mv (tO 7) (some (sOf 49)) <|
  .mv (tO 6) (some (sOf 50)) <|
  .p2 (binF .add (evBin look .add 3 (.tmp 49) (.tmp 50))) (tO 49) (tO 50) (some (sOf 51)) <|
  .mv (tO 51) (some (sOf 9)) <|
  .done
/- zsortanyfunc.go:352 -/
noncomputable def f62r14 : K2 :=
  .mv (tO 9) (some (sOf 52)) <|
  .mv (tO 1) (some (sOf 53)) <|
  .p2 (binF .lss (evBin look .lss 3 (.tmp 52) (.tmp 53))) (tO 52) (tO 53) (some (sOf 54)) <|
  .done
/- zsortanyfunc.go:353 -/
noncomputable def f62r15 : K2 :=
  .mv (tO 0) (some (sOf 55)) <|
  .mv (tO 7) (some (sOf 56)) <|
  .mv (tO 9) (some (sOf 57)) <|
  .mv (tO 1) (some (sOf 58)) <|
  .mv (tO 2) (some (sOf 59)) <|
  .cl false 75 [(tO 55), (tO 56), (tO 57), (tO 58), (tO 59)] (some (sOf 60)) <|
  .done
/- zsortanyfunc.go:355 -/
noncomputable def f62r16 : K2 :=
  .mv (tO 6) (some (sOf 61)) <|
  .p2 (binF .mul (evBin look .mul 3 (.tmp 61) (.const (.int .i64 (2))))) (tO 61) (.con (.int .i64 (2))) (some (sOf 62)) <|
  .mv (tO 62) (some (sOf 6)) <|
  .done
noncomputable def f62l1 : C2 := (.seq (.seq (.reg f62r7)
  (.cond (tO 30) .skip (.exit 2)))
  (.block 3 (.seq (.reg f62r8)
  (.seq (.block 4 (.loop f62b2))
  (.seq (.seq (.reg f62r13)
  (.seq (.reg f62r14)
  (.cond (tO 54) (.reg f62r15) .skip)))
  (.reg f62r16))))))
noncomputable def f62b1 : Code := lpN f62body 1
theorem f62l1_eq : comp look f62b1 = f62l1 := by kernel_rfl
noncomputable def f62c : C2 := (.seq (.reg f62r0)
  (.seq (.reg f62r1)
  (.seq (.block 0 (.loop f62b0))
  (.seq (.reg f62r6)
  (.block 2 (.loop f62b1))))))
theorem f62_eq : fnF look 62 = some ⟨63, f62c, []⟩ := by kernel_rfl

/-! slices.insertionSortCmpFunc[caulker/extent.edge]: parameters [63, 3, 3, 70], temporaries 53 -/
noncomputable def f74body : Code := bodyN look 74
/- zsortanyfunc.go:11 -/
noncomputable def f74r0 : K2 :=
  .mv (tO 1) (some (sOf 10)) <|
  .p2 (binF .add (evBin look .add 3 (.tmp 10) (.const (.int .i64 (1))))) (tO 10) (.con (.int .i64 (1))) (some (sOf 11)) <|
  .mv (tO 11) (some (sOf 8)) <|
  .done
/- zsortanyfunc.go:11 -/
noncomputable def f74r1 : K2 :=
  .mv (tO 8) (some (sOf 12)) <|
  .mv (tO 2) (some (sOf 13)) <|
  .p2 (binF .lss (evBin look .lss 3 (.tmp 12) (.tmp 13))) (tO 12) (tO 13) (some (sOf 14)) <|
  .done
/- zsortanyfunc.go:12 -/
noncomputable def f74r2 : K2 :=
  .mv (tO 8) (some (sOf 17)) <|
  .mv (tO 17) (some (sOf 9)) <|
  .done
noncomputable def f74r3_15 : K2 := .ln (fun xs _ => pickF xs) [(tO 21), (tO 33), (.con (.bool false))] (some (sOf 34)) <|
  .done
noncomputable def f74r3_14 : K2 := .gd (sOf 21) true (some (sOf 33)) (.p2 (binF .lss (evBin look .lss 3 (.tmp 32) (.const (.int .i64 (0))))) (tO 32) (.con (.int .i64 (0))) (some (sOf 33)) <|
  f74r3_15) f74r3_15
noncomputable def f74r3_13 : K2 := .gd (sOf 21) true (some (sOf 32)) (.cn false (fun xs _ => evCallFn (hd xs) (tl xs)) [(tO 22), (tO 26), (tO 31)] (some (sOf 32)) <|
  f74r3_14) f74r3_14
noncomputable def f74r3_12 : K2 := .gd (sOf 21) true (some (sOf 31)) (.r1 (ldN 2) (tO 30) (some (sOf 31)) <|
  f74r3_13) f74r3_13
noncomputable def f74r3_11 : K2 := .gd (sOf 21) true (some (sOf 30)) (.p2 (ixS 2) (tO 27) (tO 29) (some (sOf 30)) <|
  f74r3_12) f74r3_12
noncomputable def f74r3_10 : K2 := .gd (sOf 21) true (some (sOf 29)) (.p2 (binF .sub (evBin look .sub 3 (.tmp 28) (.const (.int .i64 (1))))) (tO 28) (.con (.int .i64 (1))) (some (sOf 29)) <|
  f74r3_11) f74r3_11
noncomputable def f74r3_9 : K2 := .gd (sOf 21) true (some (sOf 28)) (.mv (tO 9) (some (sOf 28)) <|
  f74r3_10) f74r3_10
noncomputable def f74r3_8 : K2 := .gd (sOf 21) true (some (sOf 27)) (.mv (tO 0) (some (sOf 27)) <|
  f74r3_9) f74r3_9
noncomputable def f74r3_7 : K2 := .gd (sOf 21) true (some (sOf 26)) (.r1 (ldN 2) (tO 25) (some (sOf 26)) <|
  f74r3_8) f74r3_8
noncomputable def f74r3_6 : K2 := .gd (sOf 21) true (some (sOf 25)) (.p2 (ixS 2) (tO 23) (tO 24) (some (sOf 25)) <|
  f74r3_7) f74r3_7
noncomputable def f74r3_5 : K2 := .gd (sOf 21) true (some (sOf 24)) (.mv (tO 9) (some (sOf 24)) <|
  f74r3_6) f74r3_6
noncomputable def f74r3_4 : K2 := .gd (sOf 21) true (some (sOf 23)) (.mv (tO 0) (some (sOf 23)) <|
  f74r3_5) f74r3_5
/- zsortanyfunc.go:12 -/
noncomputable def f74r3 : K2 :=
  .mv (tO 9) (some (sOf 18)) <|
  .mv (tO 1) (some (sOf 19)) <|
  .p2 (binF .gtr (evBin look .gtr 3 (.tmp 18) (.tmp 19))) (tO 18) (tO 19) (some (sOf 20)) <|
  .mv (tO 20) (some (sOf 21)) <|
  .gd (sOf 21) true (some (sOf 22)) (.mv (tO 3) (some (sOf 22)) <|
  f74r3_4) f74r3_4
/- zsortanyfunc.go:13 -/
noncomputable def f74r4 : K2 :=
  .mv (tO 0) (some (sOf 37)) <|
  .mv (tO 9) (some (sOf 38)) <|
  .mv (tO 0) (some (sOf 39)) <|
  .mv (tO 9) (some (sOf 40)) <|
  .p2 (binF .sub (evBin look .sub 3 (.tmp 40) (.const (.int .i64 (1))))) (tO 40) (.con (.int .i64 (1))) (some (sOf 41)) <|
  .mv (tO 0) (some (sOf 42)) <|
  .mv (tO 9) (some (sOf 43)) <|
  .p2 (binF .sub (evBin look .sub 3 (.tmp 43) (.const (.int .i64 (1))))) (tO 43) (.con (.int .i64 (1))) (some (sOf 44)) <|
  .p2 (ixS 2) (tO 42) (tO 44) (some (sOf 45)) <|
  .r1 (ldN 2) (tO 45) (some (sOf 46)) <|
  .mv (tO 0) (some (sOf 47)) <|
  .mv (tO 9) (some (sOf 48)) <|
  .p2 (ixS 2) (tO 47) (tO 48) (some (sOf 49)) <|
  .r1 (ldN 2) (tO 49) (some (sOf 50)) <|
  .p2 (ixS 2) (tO 37) (tO 38) (some (sOf 51)) <|
  .st false (stN 2) (tO 51) (tO 46) none <|
  .p2 (ixS 2) (tO 39) (tO 41) (some (sOf 52)) <|
  .st false (stN 2) (tO 52) (tO 50) none <|
  .done
/- zsortanyfunc.go:12 -/
noncomputable def f74r5 : K2 :=
  .mv (tO 9) (some (sOf 35)) <|
  .p2 (binF .sub (evBin look .sub 3 (.tmp 35) (.const (.int .i64 (1))))) (tO 35) (.con (.int .i64 (1))) (some (sOf 36)) <|
  .mv (tO 36) (some (sOf 9)) <|
  .done
noncomputable def f74l1 : C2 := (.seq (.seq (.reg f74r3)
  (.cond (tO 34) .skip (.exit 2)))
  (.seq (.block 3 (.reg f74r4))
  (.reg f74r5)))
noncomputable def f74b1 : Code := lpN f74body 1
theorem f74l1_eq : comp look f74b1 = f74l1 := by kernel_rfl
/- zsortanyfunc.go:11 -/
noncomputable def f74r6 : K2 :=
  .mv (tO 8) (some (sOf 15)) <|
  .p2 (binF .add (evBin look .add 3 (.tmp 15) (.const (.int .i64 (1))))) (tO 15) (.con (.int .i64 (1))) (some (sOf 16)) <|
  .mv (tO 16) (some (sOf 8)) <|
  .done
noncomputable def f74l0 : C2 := (.seq (.seq (.reg f74r1)
  (.cond (tO 14) .skip (.exit 0)))
  (.seq (.block 1 (.seq (.reg f74r2)
  (.block 2 (.loop f74b1))))
  (.reg f74r6)))
noncomputable def f74b0 : Code := lpN f74body 0
theorem f74l0_eq : comp look f74b0 = f74l0 := by kernel_rfl
noncomputable def f74c : C2 := (.seq (.reg f74r0)
  (.block 0 (.loop f74b0)))
theorem f74_eq : fnF look 74 = some ⟨53, f74c, []⟩ := by kernel_rfl

/-! slices.symMergeCmpFunc[caulker/extent.edge]: parameters [63, 3, 3, 3, 70], temporaries 220 -/
noncomputable def f75body : Code := bodyN look 75
/- zsortanyfunc.go:382 -/
noncomputable def f75r0 : K2 :=
  .mv (tO 2) (some (sOf 25)) <|
  .mv (tO 1) (some (sOf 26)) <|
  .p2 (binF .sub (evBin look .sub 3 (.tmp 25) (.tmp 26))) (tO 25) (tO 26) (some (sOf 27)) <|
  .p2 (binF .eql (evBin look .eql 3 (.tmp 27) (.const (.int .i64 (1))))) (tO 27) (.con (.int .i64 (1))) (some (sOf 28)) <|
  .done
/- zsortanyfunc.go:386 -/
noncomputable def f75r1 : K2 :=
  .mv (tO 2) (some (sOf 29)) <|
  .mv (tO 29) (some (sOf 10)) <|
  .done
/- zsortanyfunc.go:387 -/
noncomputable def f75r2 : K2 :=
  .mv (tO 3) (some (sOf 30)) <|
  .mv (tO 30) (some (sOf 11)) <|
  .done
/- zsortanyfunc.go:388 -/
noncomputable def f75r3 : K2 :=
  .mv (tO 10) (some (sOf 31)) <|
  .mv (tO 11) (some (sOf 32)) <|
  .p2 (binF .lss (evBin look .lss 3 (.tmp 31) (.tmp 32))) (tO 31) (tO 32) (some (sOf 33)) <|
  .done
/- zsortanyfunc.go:389 -/
noncomputable def f75r4 : K2 :=
  .mv (tO 10) (some (sOf 34)) <|
  .mv (tO 11) (some (sOf 35)) <|
  .p2 (binF .add (evBin look .add 3 (.tmp 34) (.tmp 35))) (tO 34) (tO 35) (some (sOf 36)) <|
  .p1 (cvI .u64) (tO 36) (some (sOf 37)) <|
  .p2 (binF .shr (evBin look .shr 74 (.tmp 37) (.const (.int .u64 (1))))) (tO 37) (.con (.int .u64 (1))) (some (sOf 38)) <|
  .p1 (cvI .i64) (tO 38) (some (sOf 39)) <|
  .mv (tO 39) (some (sOf 12)) <|
  .done
/- zsortanyfunc.go:390 -/
noncomputable def f75r5 : K2 :=
  .mv (tO 4) (some (sOf 40)) <|
  .mv (tO 0) (some (sOf 41)) <|
  .mv (tO 12) (some (sOf 42)) <|
  .p2 (ixS 2) (tO 41) (tO 42) (some (sOf 43)) <|
  .r1 (ldN 2) (tO 43) (some (sOf 44)) <|
  .mv (tO 0) (some (sOf 45)) <|
  .mv (tO 1) (some (sOf 46)) <|
  .p2 (ixS 2) (tO 45) (tO 46) (some (sOf 47)) <|
  .r1 (ldN 2) (tO 47) (some (sOf 48)) <|
  .cn false (fun xs _ => evCallFn (hd xs) (tl xs)) [(tO 40), (tO 44), (tO 48)] (some (sOf 49)) <|
  .p2 (binF .lss (evBin look .lss 3 (.tmp 49) (.const (.int .i64 (0))))) (tO 49) (.con (.int .i64 (0))) (some (sOf 50)) <|
  .done
/- zsortanyfunc.go:391 -/
noncomputable def f75r6 : K2 :=
  .mv (tO 12) (some (sOf 51)) <|
  .p2 (binF .add (evBin look .add 3 (.tmp 51) (.const (.int .i64 (1))))) (tO 51) (.con (.int .i64 (1))) (some (sOf 52)) <|
  .mv (tO 52) (some (sOf 10)) <|
  .done
/- zsortanyfunc.go:393 -/
noncomputable def f75r7 : K2 :=
  .mv (tO 12) (some (sOf 53)) <|
  .mv (tO 53) (some (sOf 11)) <|
  .done
noncomputable def f75l0 : C2 := (.seq (.seq (.reg f75r3)
  (.cond (tO 33) .skip (.exit 0)))
  (.block 1 (.seq (.reg f75r4)
  (.seq (.reg f75r5)
  (.cond (tO 50) (.reg f75r6) (.reg f75r7))))))
noncomputable def f75b0 : Code := lpN f75body 0
theorem f75l0_eq : comp look f75b0 = f75l0 := by kernel_rfl
/- zsortanyfunc.go:397 -/
noncomputable def f75r8 : K2 :=
  .mv (tO 1) (some (sOf 54)) <|
  .mv (tO 54) (some (sOf 13)) <|
  .done
/- zsortanyfunc.go:397 -/
noncomputable def f75r9 : K2 :=
  .mv (tO 13) (some (sOf 55)) <|
  .mv (tO 10) (some (sOf 56)) <|
  .p2 (binF .sub (evBin look .sub 3 (.tmp 56) (.const (.int .i64 (1))))) (tO 56) (.con (.int .i64 (1))) (some (sOf 57)) <|
  .p2 (binF .lss (evBin look .lss 3 (.tmp 55) (.tmp 57))) (tO 55) (tO 57) (some (sOf 58)) <|
  .done
/- zsortanyfunc.go:398 -/
noncomputable def f75r10 : K2 :=
  .mv (tO 0) (some (sOf 61)) <|
  .mv (tO 13) (some (sOf 62)) <|
  .mv (tO 0) (some (sOf 63)) <|
  .mv (tO 13) (some (sOf 64)) <|
  .p2 (binF .add (evBin look .add 3 (.tmp 64) (.const (.int .i64 (1))))) (tO 64) (.con (.int .i64 (1))) (some (sOf 65)) <|
  .mv (tO 0) (some (sOf 66)) <|
  .mv (tO 13) (some (sOf 67)) <|
  .p2 (binF .add (evBin look .add 3 (.tmp 67) (.const (.int .i64 (1))))) (tO 67) (.con (.int .i64 (1))) (some (sOf 68)) <|
  .p2 (ixS 2) (tO 66) (tO 68) (some (sOf 69)) <|
  .r1 (ldN 2) (tO 69) (some (sOf 70)) <|
  .mv (tO 0) (some (sOf 71)) <|
  .mv (tO 13) (some (sOf 72)) <|
  .p2 (ixS 2) (tO 71) (tO 72) (some (sOf 73)) <|
  .r1 (ldN 2) (tO 73) (some (sOf 74)) <|
  .p2 (ixS 2) (tO 61) (tO 62) (some (sOf 75)) <|
  .st false (stN 2) (tO 75) (tO 70) none <|
  .p2 (ixS 2) (tO 63) (tO 65) (some (sOf 76)) <|
  .st false (stN 2) (tO 76) (tO 74) none <|
  .done
/- zsortanyfunc.go:397 -/
noncomputable def f75r11 : K2 :=
  .mv (tO 13) (some (sOf 59)) <|
  .p2 (binF .add (evBin look .add 3 (.tmp 59) (.const (.int .i64 (1))))) (tO 59) (.con (.int .i64 (1))) (some (sOf 60)) <|
  .mv (tO 60) (some (sOf 13)) <|
  .done
noncomputable def f75l1 : C2 := (.seq (.seq (.reg f75r9)
  (.cond (tO 58) .skip (.exit 2)))
  (.seq (.block 3 (.reg f75r10))
  (.reg f75r11)))
noncomputable def f75b1 : Code := lpN f75body 1
theorem f75l1_eq : comp look f75b1 = f75l1 := by kernel_rfl
/- zsortanyfunc.go:406 -/
noncomputable def f75r12 : K2 :=
  .mv (tO 3) (some (sOf 77)) <|
  .mv (tO 2) (some (sOf 78)) <|
  .p2 (binF .sub (evBin look .sub 3 (.tmp 77) (.tmp 78))) (tO 77) (tO 78) (some (sOf 79)) <|
  .p2 (binF .eql (evBin look .eql 3 (.tmp 79) (.const (.int .i64 (1))))) (tO 79) (.con (.int .i64 (1))) (some (sOf 80)) <|
  .done
/- zsortanyfunc.go:410 -/
noncomputable def f75r13 : K2 :=
  .mv (tO 1) (some (sOf 81)) <|
  .mv (tO 81) (some (sOf 14)) <|
  .done
/- zsortanyfunc.go:411 -/
noncomputable def f75r14 : K2 :=
  .mv (tO 2) (some (sOf 82)) <|
  .mv (tO 82) (some (sOf 15)) <|
  .done
/- zsortanyfunc.go:412 -/
noncomputable def f75r15 : K2 :=
  .mv (tO 14) (some (sOf 83)) <|
  .mv (tO 15) (some (sOf 84)) <|
  .p2 (binF .lss (evBin look .lss 3 (.tmp 83) (.tmp 84))) (tO 83) (tO 84) (some (sOf 85)) <|
  .done
/- zsortanyfunc.go:413 -/
noncomputable def f75r16 : K2 :=
  .mv (tO 14) (some (sOf 86)) <|
  .mv (tO 15) (some (sOf 87)) <|
  .p2 (binF .add (evBin look .add 3 (.tmp 86) (.tmp 87))) (tO 86) (tO 87) (some (sOf 88)) <|
  .p1 (cvI .u64) (tO 88) (some (sOf 89)) <|
  .p2 (binF .shr (evBin look .shr 74 (.tmp 89) (.const (.int .u64 (1))))) (tO 89) (.con (.int .u64 (1))) (some (sOf 90)) <|
  .p1 (cvI .i64) (tO 90) (some (sOf 91)) <|
  .mv (tO 91) (some (sOf 16)) <|
  .done
/- zsortanyfunc.go:414 -/
noncomputable def f75r17 : K2 :=
  .mv (tO 4) (some (sOf 92)) <|
  .mv (tO 0) (some (sOf 93)) <|
  .mv (tO 2) (some (sOf 94)) <|
  .p2 (ixS 2) (tO 93) (tO 94) (some (sOf 95)) <|
  .r1 (ldN 2) (tO 95) (some (sOf 96)) <|
  .mv (tO 0) (some (sOf 97)) <|
  .mv (tO 16) (some (sOf 98)) <|
  .p2 (ixS 2) (tO 97) (tO 98) (some (sOf 99)) <|
  .r1 (ldN 2) (tO 99) (some (sOf 100)) <|
  .cn false (fun xs _ => evCallFn (hd xs) (tl xs)) [(tO 92), (tO 96), (tO 100)] (some (sOf 101)) <|
  .p2 (binF .lss (evBin look .lss 3 (.tmp 101) (.const (.int .i64 (0))))) (tO 101) (.con (.int .i64 (0))) (some (sOf 102)) <|
  .p1 notF (tO 102) (some (sOf 103)) <|
  .done
/- zsortanyfunc.go:415 -/
noncomputable def f75r18 : K2 :=
  .mv (tO 16) (some (sOf 104)) <|
  .p2 (binF .add (evBin look .add 3 (.tmp 104) (.const (.int .i64 (1))))) (tO 104) (.con (.int .i64 (1))) (some (sOf 105)) <|
  .mv (tO 105) (some (sOf 14)) <|
  .done
/- zsortanyfunc.go:417 -/
noncomputable def f75r19 : K2 :=
  .mv (tO 16) (some (sOf 106)) <|
  .mv (tO 106) (some (sOf 15)) <|
  .done
noncomputable def f75l2 : C2 := (.seq (.seq (.reg f75r15)
  (.cond (tO 85) .skip (.exit 4)))
  (.block 5 (.seq (.reg f75r16)
  (.seq (.reg f75r17)
  (.cond (tO 103) (.reg f75r18) (.reg f75r19))))))
noncomputable def f75b2 : Code := lpN f75body 2
theorem f75l2_eq : comp look f75b2 = f75l2 := by kernel_rfl
/- zsortanyfunc.go:421 -/
noncomputable def f75r20 : K2 :=
  .mv (tO 2) (some (sOf 107)) <|
  .mv (tO 107) (some (sOf 17)) <|
  .done
/- zsortanyfunc.go:421 -/
noncomputable def f75r21 : K2 :=
  .mv (tO 17) (some (sOf 108)) <|
  .mv (tO 14) (some (sOf 109)) <|
  .p2 (binF .gtr (evBin look .gtr 3 (.tmp 108) (.tmp 109))) (tO 108) (tO 109) (some (sOf 110)) <|
  .done
/- zsortanyfunc.go:422 -/
noncomputable def f75r22 : K2 :=
  .mv (tO 0) (some (sOf 113)) <|
  .mv (tO 17) (some (sOf 114)) <|
  .mv (tO 0) (some (sOf 115)) <|
  .mv (tO 17) (some (sOf 116)) <|
  .p2 (binF .sub (evBin look .sub 3 (.tmp 116) (.const (.int .i64 (1))))) (tO 116) (.con (.int .i64 (1))) (some (sOf 117)) <|
  .mv (tO 0) (some (sOf 118)) <|
  .mv (tO 17) (some (sOf 119)) <|
  .p2 (binF .sub (evBin look .sub 3 (.tmp 119) (.const (.int .i64 (1))))) (tO 119) (.con (.int .i64 (1))) (some (sOf 120)) <|
  .p2 (ixS 2) (tO 118) (tO 120) (some (sOf 121)) <|
  .r1 (ldN 2) (tO 121) (some (sOf 122)) <|
  .mv (tO 0) (some (sOf 123)) <|
  .mv (tO 17) (some (sOf 124)) <|
  .p2 (ixS 2) (tO 123) (tO 124) (some (sOf 125)) <|
  .r1 (ldN 2) (tO 125) (some (sOf 126)) <|
  .p2 (ixS 2) (tO 113) (tO 114) (some (sOf 127)) <|
  .st false (stN 2) (tO 127) (tO 122) none <|
  .p2 (ixS 2) (tO 115) (tO 117) (some (sOf 128)) <|
  .st false (stN 2) (tO 128) (tO 126) none <|
  .done
/- zsortanyfunc.go:421 -/
noncomputable def f75r23 : K2 :=
  .mv (tO 17) (some (sOf 111)) <|
  .p2 (binF .sub (evBin look .sub 3 (.tmp 111) (.const (.int .i64 (1))))) (tO 111) (.con (.int .i64 (1))) (some (sOf 112)) <|
  .mv (tO 112) (some (sOf 17)) <|
  .done
noncomputable def f75l3 : C2 := (.seq (.seq (.reg f75r21)
  (.cond (tO 110) .skip (.exit 6)))
  (.seq (.block 7 (.reg f75r22))
  (.reg f75r23)))
noncomputable def f75b3 : Code := lpN f75body 3
theorem f75l3_eq : comp look f75b3 = f75l3 := by kernel_rfl
/- zsortanyfunc.go:427 -/
noncomputable def f75r24 : K2 :=
  .mv (tO 1) (some (sOf 129)) <|
  .mv (tO 3) (some (sOf 130)) <|
  .p2 (binF .add (evBin look .add 3 (.tmp 129) (.tmp 130))) (tO 129) (tO 130) (some (sOf 131)) <|
  .p1 (cvI .u64) (tO 131) (some (sOf 132)) <|
  .p2 (binF .shr (evBin look .shr 74 (.tmp 132) (.const (.int .u64 (1))))) (tO 132) (.con (.int .u64 (1))) (some (sOf 133)) <|
  .p1 (cvI .i64) (tO 133) (some (sOf 134)) <|
  .mv (tO 134) (some (sOf 18)) <|
  .done
/- zsortanyfunc.go:428 -/
noncomputable def f75r25 : K2 :=
  .mv (tO 18) (some (sOf 135)) <|
  .mv (tO 2) (some (sOf 136)) <|
  .p2 (binF .add (evBin look .add 3 (.tmp 135) (.tmp 136))) (tO 135) (tO 136) (some (sOf 137)) <|
  .mv (tO 137) (some (sOf 19)) <|
  .done
/- zsortanyfunc.go:429 -/
noncomputable def f75r26 : K2 :=
  .mv (.con (.int .i64 (0))) (some (sOf 20)) <|
  .mv (.con (.int .i64 (0))) (some (sOf 21)) <|
  .done
/- zsortanyfunc.go:430 -/
noncomputable def f75r27 : K2 :=
  .mv (tO 2) (some (sOf 138)) <|
  .mv (tO 18) (some (sOf 139)) <|
  .p2 (binF .gtr (evBin look .gtr 3 (.tmp 138) (.tmp 139))) (tO 138) (tO 139) (some (sOf 140)) <|
  .done
/- zsortanyfunc.go:431 -/
noncomputable def f75r28 : K2 :=
  .mv (tO 19) (some (sOf 141)) <|
  .mv (tO 3) (some (sOf 142)) <|
  .p2 (binF .sub (evBin look .sub 3 (.tmp 141) (.tmp 142))) (tO 141) (tO 142) (some (sOf 143)) <|
  .mv (tO 143) (some (sOf 20)) <|
  .done
/- zsortanyfunc.go:432 -/
noncomputable def f75r29 : K2 :=
  .mv (tO 18) (some (sOf 144)) <|
  .mv (tO 144) (some (sOf 21)) <|
  .done
/- zsortanyfunc.go:434 -/
noncomputable def f75r30 : K2 :=
  .mv (tO 1) (some (sOf 145)) <|
  .mv (tO 145) (some (sOf 20)) <|
  .done
/- zsortanyfunc.go:435 -/
noncomputable def f75r31 : K2 :=
  .mv (tO 2) (some (sOf 146)) <|
  .mv (tO 146) (some (sOf 21)) <|
  .done
/- zsortanyfunc.go:437 -/
noncomputable def f75r32 : K2 :=
  .mv (tO 19) (some (sOf 147)) <|
  .p2 (binF .sub (evBin look .sub 3 (.tmp 147) (.const (.int .i64 (1))))) (tO 147) (.con (.int .i64 (1))) (some (sOf 148)) <|
  .mv (tO 148) (some (sOf 22)) <|
  .done
/- zsortanyfunc.go:439 -/
noncomputable def f75r33 : K2 :=
  .mv (tO 20) (some (sOf 149)) <|
  .mv (tO 21) (some (sOf 150)) <|
  .p2 (binF .lss (evBin look .lss 3 (.tmp 149) (.tmp 150))) (tO 149) (tO 150) (some (sOf 151)) <|
  .done
/- zsortanyfunc.go:440 -/
noncomputable def f75r34 : K2 :=
  .mv (tO 20) (some (sOf 152)) <|
  .mv (tO 21) (some (sOf 153)) <|
  .p2 (binF .add (evBin look .add 3 (.tmp 152) (.tmp 153))) (tO 152) (tO 153) (some (sOf 154)) <|
  .p1 (cvI .u64) (tO 154) (some (sOf 155)) <|
  .p2 (binF .shr (evBin look .shr 74 (.tmp 155) (.const (.int .u64 (1))))) (tO 155) (.con (.int .u64 (1))) (some (sOf 156)) <|
  .p1 (cvI .i64) (tO 156) (some (sOf 157)) <|
  .mv (tO 157) (some (sOf 23)) <|
  .done
/- zsortanyfunc.go:441 -/
noncomputable def f75r35 : K2 :=
  .mv (tO 4) (some (sOf 158)) <|
  .mv (tO 0) (some (sOf 159)) <|
  .mv (tO 22) (some (sOf 160)) <|
  .mv (tO 23) (some (sOf 161)) <|
  .p2 (binF .sub (evBin look .sub 3 (.tmp 160) (.tmp 161))) (tO 160) (tO 161) (some (sOf 162)) <|
  .p2 (ixS 2) (tO 159) (tO 162) (some (sOf 163)) <|
  .r1 (ldN 2) (tO 163) (some (sOf 164)) <|
  .mv (tO 0) (some (sOf 165)) <|
  .mv (tO 23) (some (sOf 166)) <|
  .p2 (ixS 2) (tO 165) (tO 166) (some (sOf 167)) <|
  .r1 (ldN 2) (tO 167) (some (sOf 168)) <|
  .cn false (fun xs _ => evCallFn (hd xs) (tl xs)) [(tO 158), (tO 164), (tO 168)] (some (sOf 169)) <|
  .p2 (binF .lss (evBin look .lss 3 (.tmp 169) (.const (.int .i64 (0))))) (tO 169) (.con (.int .i64 (0))) (some (sOf 170)) <|
  .p1 notF (tO 170) (some (sOf 171)) <|
  .done
/- zsortanyfunc.go:442 -/
noncomputable def f75r36 : K2 :=
  .mv (tO 23) (some (sOf 172)) <|
  .p2 (binF .add (evBin look .add 3 (.tmp 172) (.const (.int .i64 (1))))) (tO 172) (.con (.int .i64 (1))) (some (sOf 173)) <|
  .mv (tO 173) (some (sOf 20)) <|
  .done
/- zsortanyfunc.go:444 -/
noncomputable def f75r37 : K2 :=
  .mv (tO 23) (some (sOf 174)) <|
  .mv (tO 174) (some (sOf 21)) <|
  .done
noncomputable def f75l4 : C2 := (.seq (.seq (.reg f75r33)
  (.cond (tO 151) .skip (.exit 8)))
  (.block 9 (.seq (.reg f75r34)
  (.seq (.reg f75r35)
  (.cond (tO 171) (.reg f75r36) (.reg f75r37))))))
noncomputable def f75b4 : Code := lpN f75body 4
theorem f75l4_eq : comp look f75b4 = f75l4 := by kernel_rfl
/- zsortanyfunc.go:448 -/
noncomputable def f75r38 : K2 :=
  .mv (tO 19) (some (sOf 175)) <|
  .mv (tO 20) (some (sOf 176)) <|
  .p2 (binF .sub (evBin look .sub 3 (.tmp 175) (.tmp 176))) (tO 175) (tO 176) (some (sOf 177)) <|
  .mv (tO 177) (some (sOf 24)) <|
  .done
noncomputable def f75r39_6 : K2 := .ln (fun xs _ => pickF xs) [(tO 181), (tO 184), (.con (.bool false))] (some (sOf 185)) <|
  .done
noncomputable def f75r39_5 : K2 := .gd (sOf 181) true (some (sOf 184)) (.p2 (binF .lss (evBin look .lss 3 (.tmp 182) (.tmp 183))) (tO 182) (tO 183) (some (sOf 184)) <|
  f75r39_6) f75r39_6
noncomputable def f75r39_4 : K2 := .gd (sOf 181) true (some (sOf 183)) (.mv (tO 24) (some (sOf 183)) <|
  f75r39_5) f75r39_5
/- zsortanyfunc.go:449 -/
noncomputable def f75r39 : K2 :=
  .mv (tO 20) (some (sOf 178)) <|
  .mv (tO 2) (some (sOf 179)) <|
  .p2 (binF .lss (evBin look .lss 3 (.tmp 178) (.tmp 179))) (tO 178) (tO 179) (some (sOf 180)) <|
  .mv (tO 180) (some (sOf 181)) <|
  .gd (sOf 181) true (some (sOf 182)) (.mv (tO 2) (some (sOf 182)) <|
  f75r39_4) f75r39_4
/- zsortanyfunc.go:450 -/
noncomputable def f75r40 : K2 :=
  .mv (tO 0) (some (sOf 186)) <|
  .mv (tO 20) (some (sOf 187)) <|
  .mv (tO 2) (some (sOf 188)) <|
  .mv (tO 24) (some (sOf 189)) <|
  .mv (tO 4) (some (sOf 190)) <|
  .cl false 82 [(tO 186), (tO 187), (tO 188), (tO 189), (tO 190)] (some (sOf 191)) <|
  .done
noncomputable def f75r41_6 : K2 := .ln (fun xs _ => pickF xs) [(tO 195), (tO 198), (.con (.bool false))] (some (sOf 199)) <|
  .done
noncomputable def f75r41_5 : K2 := .gd (sOf 195) true (some (sOf 198)) (.p2 (binF .lss (evBin look .lss 3 (.tmp 196) (.tmp 197))) (tO 196) (tO 197) (some (sOf 198)) <|
  f75r41_6) f75r41_6
noncomputable def f75r41_4 : K2 := .gd (sOf 195) true (some (sOf 197)) (.mv (tO 18) (some (sOf 197)) <|
  f75r41_5) f75r41_5
/- zsortanyfunc.go:452 -/
noncomputable def f75r41 : K2 :=
  .mv (tO 1) (some (sOf 192)) <|
  .mv (tO 20) (some (sOf 193)) <|
  .p2 (binF .lss (evBin look .lss 3 (.tmp 192) (.tmp 193))) (tO 192) (tO 193) (some (sOf 194)) <|
  .mv (tO 194) (some (sOf 195)) <|
  .gd (sOf 195) true (some (sOf 196)) (.mv (tO 20) (some (sOf 196)) <|
  f75r41_4) f75r41_4
/- zsortanyfunc.go:453 -/
noncomputable def f75r42 : K2 :=
  .mv (tO 0) (some (sOf 200)) <|
  .mv (tO 1) (some (sOf 201)) <|
  .mv (tO 20) (some (sOf 202)) <|
  .mv (tO 18) (some (sOf 203)) <|
  .mv (tO 4) (some (sOf 204)) <|
  .cl false 75 [(tO 200), (tO 201), (tO 202), (tO 203), (tO 204)] (some (sOf 205)) <|
  .done
noncomputable def f75r43_6 : K2 := .ln (fun xs _ => pickF xs) [(tO 209), (tO 212), (.con (.bool false))] (some (sOf 213)) <|
  .done
noncomputable def f75r43_5 : K2 := .gd (sOf 209) true (some (sOf 212)) (.p2 (binF .lss (evBin look .lss 3 (.tmp 210) (.tmp 211))) (tO 210) (tO 211) (some (sOf 212)) <|
  f75r43_6) f75r43_6
noncomputable def f75r43_4 : K2 := .gd (sOf 209) true (some (sOf 211)) (.mv (tO 3) (some (sOf 211)) <|
  f75r43_5) f75r43_5
/- zsortanyfunc.go:455 -/
noncomputable def f75r43 : K2 :=
  .mv (tO 18) (some (sOf 206)) <|
  .mv (tO 24) (some (sOf 207)) <|
  .p2 (binF .lss (evBin look .lss 3 (.tmp 206) (.tmp 207))) (tO 206) (tO 207) (some (sOf 208)) <|
  .mv (tO 208) (some (sOf 209)) <|
  .gd (sOf 209) true (some (sOf 210)) (.mv (tO 24) (some (sOf 210)) <|
  f75r43_4) f75r43_4
/- zsortanyfunc.go:456 -/
noncomputable def f75r44 : K2 :=
  .mv (tO 0) (some (sOf 214)) <|
  .mv (tO 18) (some (sOf 215)) <|
  .mv (tO 24) (some (sOf 216)) <|
  .mv (tO 3) (some (sOf 217)) <|
  .mv (tO 4) (some (sOf 218)) <|
  .cl false 75 [(tO 214), (tO 215), (tO 216), (tO 217), (tO 218)] (some (sOf 219)) <|
  .done
noncomputable def f75c : C2 := (.seq (.seq (.reg f75r0)
  (.cond (tO 28) (.seq (.reg f75r1)
  (.seq (.reg f75r2)
  (.seq (.block 0 (.loop f75b0))
  (.seq (.seq (.reg f75r8)
  (.block 2 (.loop f75b1)))
  .ret)))) .skip))
  (.seq (.seq (.reg f75r12)
  (.cond (tO 80) (.seq (.reg f75r13)
  (.seq (.reg f75r14)
  (.seq (.block 4 (.loop f75b2))
  (.seq (.seq (.reg f75r20)
  (.block 6 (.loop f75b3)))
  .ret)))) .skip))
  (.seq (.reg f75r24)
  (.seq (.reg f75r25)
  (.seq (.reg f75r26)
  (.seq (.seq (.reg f75r27)
  (.cond (tO 140) (.seq (.reg f75r28)
  (.reg f75r29)) (.seq (.reg f75r30)
  (.reg f75r31))))
  (.seq (.reg f75r32)
  (.seq (.block 8 (.loop f75b4))
  (.seq (.reg f75r38)
  (.seq (.seq (.reg f75r39)
  (.cond (tO 185) (.reg f75r40) .skip))
  (.seq (.seq (.reg f75r41)
  (.cond (tO 199) (.reg f75r42) .skip))
  (.seq (.reg f75r43)
  (.cond (tO 213) (.reg f75r44) .skip)))))))))))))
theorem f75_eq : fnF look 75 = some ⟨220, f75c, []⟩ := by kernel_rfl

/-! slices.rotateCmpFunc[caulker/extent.edge]: parameters [63, 3, 3, 3, 70], temporaries 58 -/
noncomputable def f82body : Code := bodyN look 82
/- zsortanyfunc.go:465 -/
noncomputable def f82r0 : K2 :=
  .mv (tO 2) (some (sOf 12)) <|
  .mv (tO 1) (some (sOf 13)) <|
  .p2 (binF .sub (evBin look .sub 3 (.tmp 12) (.tmp 13))) (tO 12) (tO 13) (some (sOf 14)) <|
  .mv (tO 14) (some (sOf 10)) <|
  .done
/- zsortanyfunc.go:466 -/
noncomputable def f82r1 : K2 :=
  .mv (tO 3) (some (sOf 15)) <|
  .mv (tO 2) (some (sOf 16)) <|
  .p2 (binF .sub (evBin look .sub 3 (.tmp 15) (.tmp 16))) (tO 15) (tO 16) (some (sOf 17)) <|
  .mv (tO 17) (some (sOf 11)) <|
  .done
/- zsortanyfunc.go:468 -/
noncomputable def f82r2 : K2 :=
  .mv (tO 10) (some (sOf 18)) <|
  .mv (tO 11) (some (sOf 19)) <|
  .p2 (binF .neq (evBin look .neq 3 (.tmp 18) (.tmp 19))) (tO 18) (tO 19) (some (sOf 20)) <|
  .done
/- zsortanyfunc.go:469 -/
noncomputable def f82r3 : K2 :=
  .mv (tO 10) (some (sOf 21)) <|
  .mv (tO 11) (some (sOf 22)) <|
  .p2 (binF .gtr (evBin look .gtr 3 (.tmp 21) (.tmp 22))) (tO 21) (tO 22) (some (sOf 23)) <|
  .done
/- zsortanyfunc.go:470 -/
noncomputable def f82r4 : K2 :=
  .mv (tO 0) (some (sOf 24)) <|
  .mv (tO 2) (some (sOf 25)) <|
  .mv (tO 10) (some (sOf 26)) <|
  .p2 (binF .sub (evBin look .sub 3 (.tmp 25) (.tmp 26))) (tO 25) (tO 26) (some (sOf 27)) <|
  .mv (tO 2) (some (sOf 28)) <|
  .mv (tO 11) (some (sOf 29)) <|
  .mv (tO 4) (some (sOf 30)) <|
  .cl false 84 [(tO 24), (tO 27), (tO 28), (tO 29), (tO 30)] (some (sOf 31)) <|
  .done
/- zsortanyfunc.go:471 -/
noncomputable def f82r5 : K2 :=
  .mv (tO 10) (some (sOf 32)) <|
  .mv (tO 11) (some (sOf 33)) <|
  .p2 (binF .sub (evBin look .sub 3 (.tmp 32) (.tmp 33))) (tO 32) (tO 33) (some (sOf 34)) <|
  .mv (tO 34) (some (sOf 10)) <|
  .done
/- zsortanyfunc.go:473 -/
noncomputable def f82r6 : K2 :=
  .mv (tO 0) (some (sOf 35)) <|
  .mv (tO 2) (some (sOf 36)) <|
  .mv (tO 10) (some (sOf 37)) <|
  .p2 (binF .sub (evBin look .sub 3 (.tmp 36) (.tmp 37))) (tO 36) (tO 37) (some (sOf 38)) <|
  .mv (tO 2) (some (sOf 39)) <|
  .mv (tO 11) (some (sOf 40)) <|
  .p2 (binF .add (evBin look .add 3 (.tmp 39) (.tmp 40))) (tO 39) (tO 40) (some (sOf 41)) <|
  .mv (tO 10) (some (sOf 42)) <|
  .p2 (binF .sub (evBin look .sub 3 (.tmp 41) (.tmp 42))) (tO 41) (tO 42) (some (sOf 43)) <|
  .mv (tO 10) (some (sOf 44)) <|
  .mv (tO 4) (some (sOf 45)) <|
  .cl false 84 [(tO 35), (tO 38), (tO 43), (tO 44), (tO 45)] (some (sOf 46)) <|
  .done
/- zsortanyfunc.go:474 -/
noncomputable def f82r7 : K2 :=
  .mv (tO 11) (some (sOf 47)) <|
  .mv (tO 10) (some (sOf 48)) <|
  .p2 (binF .sub (evBin look .sub 3 (.tmp 47) (.tmp 48))) (tO 47) (tO 48) (some (sOf 49)) <|
  .mv (tO 49) (some (sOf 11)) <|
  .done
noncomputable def f82l0 : C2 := (.seq (.seq (.reg f82r2)
  (.cond (tO 20) .skip (.exit 0)))
  (.block 1 (.seq (.reg f82r3)
  (.cond (tO 23) (.seq (.reg f82r4)
  (.reg f82r5)) (.seq (.reg f82r6)
  (.reg f82r7))))))
noncomputable def f82b0 : Code := lpN f82body 0
theorem f82l0_eq : comp look f82b0 = f82l0 := by kernel_rfl
/- zsortanyfunc.go:478 -/
noncomputable def f82r8 : K2 :=
  .mv (tO 0) (some (sOf 50)) <|
  .mv (tO 2) (some (sOf 51)) <|
  .mv (tO 10) (some (sOf 52)) <|
  .p2 (binF .sub (evBin look .sub 3 (.tmp 51) (.tmp 52))) (tO 51) (tO 52) (some (sOf 53)) <|
  .mv (tO 2) (some (sOf 54)) <|
  .mv (tO 10) (some (sOf 55)) <|
  .mv (tO 4) (some (sOf 56)) <|
  .cl false 84 [(tO 50), (tO 53), (tO 54), (tO 55), (tO 56)] (some (sOf 57)) <|
  .done
noncomputable def f82c : C2 := (.seq (.reg f82r0)
  (.seq (.reg f82r1)
  (.seq (.block 0 (.loop f82b0))
  (.reg f82r8))))
theorem f82_eq : fnF look 82 = some ⟨58, f82c, []⟩ := by kernel_rfl

/-! slices.swapRangeCmpFunc[caulker/extent.edge]: parameters [63, 3, 3, 3, 70], temporaries 38 -/
noncomputable def f84body : Code := bodyN look 84
/- zsortanyfunc.go:330 -/
noncomputable def f84r0 : K2 :=
  .mv (.con (.int .i64 (0))) (some (sOf 10)) <|
  .done
/- zsortanyfunc.go:330 -/
noncomputable def f84r1 : K2 :=
  .mv (tO 10) (some (sOf 11)) <|
  .mv (tO 3) (some (sOf 12)) <|
  .p2 (binF .lss (evBin look .lss 3 (.tmp 11) (.tmp 12))) (tO 11) (tO 12) (some (sOf 13)) <|
  .done
/- zsortanyfunc.go:331 -/
noncomputable def f84r2 : K2 :=
  .mv (tO 0) (some (sOf 16)) <|
  .mv (tO 1) (some (sOf 17)) <|
  .mv (tO 10) (some (sOf 18)) <|
  .p2 (binF .add (evBin look .add 3 (.tmp 17) (.tmp 18))) (tO 17) (tO 18) (some (sOf 19)) <|
  .mv (tO 0) (some (sOf 20)) <|
  .mv (tO 2) (some (sOf 21)) <|
  .mv (tO 10) (some (sOf 22)) <|
  .p2 (binF .add (evBin look .add 3 (.tmp 21) (.tmp 22))) (tO 21) (tO 22) (some (sOf 23)) <|
  .mv (tO 0) (some (sOf 24)) <|
  .mv (tO 2) (some (sOf 25)) <|
  .mv (tO 10) (some (sOf 26)) <|
  .p2 (binF .add (evBin look .add 3 (.tmp 25) (.tmp 26))) (tO 25) (tO 26) (some (sOf 27)) <|
  .p2 (ixS 2) (tO 24) (tO 27) (some (sOf 28)) <|
  .r1 (ldN 2) (tO 28) (some (sOf 29)) <|
  .mv (tO 0) (some (sOf 30)) <|
  .mv (tO 1) (some (sOf 31)) <|
  .mv (tO 10) (some (sOf 32)) <|
  .p2 (binF .add (evBin look .add 3 (.tmp 31) (.tmp 32))) (tO 31) (tO 32) (some (sOf 33)) <|
  .p2 (ixS 2) (tO 30) (tO 33) (some (sOf 34)) <|
  .r1 (ldN 2) (tO 34) (some (sOf 35)) <|
  .p2 (ixS 2) (tO 16) (tO 19) (some (sOf 36)) <|
  .st false (stN 2) (tO 36) (tO 29) none <|
  .p2 (ixS 2) (tO 20) (tO 23) (some (sOf 37)) <|
  .st false (stN 2) (tO 37) (tO 35) none <|
  .done
/- zsortanyfunc.go:330 -/
noncomputable def f84r3 : K2 :=
  .mv (tO 10) (some (sOf 14)) <|
  .p2 (binF .add (evBin look .add 3 (.tmp 14) (.const (.int .i64 (1))))) (tO 14) (.con (.int .i64 (1))) (some (sOf 15)) <|
  .mv (tO 15) (some (sOf 10)) <|
  .done
noncomputable def f84l0 : C2 := (.seq (.seq (.reg f84r1)
  (.cond (tO 13) .skip (.exit 0)))
  (.seq (.block 1 (.reg f84r2))
  (.reg f84r3)))
noncomputable def f84b0 : Code := lpN f84body 0
theorem f84l0_eq : comp look f84b0 = f84l0 := by kernel_rfl
noncomputable def f84c : C2 := (.seq (.reg f84r0)
  (.block 0 (.loop f84b0)))
theorem f84_eq : fnF look 84 = some ⟨38, f84c, []⟩ := by kernel_rfl

end Go.Proofs.Ytnkomaedmblemaa

set_option linter.unusedSimpArgs false
set_option linter.unusedVariables false
set_option maxRecDepth 100000
namespace Go.Proofs.Ytnkomaedmblemaa
open Go.Ev Exl
/-! caulker/extent.sweep: parameters [22, 22, 49], temporaries 64 -/
noncomputable def f40body : Code := bodyN look 40
/- extent.go:98 -/
noncomputable def f40r0 : K2 :=
  .mv (.con .nilSl) (some (sOf 6)) <|
  .mv (.con (.int .i64 (0))) (some (sOf 7)) <|
  .done
noncomputable def f40r1_6 : K2 := .ln (fun xs _ => pickF xs) [(tO 18), (.con (.bool true)), (tO 21)] (some (sOf 22)) <|
  .done
noncomputable def f40r1_5 : K2 := .gd (sOf 18) false (some (sOf 21)) (.p2 (binF .neq (evBin look .neq 25 (.tmp 20) (.const (.int .i64 (0))))) (tO 20) (.con (.int .i64 (0))) (some (sOf 21)) <|
  f40r1_6) f40r1_6
noncomputable def f40r1_4 : K2 := .gd (sOf 18) false (some (sOf 20)) (.cl false 22 [(tO 19)] (some (sOf 20)) <|
  f40r1_5) f40r1_5
/- extent.go:99 -/
noncomputable def f40r1 : K2 :=
  .mv (tO 0) (some (sOf 15)) <|
  .cl false 22 [(tO 15)] (some (sOf 16)) <|
  .p2 (binF .neq (evBin look .neq 25 (.tmp 16) (.const (.int .i64 (0))))) (tO 16) (.con (.int .i64 (0))) (some (sOf 17)) <|
  .mv (tO 17) (some (sOf 18)) <|
  .gd (sOf 18) false (some (sOf 19)) (.mv (tO 1) (some (sOf 19)) <|
  f40r1_4) f40r1_4
/- extent.go:100 -/
noncomputable def f40r2 : K2 :=
  .mv (.con .nilSl) (some (sOf 6)) <|
  .mv (.con (.int .i64 (2))) (some (sOf 7)) <|
  .done
/- extent.go:102 -/
noncomputable def f40r3 : K2 :=
  .cl false 50 [] (some (sOf 24)) <|
  .mv (tO 24) (some (sOf 23)) <|
  .p1 (exN 0) (tO 23) (some (sOf 25)) <|
  .p1 (exN 1) (tO 23) (some (sOf 26)) <|
  .mv (tO 25) (some (sOf 8)) <|
  .mv (tO 26) (some (sOf 9)) <|
  .done
/- extent.go:103 -/
noncomputable def f40r4 : K2 :=
  .mv (.con (.int .i64 (0))) (some (sOf 10)) <|
  .mv (.con (.bool false)) (some (sOf 11)) <|
  .mv (.con (.bool false)) (some (sOf 12)) <|
  .done
/- extent.go:104 -/
noncomputable def f40r5 : K2 :=
  .mv (tO 0) (some (sOf 27)) <|
  .mv (tO 1) (some (sOf 28)) <|
  .cl false 52 [(tO 27), (tO 28)] (some (sOf 29)) <|
  .ln (fun xs H => fstO (builtinF .len look [63] xs H)) [(tO 29)] (some (sOf 30)) <|
  .mv (.con (.int .i64 (0))) (some (sOf 31)) <|
  .done
/- extent.go:104 -/
noncomputable def f40r6 : K2 :=
  .p2 (binF .lss (evBin look .lss 3 (.tmp 31) (.tmp 30))) (tO 31) (tO 30) (some (sOf 32)) <|
  .done
/- extent.go:104 -/
noncomputable def f40r7 : K2 :=
  .p2 (ixS 2) (tO 29) (tO 31) (some (sOf 33)) <|
  .r1 (ldN 2) (tO 33) (some (sOf 34)) <|
  .al false (alF (AV.toC (.agg [(.int .i64 (0)), (.bool false)])) 66 2) (some (sOf 14)) <|
  .st false (stN 2) (tO 14) (tO 34) none <|
  .done
noncomputable def f40r8_8 : K2 := .ln (fun xs _ => pickF xs) [(tO 39), (tO 43), (.con (.bool false))] (some (sOf 44)) <|
  .done
noncomputable def f40r8_7 : K2 := .gd (sOf 39) true (some (sOf 43)) (.cn false (fun xs _ => evCallFn (hd xs) (tl xs)) [(tO 40), (tO 41), (tO 42)] (some (sOf 43)) <|
  f40r8_8) f40r8_8
noncomputable def f40r8_6 : K2 := .gd (sOf 39) true (some (sOf 42)) (.mv (tO 12) (some (sOf 42)) <|
  f40r8_7) f40r8_7
noncomputable def f40r8_5 : K2 := .gd (sOf 39) true (some (sOf 41)) (.mv (tO 11) (some (sOf 41)) <|
  f40r8_6) f40r8_6
/- extent.go:105 -/
noncomputable def f40r8 : K2 :=
  .p1 (fa 0) (tO 14) (some (sOf 35)) <|
  .r1 ld1 (tO 35) (some (sOf 36)) <|
  .mv (tO 10) (some (sOf 37)) <|
  .p2 (binF .gtr (evBin look .gtr 3 (.tmp 36) (.tmp 37))) (tO 36) (tO 37) (some (sOf 38)) <|
  .mv (tO 38) (some (sOf 39)) <|
  .gd (sOf 39) true (some (sOf 40)) (.mv (tO 2) (some (sOf 40)) <|
  f40r8_5) f40r8_5
/- extent.go:106 -/
noncomputable def f40r9 : K2 :=
  .mv (tO 9) (some (sOf 45)) <|
  .mv (tO 10) (some (sOf 46)) <|
  .p1 (fa 0) (tO 14) (some (sOf 47)) <|
  .r1 ld1 (tO 47) (some (sOf 48)) <|
  .mv (tO 10) (some (sOf 49)) <|
  .p2 (binF .sub (evBin look .sub 3 (.tmp 48) (.tmp 49))) (tO 48) (tO 49) (some (sOf 50)) <|
  .cn false (fun xs _ => evCallFn (hd xs) (tl xs)) [(tO 45), (tO 46), (tO 50)] (some (sOf 51)) <|
  .done
/- extent.go:108 -/
noncomputable def f40r10 : K2 :=
  .p1 (fa 0) (tO 14) (some (sOf 52)) <|
  .r1 ld1 (tO 52) (some (sOf 53)) <|
  .mv (tO 53) (some (sOf 10)) <|
  .done
/- extent.go:109 -/
noncomputable def f40r11 : K2 :=
  .p1 (fa 1) (tO 14) (some (sOf 54)) <|
  .r1 ld1 (tO 54) (some (sOf 55)) <|
  .done
/- extent.go:110 -/
noncomputable def f40r12 : K2 :=
  .mv (tO 12) (some (sOf 56)) <|
  .p1 notF (tO 56) (some (sOf 57)) <|
  .mv (tO 57) (some (sOf 12)) <|
  .done
/- extent.go:112 -/
noncomputable def f40r13 : K2 :=
  .mv (tO 11) (some (sOf 58)) <|
  .p1 notF (tO 58) (some (sOf 59)) <|
  .mv (tO 59) (some (sOf 11)) <|
  .done
/- extent.go:104 -/
noncomputable def f40r14 : K2 :=
  .p2 (binF .add (evBin look .add 3 (.tmp 31) (.const (.int .i64 (1))))) (tO 31) (.con (.int .i64 (1))) (some (sOf 60)) <|
  .mv (tO 60) (some (sOf 31)) <|
  .done
noncomputable def f40l0 : C2 := (.seq (.reg f40r6)
  (.seq (.cond (tO 32) .skip (.exit 0))
  (.seq (.block 1 (.seq (.reg f40r7)
  (.seq (.seq (.reg f40r8)
  (.cond (tO 44) (.reg f40r9) .skip))
  (.seq (.reg f40r10)
  (.seq (.reg f40r11)
  (.cond (tO 55) (.reg f40r12) (.reg f40r13)))))))
  (.reg f40r14))))
noncomputable def f40b0 : Code := lpN f40body 0
theorem f40l0_eq : comp look f40b0 = f40l0 := by kernel_rfl
/- extent.go:115 -/
noncomputable def f40r15 : K2 :=
  .mv (tO 8) (some (sOf 61)) <|
  .p1 nilF (tO 61) (some (sOf 62)) <|
  .r1 ld1 (tO 62) (some (sOf 63)) <|
  .mv (tO 63) (some (sOf 6)) <|
  .mv (.con (.int .i64 (0))) (some (sOf 7)) <|
  .done
noncomputable def f40c : C2 := (.seq (.reg f40r0)
  (.seq (.seq (.reg f40r1)
  (.cond (tO 22) (.seq (.reg f40r2)
  .ret) .skip))
  (.seq (.reg f40r3)
  (.seq (.reg f40r4)
  (.seq (.seq (.reg f40r5)
  (.block 0 (.loop f40b0)))
  (.seq (.reg f40r15)
  .ret))))))
theorem f40_eq : fnF look 40 = some ⟨64, f40c, [.tmp 6, .tmp 7]⟩ := by kernel_rfl

/- extent.go:120 -/
noncomputable def f41r0 : K2 :=
  .mv (.con (.bool false)) (some (sOf 4)) <|
  .done
noncomputable def f41r1_2 : K2 := .ln (fun xs _ => pickF xs) [(tO 6), (.con (.bool true)), (tO 7)] (some (sOf 8)) <|
  .mv (tO 8) (some (sOf 4)) <|
  .done
/- extent.go:120 -/
noncomputable def f41r1 : K2 :=
  .mv (tO 0) (some (sOf 5)) <|
  .mv (tO 5) (some (sOf 6)) <|
  .gd (sOf 6) false (some (sOf 7)) (.mv (tO 1) (some (sOf 7)) <|
  f41r1_2) f41r1_2
noncomputable def f41c : C2 := (.seq (.reg f41r0)
  (.seq (.reg f41r1)
  .ret))
theorem f41_eq : fnF look 41 = some ⟨9, f41c, [.tmp 4]⟩ := by kernel_rfl

/- extent.go:124 -/
noncomputable def f43r0 : K2 :=
  .mv (.con (.bool false)) (some (sOf 4)) <|
  .done
noncomputable def f43r1_3 : K2 := .ln (fun xs _ => pickF xs) [(tO 6), (tO 8), (.con (.bool false))] (some (sOf 9)) <|
  .mv (tO 9) (some (sOf 4)) <|
  .done
noncomputable def f43r1_2 : K2 := .gd (sOf 6) true (some (sOf 8)) (.p1 notF (tO 7) (some (sOf 8)) <|
  f43r1_3) f43r1_3
/- extent.go:124 -/
noncomputable def f43r1 : K2 :=
  .mv (tO 0) (some (sOf 5)) <|
  .mv (tO 5) (some (sOf 6)) <|
  .gd (sOf 6) true (some (sOf 7)) (.mv (tO 1) (some (sOf 7)) <|
  f43r1_2) f43r1_2
noncomputable def f43c : C2 := (.seq (.reg f43r0)
  (.seq (.reg f43r1)
  .ret))
theorem f43_eq : fnF look 43 = some ⟨10, f43c, [.tmp 4]⟩ := by kernel_rfl

/- extent.go:128 -/
noncomputable def f44r0 : K2 :=
  .mv (.con (.bool false)) (some (sOf 4)) <|
  .done
noncomputable def f44r1_2 : K2 := .ln (fun xs _ => pickF xs) [(tO 6), (tO 7), (.con (.bool false))] (some (sOf 8)) <|
  .mv (tO 8) (some (sOf 4)) <|
  .done
/- extent.go:128 -/
noncomputable def f44r1 : K2 :=
  .mv (tO 0) (some (sOf 5)) <|
  .mv (tO 5) (some (sOf 6)) <|
  .gd (sOf 6) true (some (sOf 7)) (.mv (tO 1) (some (sOf 7)) <|
  f44r1_2) f44r1_2
noncomputable def f44c : C2 := (.seq (.reg f44r0)
  (.seq (.reg f44r1)
  .ret))
theorem f44_eq : fnF look 44 = some ⟨9, f44c, [.tmp 4]⟩ := by kernel_rfl

/- extent.go:119 -/
noncomputable def f12r0 : K2 :=
  .mv (.con .nilSl) (some (sOf 4)) <|
  .mv (.con (.int .i64 (0))) (some (sOf 5)) <|
  .done
/- extent.go:120 -/
noncomputable def f12r1 : K2 :=
  .mv (tO 0) (some (sOf 6)) <|
  .mv (tO 1) (some (sOf 7)) <|
  .cl false 40 [(tO 6), (tO 7), (.con (.fn (.func 41) [] []))] (some (sOf 8)) <|
  .p1 (exN 0) (tO 8) (some (sOf 9)) <|
  .p1 (exN 1) (tO 8) (some (sOf 10)) <|
  .mv (tO 9) (some (sOf 4)) <|
  .mv (tO 10) (some (sOf 5)) <|
  .done
noncomputable def f12c : C2 := (.seq (.reg f12r0)
  (.seq (.reg f12r1)
  .ret))
theorem f12_eq : fnF look 12 = some ⟨11, f12c, [.tmp 4, .tmp 5]⟩ := by kernel_rfl

/- extent.go:123 -/
noncomputable def f16r0 : K2 :=
  .mv (.con .nilSl) (some (sOf 4)) <|
  .mv (.con (.int .i64 (0))) (some (sOf 5)) <|
  .done
/- extent.go:124 -/
noncomputable def f16r1 : K2 :=
  .mv (tO 0) (some (sOf 6)) <|
  .mv (tO 1) (some (sOf 7)) <|
  .cl false 40 [(tO 6), (tO 7), (.con (.fn (.func 43) [] []))] (some (sOf 8)) <|
  .p1 (exN 0) (tO 8) (some (sOf 9)) <|
  .p1 (exN 1) (tO 8) (some (sOf 10)) <|
  .mv (tO 9) (some (sOf 4)) <|
  .mv (tO 10) (some (sOf 5)) <|
  .done
noncomputable def f16c : C2 := (.seq (.reg f16r0)
  (.seq (.reg f16r1)
  .ret))
theorem f16_eq : fnF look 16 = some ⟨11, f16c, [.tmp 4, .tmp 5]⟩ := by kernel_rfl

/- extent.go:127 -/
noncomputable def f18r0 : K2 :=
  .mv (.con .nilSl) (some (sOf 4)) <|
  .mv (.con (.int .i64 (0))) (some (sOf 5)) <|
  .done
/- extent.go:128 -/
noncomputable def f18r1 : K2 :=
  .mv (tO 0) (some (sOf 6)) <|
  .mv (tO 1) (some (sOf 7)) <|
  .cl false 40 [(tO 6), (tO 7), (.con (.fn (.func 44) [] []))] (some (sOf 8)) <|
  .p1 (exN 0) (tO 8) (some (sOf 9)) <|
  .p1 (exN 1) (tO 8) (some (sOf 10)) <|
  .mv (tO 9) (some (sOf 4)) <|
  .mv (tO 10) (some (sOf 5)) <|
  .done
noncomputable def f18c : C2 := (.seq (.reg f18r0)
  (.seq (.reg f18r1)
  .ret))
theorem f18_eq : fnF look 18 = some ⟨11, f18c, [.tmp 4, .tmp 5]⟩ := by kernel_rfl

/- extent.go:132 -/
noncomputable def f20r0 : K2 :=
  .mv (.con (.bool false)) (some (sOf 4)) <|
  .done
/- extent.go:133 -/
noncomputable def f20r1 : K2 :=
  .mv (tO 0) (some (sOf 8)) <|
  .mv (tO 1) (some (sOf 9)) <|
  .cl false 16 [(tO 8), (tO 9)] (some (sOf 10)) <|
  .mv (tO 10) (some (sOf 7)) <|
  .p1 (exN 0) (tO 7) (some (sOf 11)) <|
  .p1 (exN 1) (tO 7) (some (sOf 12)) <|
  .mv (tO 11) (some (sOf 5)) <|
  .mv (tO 12) (some (sOf 6)) <|
  .done
noncomputable def f20r2_5 : K2 := .ln (fun xs _ => pickF xs) [(tO 15), (tO 18), (.con (.bool false))] (some (sOf 19)) <|
  .mv (tO 19) (some (sOf 4)) <|
  .done
noncomputable def f20r2_4 : K2 := .gd (sOf 15) true (some (sOf 18)) (.p2 (binF .eql (evBin look .eql 3 (.tmp 17) (.const (.int .i64 (0))))) (tO 17) (.con (.int .i64 (0))) (some (sOf 18)) <|
  f20r2_5) f20r2_5
noncomputable def f20r2_3 : K2 := .gd (sOf 15) true (some (sOf 17)) (.ln (fun xs H => fstO (builtinF .len look [22] xs H)) [(tO 16)] (some (sOf 17)) <|
  f20r2_4) f20r2_4
/- extent.go:134 -/
noncomputable def f20r2 : K2 :=
  .mv (tO 6) (some (sOf 13)) <|
  .p2 (binF .eql (evBin look .eql 25 (.tmp 13) (.const (.int .i64 (0))))) (tO 13) (.con (.int .i64 (0))) (some (sOf 14)) <|
  .mv (tO 14) (some (sOf 15)) <|
  .gd (sOf 15) true (some (sOf 16)) (.mv (tO 5) (some (sOf 16)) <|
  f20r2_3) f20r2_3
noncomputable def f20c : C2 := (.seq (.reg f20r0)
  (.seq (.reg f20r1)
  (.seq (.reg f20r2)
  .ret)))
theorem f20_eq : fnF look 20 = some ⟨20, f20c, [.tmp 4]⟩ := by kernel_rfl

/- extent.go:32 -/
noncomputable def f23r0 : K2 :=
  .mv (.con (.int .i64 (0))) (some (sOf 2)) <|
  .done
/- extent.go:33 -/
noncomputable def f23r1 : K2 :=
  .mv (tO 0) (some (sOf 3)) <|
  .cl false 22 [(tO 3)] (some (sOf 4)) <|
  .p2 (binF .neq (evBin look .neq 25 (.tmp 4) (.const (.int .i64 (0))))) (tO 4) (.con (.int .i64 (0))) (some (sOf 5)) <|
  .done
/- extent.go:34 -/
noncomputable def f23r2 : K2 :=
  .mv (.con (.int .i64 (0))) (some (sOf 2)) <|
  .done
/- extent.go:36 -/
noncomputable def f23r3 : K2 :=
  .mv (tO 0) (some (sOf 6)) <|
  .cl false 45 [(tO 6)] (some (sOf 7)) <|
  .mv (tO 7) (some (sOf 2)) <|
  .done
noncomputable def f23c : C2 := (.seq (.reg f23r0)
  (.seq (.seq (.reg f23r1)
  (.cond (tO 5) (.seq (.reg f23r2)
  .ret) .skip))
  (.seq (.reg f23r3)
  .ret)))
theorem f23_eq : fnF look 23 = some ⟨8, f23c, [.tmp 2]⟩ := by kernel_rfl

end Go.Proofs.Ytnkomaedmblemaa

set_option linter.unusedSimpArgs false
set_option linter.unusedVariables false
set_option maxRecDepth 100000
namespace Go.Proofs.Ytnkomaedmblemaa
open Go.Ev Exl
theorem u4 : look.under 4 = some .bool := by kernel_rfl
theorem eq4 (xo yo : Operand) (a b : Bool) : binF .eql (evBin look .eql 4 xo yo) (.bool a) (.bool b) = some (.bool (decide (a = b))) := bin_eqlB u4 xo yo a b
end Go.Proofs.Ytnkomaedmblemaa

set_option linter.unusedSimpArgs false
set_option linter.unusedVariables false
set_option maxRecDepth 100000
namespace Go.Proofs.Ytnkomaedmblemaa
open Go.Ev Exl
/- outright.go:101 -/
noncomputable def f4r0 : K2 :=
  .mv (.con (.bool false)) (some (sOf 4)) <|
  .done
/- outright.go:102 -/
noncomputable def f4r1 : K2 :=
  .cl false 10 [] (some (sOf 19)) <|
  .mv (tO 19) (some (sOf 5)) <|
  .done
noncomputable def f4r2_6 : K2 := .ln (fun xs _ => pickF xs) [(tO 23), (.con (.bool true)), (tO 26)] (some (sOf 27)) <|
  .done
noncomputable def f4r2_5 : K2 := .gd (sOf 23) false (some (sOf 26)) (.p2 (binF .gtr (evBin look .gtr 3 (.tmp 25) (.const (.int .i64 (300))))) (tO 25) (.con (.int .i64 (300))) (some (sOf 26)) <|
  f4r2_6) f4r2_6
noncomputable def f4r2_4 : K2 := .gd (sOf 23) false (some (sOf 25)) (.ln (fun xs H => fstO (builtinF .len look [22] xs H)) [(tO 24)] (some (sOf 25)) <|
  f4r2_5) f4r2_5
/- outright.go:103 -/
noncomputable def f4r2 : K2 :=
  .mv (tO 0) (some (sOf 20)) <|
  .ln (fun xs H => fstO (builtinF .len look [22] xs H)) [(tO 20)] (some (sOf 21)) <|
  .p2 (binF .gtr (evBin look .gtr 3 (.tmp 21) (.const (.int .i64 (300))))) (tO 21) (.con (.int .i64 (300))) (some (sOf 22)) <|
  .mv (tO 22) (some (sOf 23)) <|
  .gd (sOf 23) false (some (sOf 24)) (.mv (tO 1) (some (sOf 24)) <|
  f4r2_4) f4r2_4
/- outright.go:104 -/
noncomputable def f4r3 : K2 :=
  .mv (tO 5) (some (sOf 28)) <|
  .mv (tO 28) (some (sOf 4)) <|
  .done
/- outright.go:106 -/
noncomputable def f4r4 : K2 :=
  .mv (tO 0) (some (sOf 30)) <|
  .mv (tO 1) (some (sOf 31)) <|
  .cl false 12 [(tO 30), (tO 31)] (some (sOf 32)) <|
  .mv (tO 32) (some (sOf 29)) <|
  .p1 (exN 0) (tO 29) (some (sOf 33)) <|
  .p1 (exN 1) (tO 29) (some (sOf 34)) <|
  .mv (tO 33) (some (sOf 6)) <|
  .mv (tO 34) (some (sOf 7)) <|
  .done
/- outright.go:107 -/
noncomputable def f4r5 : K2 :=
  .mv (tO 0) (some (sOf 36)) <|
  .mv (tO 1) (some (sOf 37)) <|
  .cl false 16 [(tO 36), (tO 37)] (some (sOf 38)) <|
  .mv (tO 38) (some (sOf 35)) <|
  .p1 (exN 0) (tO 35) (some (sOf 39)) <|
  .p1 (exN 1) (tO 35) (some (sOf 40)) <|
  .mv (tO 39) (some (sOf 8)) <|
  .mv (tO 40) (some (sOf 9)) <|
  .done
/- outright.go:108 -/
noncomputable def f4r6 : K2 :=
  .mv (tO 0) (some (sOf 42)) <|
  .mv (tO 1) (some (sOf 43)) <|
  .cl false 18 [(tO 42), (tO 43)] (some (sOf 44)) <|
  .mv (tO 44) (some (sOf 41)) <|
  .p1 (exN 0) (tO 41) (some (sOf 45)) <|
  .p1 (exN 1) (tO 41) (some (sOf 46)) <|
  .mv (tO 45) (some (sOf 10)) <|
  .mv (tO 46) (some (sOf 11)) <|
  .done
noncomputable def f4r7_6 : K2 := .ln (fun xs _ => pickF xs) [(tO 50), (.con (.bool true)), (tO 53)] (some (sOf 54)) <|
  .done
noncomputable def f4r7_5 : K2 := .gd (sOf 50) false (some (sOf 53)) (.p2 (binF .neq (evBin look .neq 25 (.tmp 52) (.const (.int .i64 (0))))) (tO 52) (.con (.int .i64 (0))) (some (sOf 53)) <|
  f4r7_6) f4r7_6
noncomputable def f4r7_4 : K2 := .gd (sOf 50) false (some (sOf 52)) (.cl false 22 [(tO 51)] (some (sOf 52)) <|
  f4r7_5) f4r7_5
/- outright.go:109 -/
noncomputable def f4r7 : K2 :=
  .mv (tO 0) (some (sOf 47)) <|
  .cl false 22 [(tO 47)] (some (sOf 48)) <|
  .p2 (binF .neq (evBin look .neq 25 (.tmp 48) (.const (.int .i64 (0))))) (tO 48) (.con (.int .i64 (0))) (some (sOf 49)) <|
  .mv (tO 49) (some (sOf 50)) <|
  .gd (sOf 50) false (some (sOf 51)) (.mv (tO 1) (some (sOf 51)) <|
  f4r7_4) f4r7_4
noncomputable def f4r8_17 : K2 := .ln (fun xs _ => pickF xs) [(tO 68), (tO 72), (.con (.bool false))] (some (sOf 73)) <|
  .mv (tO 73) (some (sOf 4)) <|
  .done
noncomputable def f4r8_16 : K2 := .gd (sOf 68) true (some (sOf 72)) (.p1 notF (tO 71) (some (sOf 72)) <|
  f4r8_17) f4r8_17
noncomputable def f4r8_15 : K2 := .gd (sOf 68) true (some (sOf 71)) (.cl false 20 [(tO 69), (tO 70)] (some (sOf 71)) <|
  f4r8_16) f4r8_16
noncomputable def f4r8_14 : K2 := .gd (sOf 68) true (some (sOf 70)) (.mv (tO 1) (some (sOf 70)) <|
  f4r8_15) f4r8_15
noncomputable def f4r8_11 : K2 := .ln (fun xs _ => pickF xs) [(tO 64), (tO 66), (.con (.bool false))] (some (sOf 67)) <|
  .mv (tO 67) (some (sOf 68)) <|
  .gd (sOf 68) true (some (sOf 69)) (.mv (tO 0) (some (sOf 69)) <|
  f4r8_14) f4r8_14
noncomputable def f4r8_10 : K2 := .gd (sOf 64) true (some (sOf 66)) (.p2 (binF .eql (evBin look .eql 25 (.tmp 65) (.const (.int .i64 (2))))) (tO 65) (.con (.int .i64 (2))) (some (sOf 66)) <|
  f4r8_11) f4r8_11
noncomputable def f4r8_7 : K2 := .ln (fun xs _ => pickF xs) [(tO 60), (tO 62), (.con (.bool false))] (some (sOf 63)) <|
  .mv (tO 63) (some (sOf 64)) <|
  .gd (sOf 64) true (some (sOf 65)) (.mv (tO 11) (some (sOf 65)) <|
  f4r8_10) f4r8_10
noncomputable def f4r8_6 : K2 := .gd (sOf 60) true (some (sOf 62)) (.p2 (binF .eql (evBin look .eql 25 (.tmp 61) (.const (.int .i64 (2))))) (tO 61) (.con (.int .i64 (2))) (some (sOf 62)) <|
  f4r8_7) f4r8_7
noncomputable def f4r8_3 : K2 := .ln (fun xs _ => pickF xs) [(tO 56), (tO 58), (.con (.bool false))] (some (sOf 59)) <|
  .mv (tO 59) (some (sOf 60)) <|
  .gd (sOf 60) true (some (sOf 61)) (.mv (tO 9) (some (sOf 61)) <|
  f4r8_6) f4r8_6
noncomputable def f4r8_2 : K2 := .gd (sOf 56) true (some (sOf 58)) (.p2 (binF .eql (evBin look .eql 25 (.tmp 57) (.const (.int .i64 (2))))) (tO 57) (.con (.int .i64 (2))) (some (sOf 58)) <|
  f4r8_3) f4r8_3
/- outright.go:110 -/
noncomputable def f4r8 : K2 :=
  .mv (tO 5) (some (sOf 55)) <|
  .mv (tO 55) (some (sOf 56)) <|
  .gd (sOf 56) true (some (sOf 57)) (.mv (tO 7) (some (sOf 57)) <|
  f4r8_2) f4r8_2
noncomputable def f4r9_8 : K2 := .ln (fun xs _ => pickF xs) [(tO 80), (.con (.bool true)), (tO 82)] (some (sOf 83)) <|
  .done
noncomputable def f4r9_7 : K2 := .gd (sOf 80) false (some (sOf 82)) (.p2 (binF .neq (evBin look .neq 25 (.tmp 81) (.const (.int .i64 (0))))) (tO 81) (.con (.int .i64 (0))) (some (sOf 82)) <|
  f4r9_8) f4r9_8
noncomputable def f4r9_4 : K2 := .ln (fun xs _ => pickF xs) [(tO 76), (.con (.bool true)), (tO 78)] (some (sOf 79)) <|
  .mv (tO 79) (some (sOf 80)) <|
  .gd (sOf 80) false (some (sOf 81)) (.mv (tO 11) (some (sOf 81)) <|
  f4r9_7) f4r9_7
noncomputable def f4r9_3 : K2 := .gd (sOf 76) false (some (sOf 78)) (.p2 (binF .neq (evBin look .neq 25 (.tmp 77) (.const (.int .i64 (0))))) (tO 77) (.con (.int .i64 (0))) (some (sOf 78)) <|
  f4r9_4) f4r9_4
/- outright.go:112 -/
noncomputable def f4r9 : K2 :=
  .mv (tO 7) (some (sOf 74)) <|
  .p2 (binF .neq (evBin look .neq 25 (.tmp 74) (.const (.int .i64 (0))))) (tO 74) (.con (.int .i64 (0))) (some (sOf 75)) <|
  .mv (tO 75) (some (sOf 76)) <|
  .gd (sOf 76) false (some (sOf 77)) (.mv (tO 9) (some (sOf 77)) <|
  f4r9_3) f4r9_3
/- outright.go:113 -/
noncomputable def f4r10 : K2 :=
  .mv (.con (.bool false)) (some (sOf 4)) <|
  .done
/- outright.go:115 -/
noncomputable def f4r11 : K2 :=
  .mv (tO 8) (some (sOf 85)) <|
  .mv (tO 10) (some (sOf 86)) <|
  .cl false 12 [(tO 85), (tO 86)] (some (sOf 87)) <|
  .mv (tO 87) (some (sOf 84)) <|
  .p1 (exN 0) (tO 84) (some (sOf 88)) <|
  .p1 (exN 1) (tO 84) (some (sOf 89)) <|
  .mv (tO 88) (some (sOf 12)) <|
  .mv (tO 89) (some (sOf 13)) <|
  .done
/- outright.go:116 -/
noncomputable def f4r12 : K2 :=
  .mv (tO 8) (some (sOf 91)) <|
  .mv (tO 10) (some (sOf 92)) <|
  .cl false 18 [(tO 91), (tO 92)] (some (sOf 93)) <|
  .mv (tO 93) (some (sOf 90)) <|
  .p1 (exN 0) (tO 90) (some (sOf 94)) <|
  .p1 (exN 1) (tO 90) (some (sOf 95)) <|
  .mv (tO 94) (some (sOf 14)) <|
  .mv (tO 95) (some (sOf 15)) <|
  .done
/- outright.go:117 -/
noncomputable def f4r13 : K2 :=
  .mv (tO 1) (some (sOf 97)) <|
  .mv (tO 0) (some (sOf 98)) <|
  .cl false 12 [(tO 97), (tO 98)] (some (sOf 99)) <|
  .mv (tO 99) (some (sOf 96)) <|
  .p1 (exN 0) (tO 96) (some (sOf 100)) <|
  .p1 (exN 1) (tO 96) (some (sOf 101)) <|
  .mv (tO 100) (some (sOf 16)) <|
  .mv (tO 101) (some (sOf 17)) <|
  .done
noncomputable def f4r14_25 : K2 := .ln (fun xs _ => pickF xs) [(tO 123), (.con (.bool true)), (tO 127)] (some (sOf 128)) <|
  .done
noncomputable def f4r14_24 : K2 := .gd (sOf 123) false (some (sOf 127)) (.p1 notF (tO 126) (some (sOf 127)) <|
  f4r14_25) f4r14_25
noncomputable def f4r14_23 : K2 := .gd (sOf 123) false (some (sOf 126)) (.cl false 14 [(tO 124), (tO 125)] (some (sOf 126)) <|
  f4r14_24) f4r14_24
noncomputable def f4r14_22 : K2 := .gd (sOf 123) false (some (sOf 125)) (.mv (tO 6) (some (sOf 125)) <|
  f4r14_23) f4r14_23
noncomputable def f4r14_19 : K2 := .ln (fun xs _ => pickF xs) [(tO 118), (.con (.bool true)), (tO 121)] (some (sOf 122)) <|
  .mv (tO 122) (some (sOf 123)) <|
  .gd (sOf 123) false (some (sOf 124)) (.mv (tO 16) (some (sOf 124)) <|
  f4r14_22) f4r14_22
noncomputable def f4r14_18 : K2 := .gd (sOf 118) false (some (sOf 121)) (.p2 (binF .gtr (evBin look .gtr 3 (.tmp 120) (.const (.int .i64 (0))))) (tO 120) (.con (.int .i64 (0))) (some (sOf 121)) <|
  f4r14_19) f4r14_19
noncomputable def f4r14_17 : K2 := .gd (sOf 118) false (some (sOf 120)) (.ln (fun xs H => fstO (builtinF .len look [22] xs H)) [(tO 119)] (some (sOf 120)) <|
  f4r14_18) f4r14_18
noncomputable def f4r14_14 : K2 := .ln (fun xs _ => pickF xs) [(tO 112), (.con (.bool true)), (tO 116)] (some (sOf 117)) <|
  .mv (tO 117) (some (sOf 118)) <|
  .gd (sOf 118) false (some (sOf 119)) (.mv (tO 14) (some (sOf 119)) <|
  f4r14_17) f4r14_17
noncomputable def f4r14_13 : K2 := .gd (sOf 112) false (some (sOf 116)) (.p1 notF (tO 115) (some (sOf 116)) <|
  f4r14_14) f4r14_14
noncomputable def f4r14_12 : K2 := .gd (sOf 112) false (some (sOf 115)) (.cl false 14 [(tO 113), (tO 114)] (some (sOf 115)) <|
  f4r14_13) f4r14_13
noncomputable def f4r14_11 : K2 := .gd (sOf 112) false (some (sOf 114)) (.mv (tO 0) (some (sOf 114)) <|
  f4r14_12) f4r14_12
noncomputable def f4r14_8 : K2 := .ln (fun xs _ => pickF xs) [(tO 108), (.con (.bool true)), (tO 110)] (some (sOf 111)) <|
  .mv (tO 111) (some (sOf 112)) <|
  .gd (sOf 112) false (some (sOf 113)) (.mv (tO 12) (some (sOf 113)) <|
  f4r14_11) f4r14_11
noncomputable def f4r14_7 : K2 := .gd (sOf 108) false (some (sOf 110)) (.p2 (binF .neq (evBin look .neq 25 (.tmp 109) (.const (.int .i64 (0))))) (tO 109) (.con (.int .i64 (0))) (some (sOf 110)) <|
  f4r14_8) f4r14_8
noncomputable def f4r14_4 : K2 := .ln (fun xs _ => pickF xs) [(tO 104), (.con (.bool true)), (tO 106)] (some (sOf 107)) <|
  .mv (tO 107) (some (sOf 108)) <|
  .gd (sOf 108) false (some (sOf 109)) (.mv (tO 17) (some (sOf 109)) <|
  f4r14_7) f4r14_7
noncomputable def f4r14_3 : K2 := .gd (sOf 104) false (some (sOf 106)) (.p2 (binF .neq (evBin look .neq 25 (.tmp 105) (.const (.int .i64 (0))))) (tO 105) (.con (.int .i64 (0))) (some (sOf 106)) <|
  f4r14_4) f4r14_4
/- outright.go:118 -/
noncomputable def f4r14 : K2 :=
  .mv (tO 13) (some (sOf 102)) <|
  .p2 (binF .neq (evBin look .neq 25 (.tmp 102) (.const (.int .i64 (0))))) (tO 102) (.con (.int .i64 (0))) (some (sOf 103)) <|
  .mv (tO 103) (some (sOf 104)) <|
  .gd (sOf 104) false (some (sOf 105)) (.mv (tO 15) (some (sOf 105)) <|
  f4r14_3) f4r14_3
/- outright.go:119 -/
noncomputable def f4r15 : K2 :=
  .mv (.con (.bool false)) (some (sOf 4)) <|
  .done
/- outright.go:121 -/
noncomputable def f4r16 : K2 :=
  .mv (tO 6) (some (sOf 129)) <|
  .cl false 23 [(tO 129)] (some (sOf 130)) <|
  .mv (tO 10) (some (sOf 131)) <|
  .cl false 23 [(tO 131)] (some (sOf 132)) <|
  .p2 (binF .add (evBin look .add 3 (.tmp 130) (.tmp 132))) (tO 130) (tO 132) (some (sOf 133)) <|
  .mv (tO 0) (some (sOf 134)) <|
  .cl false 23 [(tO 134)] (some (sOf 135)) <|
  .mv (tO 1) (some (sOf 136)) <|
  .cl false 23 [(tO 136)] (some (sOf 137)) <|
  .p2 (binF .add (evBin look .add 3 (.tmp 135) (.tmp 137))) (tO 135) (tO 137) (some (sOf 138)) <|
  .p2 (binF .eql (evBin look .eql 3 (.tmp 133) (.tmp 138))) (tO 133) (tO 138) (some (sOf 139)) <|
  .mv (tO 139) (some (sOf 18)) <|
  .done
noncomputable def f4r17_21 : K2 := .ln (fun xs _ => pickF xs) [(tO 154), (tO 161), (.con (.bool false))] (some (sOf 162)) <|
  .mv (tO 162) (some (sOf 4)) <|
  .done
noncomputable def f4r17_20 : K2 := .gd (sOf 154) true (some (sOf 161)) (.p2 (binF .eql (evBin look .eql 4 (.tmp 157) (.tmp 160))) (tO 157) (tO 160) (some (sOf 161)) <|
  f4r17_21) f4r17_21
noncomputable def f4r17_19 : K2 := .gd (sOf 154) true (some (sOf 160)) (.p2 (binF .eql (evBin look .eql 3 (.tmp 159) (.const (.int .i64 (0))))) (tO 159) (.con (.int .i64 (0))) (some (sOf 160)) <|
  f4r17_20) f4r17_20
noncomputable def f4r17_18 : K2 := .gd (sOf 154) true (some (sOf 159)) (.ln (fun xs H => fstO (builtinF .len look [22] xs H)) [(tO 158)] (some (sOf 159)) <|
  f4r17_19) f4r17_19
noncomputable def f4r17_17 : K2 := .gd (sOf 154) true (some (sOf 158)) (.mv (tO 8) (some (sOf 158)) <|
  f4r17_18) f4r17_18
noncomputable def f4r17_16 : K2 := .gd (sOf 154) true (some (sOf 157)) (.cl false 20 [(tO 155), (tO 156)] (some (sOf 157)) <|
  f4r17_17) f4r17_17
noncomputable def f4r17_15 : K2 := .gd (sOf 154) true (some (sOf 156)) (.mv (tO 1) (some (sOf 156)) <|
  f4r17_16) f4r17_16
noncomputable def f4r17_12 : K2 := .ln (fun xs _ => pickF xs) [(tO 149), (tO 152), (.con (.bool false))] (some (sOf 153)) <|
  .mv (tO 153) (some (sOf 154)) <|
  .gd (sOf 154) true (some (sOf 155)) (.mv (tO 0) (some (sOf 155)) <|
  f4r17_15) f4r17_15
noncomputable def f4r17_11 : K2 := .gd (sOf 149) true (some (sOf 152)) (.cl false 20 [(tO 150), (tO 151)] (some (sOf 152)) <|
  f4r17_12) f4r17_12
noncomputable def f4r17_10 : K2 := .gd (sOf 149) true (some (sOf 151)) (.mv (tO 1) (some (sOf 151)) <|
  f4r17_11) f4r17_11
noncomputable def f4r17_7 : K2 := .ln (fun xs _ => pickF xs) [(tO 144), (tO 147), (.con (.bool false))] (some (sOf 148)) <|
  .mv (tO 148) (some (sOf 149)) <|
  .gd (sOf 149) true (some (sOf 150)) (.mv (tO 10) (some (sOf 150)) <|
  f4r17_10) f4r17_10
noncomputable def f4r17_6 : K2 := .gd (sOf 144) true (some (sOf 147)) (.cl false 20 [(tO 145), (tO 146)] (some (sOf 147)) <|
  f4r17_7) f4r17_7
noncomputable def f4r17_5 : K2 := .gd (sOf 144) true (some (sOf 146)) (.mv (tO 6) (some (sOf 146)) <|
  f4r17_6) f4r17_6
noncomputable def f4r17_2 : K2 := .ln (fun xs _ => pickF xs) [(tO 141), (tO 142), (.con (.bool false))] (some (sOf 143)) <|
  .mv (tO 143) (some (sOf 144)) <|
  .gd (sOf 144) true (some (sOf 145)) (.mv (tO 0) (some (sOf 145)) <|
  f4r17_5) f4r17_5
/- outright.go:122 -/
noncomputable def f4r17 : K2 :=
  .mv (tO 5) (some (sOf 140)) <|
  .mv (tO 140) (some (sOf 141)) <|
  .gd (sOf 141) true (some (sOf 142)) (.mv (tO 18) (some (sOf 142)) <|
  f4r17_2) f4r17_2
noncomputable def f4c : C2 := (.seq (.reg f4r0)
  (.seq (.reg f4r1)
  (.seq (.seq (.reg f4r2)
  (.cond (tO 27) (.seq (.reg f4r3)
  .ret) .skip))
  (.seq (.reg f4r4)
  (.seq (.reg f4r5)
  (.seq (.reg f4r6)
  (.seq (.seq (.reg f4r7)
  (.cond (tO 54) (.seq (.reg f4r8)
  .ret) .skip))
  (.seq (.seq (.reg f4r9)
  (.cond (tO 83) (.seq (.reg f4r10)
  .ret) .skip))
  (.seq (.reg f4r11)
  (.seq (.reg f4r12)
  (.seq (.reg f4r13)
  (.seq (.seq (.reg f4r14)
  (.cond (tO 128) (.seq (.reg f4r15)
  .ret) .skip))
  (.seq (.reg f4r16)
  (.seq (.reg f4r17)
  .ret))))))))))))))
theorem f4_eq : fnF look 4 = some ⟨163, f4c, [.tmp 4]⟩ := by kernel_rfl

end Go.Proofs.Ytnkomaedmblemaa
