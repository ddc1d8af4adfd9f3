import Derived.Test.YtnkomaedmblemaaCtB
set_option linter.unusedSimpArgs false
set_option linter.unusedVariables false
set_option maxRecDepth 100000
namespace Go.Proofs.Ytnkomaedmblemaa
open Go.Ev Exl
end Go.Proofs.Ytnkomaedmblemaa

set_option linter.unusedSimpArgs false
set_option linter.unusedVariables false
set_option maxRecDepth 100000
namespace Go.Proofs.Ytnkomaedmblemaa
open Go.Ev Exl
/- extent.go:32 -/
noncomputable def f23r0 : K2 :=
  .mv (.con (.int .i64 (0))) (some (sOf 2)) <|
  .done
/- extent.go:33 -/
noncomputable def f23r1 : K2 :=
  .mv (tO 0) (some (sOf 3)) <|
  .cl false 22 [(tO 3)] (some (sOf 4)) <|
  .p2 (binF .neq (evBin look .neq 25 (.tmp 4) (.const (.int .i64 (0))))) (tO 4) (.con (.int .i64 (0))) (some (sOf 5)) <|
  .done
/- extent.go:34 -/
noncomputable def f23r2 : K2 :=
  .mv (.con (.int .i64 (0))) (some (sOf 2)) <|
  .done
/- extent.go:36 -/
noncomputable def f23r3 : K2 :=
  .mv (tO 0) (some (sOf 6)) <|
  .cl false 45 [(tO 6)] (some (sOf 7)) <|
  .mv (tO 7) (some (sOf 2)) <|
  .done
noncomputable def f23c : C2 := (.seq (.reg f23r0)
  (.seq (.seq (.reg f23r1)
  (.cond (tO 5) (.seq (.reg f23r2)
  .ret) .skip))
  (.seq (.reg f23r3)
  .ret)))
theorem f23_eq : fnF look 23 = some ⟨8, f23c, [.tmp 2]⟩ := by kernel_rfl

end Go.Proofs.Ytnkomaedmblemaa

set_option linter.unusedSimpArgs false
set_option linter.unusedVariables false
set_option maxRecDepth 100000
namespace Go.Proofs.Ytnkomaedmblemaa
open Go.Ev Exl
theorem z32 : look.size 32 = some 1 := by kernel_rfl
theorem z91 : look.size 91 = some 1 := by kernel_rfl
noncomputable def len8tab : AV := .str ⟨#[0, 1, 2, 2, 3, 3, 3, 3, 4, 4, 4, 4, 4, 4, 4, 4, 5, 5, 5, 5, 5, 5, 5, 5, 5, 5, 5, 5, 5, 5, 5, 5, 6, 6, 6, 6, 6, 6, 6, 6, 6, 6, 6, 6, 6, 6, 6, 6, 6, 6, 6, 6, 6, 6, 6, 6, 6, 6, 6, 6, 6, 6, 6, 6, 7, 7, 7, 7, 7, 7, 7, 7, 7, 7, 7, 7, 7, 7, 7, 7, 7, 7, 7, 7, 7, 7, 7, 7, 7, 7, 7, 7, 7, 7, 7, 7, 7, 7, 7, 7, 7, 7, 7, 7, 7, 7, 7, 7, 7, 7, 7, 7, 7, 7, 7, 7, 7, 7, 7, 7, 7, 7, 7, 7, 7, 7, 7, 7, 8, 8, 8, 8, 8, 8, 8, 8, 8, 8, 8, 8, 8, 8, 8, 8, 8, 8, 8, 8, 8, 8, 8, 8, 8, 8, 8, 8, 8, 8, 8, 8, 8, 8, 8, 8, 8, 8, 8, 8, 8, 8, 8, 8, 8, 8, 8, 8, 8, 8, 8, 8, 8, 8, 8, 8, 8, 8, 8, 8, 8, 8, 8, 8, 8, 8, 8, 8, 8, 8, 8, 8, 8, 8, 8, 8, 8, 8, 8, 8, 8, 8, 8, 8, 8, 8, 8, 8, 8, 8, 8, 8, 8, 8, 8, 8, 8, 8, 8, 8, 8, 8, 8, 8, 8, 8, 8, 8, 8, 8, 8, 8, 8, 8, 8, 8, 8, 8, 8, 8, 8, 8, 8, 8, 8, 8, 8, 8]⟩
/-! slices.Compact[[]int,int]: parameters [32], temporaries 61 -/
noncomputable def f47body : Code := bodyN look 47
/- slices.go:371 -/
noncomputable def f47r0 : K2 :=
  .mv (.con .nilSl) (some (sOf 2)) <|
  .done
/- slices.go:372 -/
noncomputable def f47r1 : K2 :=
  .mv (tO 0) (some (sOf 6)) <|
  .ln (fun xs H => fstO (builtinF .len look [32] xs H)) [(tO 6)] (some (sOf 7)) <|
  .p2 (binF .lss (evBin look .lss 3 (.tmp 7) (.const (.int .i64 (2))))) (tO 7) (.con (.int .i64 (2))) (some (sOf 8)) <|
  .done
/- slices.go:373 -/
noncomputable def f47r2 : K2 :=
  .mv (tO 0) (some (sOf 9)) <|
  .mv (tO 9) (some (sOf 2)) <|
  .done
/- slices.go:375 -/
noncomputable def f47r3 : K2 :=
  .mv (.con (.int .i64 (1))) (some (sOf 3)) <|
  .done
/- slices.go:375 -/
noncomputable def f47r4 : K2 :=
  .mv (tO 3) (some (sOf 10)) <|
  .mv (tO 0) (some (sOf 11)) <|
  .ln (fun xs H => fstO (builtinF .len look [32] xs H)) [(tO 11)] (some (sOf 12)) <|
  .p2 (binF .lss (evBin look .lss 3 (.tmp 10) (.tmp 12))) (tO 10) (tO 12) (some (sOf 13)) <|
  .done
/- slices.go:376 -/
noncomputable def f47r5 : K2 :=
  .mv (tO 0) (some (sOf 16)) <|
  .mv (tO 3) (some (sOf 17)) <|
  .p2 (ixS 1) (tO 16) (tO 17) (some (sOf 18)) <|
  .r1 ld1 (tO 18) (some (sOf 19)) <|
  .mv (tO 0) (some (sOf 20)) <|
  .mv (tO 3) (some (sOf 21)) <|
  .p2 (binF .sub (evBin look .sub 3 (.tmp 21) (.const (.int .i64 (1))))) (tO 21) (.con (.int .i64 (1))) (some (sOf 22)) <|
  .p2 (ixS 1) (tO 20) (tO 22) (some (sOf 23)) <|
  .r1 ld1 (tO 23) (some (sOf 24)) <|
  .p2 (binF .eql (evBin look .eql 3 (.tmp 19) (.tmp 24))) (tO 19) (tO 24) (some (sOf 25)) <|
  .done
/- slices.go:377 -/
noncomputable def f47r6 : K2 :=
  .mv (tO 0) (some (sOf 26)) <|
  .mv (tO 3) (some (sOf 27)) <|
  .ls (fun xs _ => sliceF look 32 true false false xs) [(tO 26), (tO 27)] (opN f47body 6 2) (some (sOf 28)) <|
  .mv (tO 28) (some (sOf 4)) <|
  .done
/- slices.go:378 -/
noncomputable def f47r7 : K2 :=
  .mv (.con (.int .i64 (1))) (some (sOf 5)) <|
  .done
/- slices.go:378 -/
noncomputable def f47r8 : K2 :=
  .mv (tO 5) (some (sOf 29)) <|
  .mv (tO 4) (some (sOf 30)) <|
  .ln (fun xs H => fstO (builtinF .len look [32] xs H)) [(tO 30)] (some (sOf 31)) <|
  .p2 (binF .lss (evBin look .lss 3 (.tmp 29) (.tmp 31))) (tO 29) (tO 31) (some (sOf 32)) <|
  .done
/- slices.go:379 -/
noncomputable def f47r9 : K2 :=
  .mv (tO 4) (some (sOf 35)) <|
  .mv (tO 5) (some (sOf 36)) <|
  .p2 (ixS 1) (tO 35) (tO 36) (some (sOf 37)) <|
  .r1 ld1 (tO 37) (some (sOf 38)) <|
  .mv (tO 4) (some (sOf 39)) <|
  .mv (tO 5) (some (sOf 40)) <|
  .p2 (binF .sub (evBin look .sub 3 (.tmp 40) (.const (.int .i64 (1))))) (tO 40) (.con (.int .i64 (1))) (some (sOf 41)) <|
  .p2 (ixS 1) (tO 39) (tO 41) (some (sOf 42)) <|
  .r1 ld1 (tO 42) (some (sOf 43)) <|
  .p2 (binF .neq (evBin look .neq 3 (.tmp 38) (.tmp 43))) (tO 38) (tO 43) (some (sOf 44)) <|
  .done
/- slices.go:380 -/
noncomputable def f47r10 : K2 :=
  .mv (tO 0) (some (sOf 45)) <|
  .mv (tO 3) (some (sOf 46)) <|
  .mv (tO 4) (some (sOf 47)) <|
  .mv (tO 5) (some (sOf 48)) <|
  .p2 (ixS 1) (tO 47) (tO 48) (some (sOf 49)) <|
  .r1 ld1 (tO 49) (some (sOf 50)) <|
  .p2 (ixS 1) (tO 45) (tO 46) (some (sOf 51)) <|
  .st false (st1 look 3) (tO 51) (tO 50) none <|
  .done
/- slices.go:381 -/
noncomputable def f47r11 : K2 :=
  .mv (tO 3) (some (sOf 52)) <|
  .p2 (binF .add (evBin look .add 3 (.tmp 52) (.const (.int .i64 (1))))) (tO 52) (.con (.int .i64 (1))) (some (sOf 53)) <|
  .mv (tO 53) (some (sOf 3)) <|
  .done
/- slices.go:378 -/
noncomputable def f47r12 : K2 :=
  .mv (tO 5) (some (sOf 33)) <|
  .p2 (binF .add (evBin look .add 3 (.tmp 33) (.const (.int .i64 (1))))) (tO 33) (.con (.int .i64 (1))) (some (sOf 34)) <|
  .mv (tO 34) (some (sOf 5)) <|
  .done
noncomputable def f47l1 : C2 := (.seq (.seq (.reg f47r8)
  (.cond (tO 32) .skip (.exit 2)))
  (.seq (.block 3 (.seq (.reg f47r9)
  (.cond (tO 44) (.seq (.reg f47r10)
  (.reg f47r11)) .skip)))
  (.reg f47r12)))
noncomputable def f47b1 : Code := lpN f47body 1
theorem f47l1_eq : comp look f47b1 = f47l1 := by kernel_rfl
/- slices.go:385 -/
noncomputable def f47r13 : K2 :=
  .mv (tO 0) (some (sOf 54)) <|
  .mv (tO 3) (some (sOf 55)) <|
  .ls (fun xs _ => sliceF look 32 true false false xs) [(tO 54), (tO 55)] (opN f47body 13 2) (some (sOf 56)) <|
  .hn false (builtinF .clear look [32]) [(tO 56)] none <|
  .done
/- slices.go:386 -/
noncomputable def f47r14 : K2 :=
  .mv (tO 0) (some (sOf 57)) <|
  .mv (tO 3) (some (sOf 58)) <|
  .ls (fun xs _ => sliceF look 32 false true false xs) [(tO 57), (tO 58)] (opN f47body 14 2) (some (sOf 59)) <|
  .mv (tO 59) (some (sOf 2)) <|
  .done
/- slices.go:375 -/
noncomputable def f47r15 : K2 :=
  .mv (tO 3) (some (sOf 14)) <|
  .p2 (binF .add (evBin look .add 3 (.tmp 14) (.const (.int .i64 (1))))) (tO 14) (.con (.int .i64 (1))) (some (sOf 15)) <|
  .mv (tO 15) (some (sOf 3)) <|
  .done
noncomputable def f47l0 : C2 := (.seq (.seq (.reg f47r4)
  (.cond (tO 13) .skip (.exit 0)))
  (.seq (.block 1 (.seq (.reg f47r5)
  (.cond (tO 25) (.seq (.reg f47r6)
  (.seq (.seq (.reg f47r7)
  (.block 2 (.loop f47b1)))
  (.seq (.reg f47r13)
  (.seq (.reg f47r14)
  .ret)))) .skip)))
  (.reg f47r15)))
noncomputable def f47b0 : Code := lpN f47body 0
theorem f47l0_eq : comp look f47b0 = f47l0 := by kernel_rfl
/- slices.go:389 -/
noncomputable def f47r16 : K2 :=
  .mv (tO 0) (some (sOf 60)) <|
  .mv (tO 60) (some (sOf 2)) <|
  .done
noncomputable def f47c : C2 := (.seq (.reg f47r0)
  (.seq (.seq (.reg f47r1)
  (.cond (tO 8) (.seq (.reg f47r2)
  .ret) .skip))
  (.seq (.seq (.reg f47r3)
  (.block 0 (.loop f47b0)))
  (.seq (.reg f47r16)
  .ret))))
theorem f47_eq : fnF look 47 = some ⟨61, f47c, [.tmp 2]⟩ := by kernel_rfl

/- iter.go:66 -/
noncomputable def f48r0 : K2 :=
  .mv (.con .nilSl) (some (sOf 2)) <|
  .done
/- iter.go:67 -/
noncomputable def f48r1 : K2 :=
  .mv (tO 0) (some (sOf 4)) <|
  .cl false 53 [(tO 4)] (some (sOf 5)) <|
  .mv (tO 5) (some (sOf 3)) <|
  .done
/- iter.go:68 -/
noncomputable def f48r2 : K2 :=
  .mv (tO 3) (some (sOf 6)) <|
  .cl false 54 [(tO 6)] (some (sOf 7)) <|
  .done
/- iter.go:69 -/
noncomputable def f48r3 : K2 :=
  .mv (tO 3) (some (sOf 8)) <|
  .mv (tO 8) (some (sOf 2)) <|
  .done
noncomputable def f48c : C2 := (.seq (.reg f48r0)
  (.seq (.reg f48r1)
  (.seq (.reg f48r2)
  (.seq (.reg f48r3)
  .ret))))
theorem f48_eq : fnF look 48 = some ⟨9, f48c, [.tmp 2]⟩ := by kernel_rfl

/- iter.go:37 -/
noncomputable def f49r0 : K2 :=
  .m1 false (fun v H => alF v.toC 32 1 H) (tO 0) (some (sOf 1)) <|
  .mv (.con .nilFn) (some (sOf 2)) <|
  .done
/- iter.go:38 -/
noncomputable def f49r1 : K2 :=
  .ln (fun zs _ => some (.fn (.func 55) (firstN 0 zs) (restN 0 zs))) [(tO 1)] (some (sOf 3)) <|
  .mv (tO 3) (some (sOf 2)) <|
  .done
noncomputable def f49c : C2 := (.seq (.reg f49r0)
  (.seq (.reg f49r1)
  .ret))
theorem f49_eq : fnF look 49 = some ⟨4, f49c, [.tmp 2]⟩ := by kernel_rfl

/- iter.go:59 -/
noncomputable def f53r0 : K2 :=
  .mv (.con .nilSl) (some (sOf 2)) <|
  .done
/- iter.go:60 -/
noncomputable def f53r1 : K2 :=
  .mv (tO 0) (some (sOf 3)) <|
  .cl false 59 [(.con .nilSl), (tO 3)] (some (sOf 4)) <|
  .mv (tO 4) (some (sOf 2)) <|
  .done
noncomputable def f53c : C2 := (.seq (.reg f53r0)
  (.seq (.reg f53r1)
  .ret))
theorem f53_eq : fnF look 53 = some ⟨5, f53c, [.tmp 2]⟩ := by kernel_rfl

/- sort.go:17 -/
noncomputable def f54r0 : K2 :=
  .mv (tO 0) (some (sOf 3)) <|
  .ln (fun xs H => fstO (builtinF .len look [32] xs H)) [(tO 3)] (some (sOf 4)) <|
  .mv (tO 4) (some (sOf 2)) <|
  .done
/- sort.go:18 -/
noncomputable def f54r1 : K2 :=
  .mv (tO 0) (some (sOf 5)) <|
  .mv (tO 2) (some (sOf 6)) <|
  .mv (tO 2) (some (sOf 7)) <|
  .p1 (cvI .u64) (tO 7) (some (sOf 8)) <|
  .cl false 61 [(tO 8)] (some (sOf 9)) <|
  .cl false 60 [(tO 5), (.con (.int .i64 (0))), (tO 6), (tO 9)] (some (sOf 10)) <|
  .done
noncomputable def f54c : C2 := (.seq (.reg f54r0)
  (.reg f54r1))
theorem f54_eq : fnF look 54 = some ⟨11, f54c, []⟩ := by kernel_rfl

/-! slices.Values[[]int,int]$1: parameters [68], temporaries 16 -/
noncomputable def f55body : Code := bodyN look 55
/- iter.go:39 -/
noncomputable def f55r0 : K2 :=
  .r1 ld1 (tO 1) (some (sOf 5)) <|
  .ln (fun xs H => fstO (builtinF .len look [32] xs H)) [(tO 5)] (some (sOf 6)) <|
  .mv (.con (.int .i64 (0))) (some (sOf 7)) <|
  .done
/- iter.go:39 -/
noncomputable def f55r1 : K2 :=
  .p2 (binF .lss (evBin look .lss 3 (.tmp 7) (.tmp 6))) (tO 7) (tO 6) (some (sOf 8)) <|
  .done
/- iter.go:39 -/
noncomputable def f55r2 : K2 :=
  .p2 (ixS 1) (tO 5) (tO 7) (some (sOf 9)) <|
  .r1 ld1 (tO 9) (some (sOf 10)) <|
  .mv (tO 10) (some (sOf 4)) <|
  .done
/- iter.go:40 -/
noncomputable def f55r3 : K2 :=
  .mv (tO 0) (some (sOf 11)) <|
  .mv (tO 4) (some (sOf 12)) <|
  .cn false (fun xs _ => evCallFn (hd xs) (tl xs)) [(tO 11), (tO 12)] (some (sOf 13)) <|
  .p1 notF (tO 13) (some (sOf 14)) <|
  .done
/- iter.go:39 -/
noncomputable def f55r4 : K2 :=
  .p2 (binF .add (evBin look .add 3 (.tmp 7) (.const (.int .i64 (1))))) (tO 7) (.con (.int .i64 (1))) (some (sOf 15)) <|
  .mv (tO 15) (some (sOf 7)) <|
  .done
noncomputable def f55l0 : C2 := (.seq (.reg f55r1)
  (.seq (.cond (tO 8) .skip (.exit 0))
  (.seq (.block 1 (.seq (.reg f55r2)
  (.seq (.reg f55r3)
  (.cond (tO 14) .ret .skip))))
  (.reg f55r4))))
noncomputable def f55b0 : Code := lpN f55body 0
theorem f55l0_eq : comp look f55b0 = f55l0 := by kernel_rfl
noncomputable def f55c : C2 := (.seq (.reg f55r0)
  (.block 0 (.loop f55b0)))
theorem f55_eq : fnF look 55 = some ⟨16, f55c, []⟩ := by kernel_rfl

/-! slices.AppendSeq[[]int,int]: parameters [32, 56], temporaries 13 -/
noncomputable def f59body : Code := bodyN look 59
/- iter.go:50 -/
noncomputable def f59r0 : K2 :=
  .m1 false (fun v H => alF v.toC 32 1 H) (tO 0) (some (sOf 2)) <|
  .mv (.con .nilSl) (some (sOf 4)) <|
  .done
/- iter.go:51 -/
noncomputable def f59r1 : K2 :=
  .mv (tO 1) (some (sOf 6)) <|
  .done
/- iter.go:51 -/
noncomputable def f59r2 : K2 :=
  .mv (tO 7) (some (sOf 5)) <|
  .done
/- iter.go:52 -/
noncomputable def f59r3 : K2 :=
  .r1 ld1 (tO 2) (some (sOf 8)) <|
  .mv (tO 5) (some (sOf 9)) <|
  .hn false (fun xs H => bsF 1 1 (.int .i64 (0)) 3 (zipF [0] xs) H) [(tO 9)] (some (sOf 10)) <|
  .hn false (appX 3 1 8) [(tO 8), (tO 10)] (some (sOf 11)) <|
  .st false (st1 look 32) (tO 2) (tO 11) none <|
  .done
noncomputable def f59l0 : C2 := (.reg f59r2)
noncomputable def f59b0 : Code := lpN f59body 0
theorem f59l0_eq : comp look f59b0 = f59l0 := by kernel_rfl
noncomputable def f59l1 : C2 := (.block 1 (.reg f59r3))
noncomputable def f59b1 : Code := lpN f59body 1
theorem f59l1_eq : comp look f59b1 = f59l1 := by kernel_rfl
/- iter.go:54 -/
noncomputable def f59r4 : K2 :=
  .r1 ld1 (tO 2) (some (sOf 12)) <|
  .mv (tO 12) (some (sOf 4)) <|
  .done
noncomputable def f59c : C2 := (.seq (.reg f59r0)
  (.seq (.seq (.reg f59r1)
  (.block 0 (.rng (tO 6) [7] f59b0 f59b1)))
  (.seq (.reg f59r4)
  .ret)))
theorem f59_eq : fnF look 59 = some ⟨13, f59c, [.tmp 4]⟩ := by kernel_rfl

/-! slices.pdqsortOrdered[int]: parameters [32, 3, 3, 3], temporaries 134 -/
noncomputable def f60body : Code := bodyN look 60
/- zsortordered.go:67 -/
noncomputable def f60r0 : K2 :=
  .mv (.con (.bool true)) (some (sOf 8)) <|
  .done
/- zsortordered.go:68 -/
noncomputable def f60r1 : K2 :=
  .mv (.con (.bool true)) (some (sOf 9)) <|
  .done
/- zsortordered.go:72 -/
noncomputable def f60r2 : K2 :=
  .mv (tO 2) (some (sOf 19)) <|
  .mv (tO 1) (some (sOf 20)) <|
  .p2 (binF .sub (evBin look .sub 3 (.tmp 19) (.tmp 20))) (tO 19) (tO 20) (some (sOf 21)) <|
  .mv (tO 21) (some (sOf 10)) <|
  .done
/- zsortordered.go:74 -/
noncomputable def f60r3 : K2 :=
  .mv (tO 10) (some (sOf 22)) <|
  .p2 (binF .leq (evBin look .leq 3 (.tmp 22) (.const (.int .i64 (12))))) (tO 22) (.con (.int .i64 (12))) (some (sOf 23)) <|
  .done
/- zsortordered.go:75 -/
noncomputable def f60r4 : K2 :=
  .mv (tO 0) (some (sOf 24)) <|
  .mv (tO 1) (some (sOf 25)) <|
  .mv (tO 2) (some (sOf 26)) <|
  .cl false 63 [(tO 24), (tO 25), (tO 26)] (some (sOf 27)) <|
  .done
/- zsortordered.go:80 -/
noncomputable def f60r5 : K2 :=
  .mv (tO 3) (some (sOf 28)) <|
  .p2 (binF .eql (evBin look .eql 3 (.tmp 28) (.const (.int .i64 (0))))) (tO 28) (.con (.int .i64 (0))) (some (sOf 29)) <|
  .done
/- zsortordered.go:81 -/
noncomputable def f60r6 : K2 :=
  .mv (tO 0) (some (sOf 30)) <|
  .mv (tO 1) (some (sOf 31)) <|
  .mv (tO 2) (some (sOf 32)) <|
  .cl false 64 [(tO 30), (tO 31), (tO 32)] (some (sOf 33)) <|
  .done
/- zsortordered.go:86 -/
noncomputable def f60r7 : K2 :=
  .mv (tO 8) (some (sOf 34)) <|
  .p1 notF (tO 34) (some (sOf 35)) <|
  .done
/- zsortordered.go:87 -/
noncomputable def f60r8 : K2 :=
  .mv (tO 0) (some (sOf 36)) <|
  .mv (tO 1) (some (sOf 37)) <|
  .mv (tO 2) (some (sOf 38)) <|
  .cl false 65 [(tO 36), (tO 37), (tO 38)] (some (sOf 39)) <|
  .done
/- zsortordered.go:88 -/
noncomputable def f60r9 : K2 :=
  .mv (tO 3) (some (sOf 40)) <|
  .p2 (binF .sub (evBin look .sub 3 (.tmp 40) (.const (.int .i64 (1))))) (tO 40) (.con (.int .i64 (1))) (some (sOf 41)) <|
  .mv (tO 41) (some (sOf 3)) <|
  .done
/- zsortordered.go:91 -/
noncomputable def f60r10 : K2 :=
  .mv (tO 0) (some (sOf 43)) <|
  .mv (tO 1) (some (sOf 44)) <|
  .mv (tO 2) (some (sOf 45)) <|
  .cl false 66 [(tO 43), (tO 44), (tO 45)] (some (sOf 46)) <|
  .mv (tO 46) (some (sOf 42)) <|
  .p1 (exN 0) (tO 42) (some (sOf 47)) <|
  .p1 (exN 1) (tO 42) (some (sOf 48)) <|
  .mv (tO 47) (some (sOf 11)) <|
  .mv (tO 48) (some (sOf 12)) <|
  .done
/- zsortordered.go:92 -/
noncomputable def f60r11 : K2 :=
  .mv (tO 12) (some (sOf 49)) <|
  .p2 (binF .eql (evBin look .eql 77 (.tmp 49) (.const (.int .i64 (2))))) (tO 49) (.con (.int .i64 (2))) (some (sOf 50)) <|
  .done
/- zsortordered.go:93 -/
noncomputable def f60r12 : K2 :=
  .mv (tO 0) (some (sOf 51)) <|
  .mv (tO 1) (some (sOf 52)) <|
  .mv (tO 2) (some (sOf 53)) <|
  .cl false 67 [(tO 51), (tO 52), (tO 53)] (some (sOf 54)) <|
  .done
/- zsortordered.go:97 -/
noncomputable def f60r13 : K2 :=
  .mv (tO 2) (some (sOf 55)) <|
  .p2 (binF .sub (evBin look .sub 3 (.tmp 55) (.const (.int .i64 (1))))) (tO 55) (.con (.int .i64 (1))) (some (sOf 56)) <|
  .mv (tO 11) (some (sOf 57)) <|
  .mv (tO 1) (some (sOf 58)) <|
  .p2 (binF .sub (evBin look .sub 3 (.tmp 57) (.tmp 58))) (tO 57) (tO 58) (some (sOf 59)) <|
  .p2 (binF .sub (evBin look .sub 3 (.tmp 56) (.tmp 59))) (tO 56) (tO 59) (some (sOf 60)) <|
  .mv (tO 60) (some (sOf 11)) <|
  .done
/- zsortordered.go:98 -/
noncomputable def f60r14 : K2 :=
  .mv (.con (.int .i64 (1))) (some (sOf 12)) <|
  .done
noncomputable def f60r15_6 : K2 := .ln (fun xs _ => pickF xs) [(tO 65), (tO 67), (.con (.bool false))] (some (sOf 68)) <|
  .done
noncomputable def f60r15_5 : K2 := .gd (sOf 65) true (some (sOf 67)) (.p2 (binF .eql (evBin look .eql 77 (.tmp 66) (.const (.int .i64 (1))))) (tO 66) (.con (.int .i64 (1))) (some (sOf 67)) <|
  f60r15_6) f60r15_6
noncomputable def f60r15_2 : K2 := .ln (fun xs _ => pickF xs) [(tO 62), (tO 63), (.con (.bool false))] (some (sOf 64)) <|
  .mv (tO 64) (some (sOf 65)) <|
  .gd (sOf 65) true (some (sOf 66)) (.mv (tO 12) (some (sOf 66)) <|
  f60r15_5) f60r15_5
/- zsortordered.go:102 -/
noncomputable def f60r15 : K2 :=
  .mv (tO 8) (some (sOf 61)) <|
  .mv (tO 61) (some (sOf 62)) <|
  .gd (sOf 62) true (some (sOf 63)) (.mv (tO 9) (some (sOf 63)) <|
  f60r15_2) f60r15_2
/- zsortordered.go:103 -/
noncomputable def f60r16 : K2 :=
  .mv (tO 0) (some (sOf 69)) <|
  .mv (tO 1) (some (sOf 70)) <|
  .mv (tO 2) (some (sOf 71)) <|
  .cl false 68 [(tO 69), (tO 70), (tO 71)] (some (sOf 72)) <|
  .done
noncomputable def f60r17_13 : K2 := .ln (fun xs _ => pickF xs) [(tO 75), (tO 86), (.con (.bool false))] (some (sOf 87)) <|
  .done
noncomputable def f60r17_12 : K2 := .gd (sOf 75) true (some (sOf 86)) (.p1 notF (tO 85) (some (sOf 86)) <|
  f60r17_13) f60r17_13
noncomputable def f60r17_11 : K2 := .gd (sOf 75) true (some (sOf 85)) (.cl false 69 [(tO 80), (tO 84)] (some (sOf 85)) <|
  f60r17_12) f60r17_12
noncomputable def f60r17_10 : K2 := .gd (sOf 75) true (some (sOf 84)) (.r1 ld1 (tO 83) (some (sOf 84)) <|
  f60r17_11) f60r17_11
noncomputable def f60r17_9 : K2 := .gd (sOf 75) true (some (sOf 83)) (.p2 (ixS 1) (tO 81) (tO 82) (some (sOf 83)) <|
  f60r17_10) f60r17_10
noncomputable def f60r17_8 : K2 := .gd (sOf 75) true (some (sOf 82)) (.mv (tO 11) (some (sOf 82)) <|
  f60r17_9) f60r17_9
noncomputable def f60r17_7 : K2 := .gd (sOf 75) true (some (sOf 81)) (.mv (tO 0) (some (sOf 81)) <|
  f60r17_8) f60r17_8
noncomputable def f60r17_6 : K2 := .gd (sOf 75) true (some (sOf 80)) (.r1 ld1 (tO 79) (some (sOf 80)) <|
  f60r17_7) f60r17_7
noncomputable def f60r17_5 : K2 := .gd (sOf 75) true (some (sOf 79)) (.p2 (ixS 1) (tO 76) (tO 78) (some (sOf 79)) <|
  f60r17_6) f60r17_6
noncomputable def f60r17_4 : K2 := .gd (sOf 75) true (some (sOf 78)) (.p2 (binF .sub (evBin look .sub 3 (.tmp 77) (.const (.int .i64 (1))))) (tO 77) (.con (.int .i64 (1))) (some (sOf 78)) <|
  f60r17_5) f60r17_5
noncomputable def f60r17_3 : K2 := .gd (sOf 75) true (some (sOf 77)) (.mv (tO 1) (some (sOf 77)) <|
  f60r17_4) f60r17_4
/- zsortordered.go:110 -/
noncomputable def f60r17 : K2 :=
  .mv (tO 1) (some (sOf 73)) <|
  .p2 (binF .gtr (evBin look .gtr 3 (.tmp 73) (.const (.int .i64 (0))))) (tO 73) (.con (.int .i64 (0))) (some (sOf 74)) <|
  .mv (tO 74) (some (sOf 75)) <|
  .gd (sOf 75) true (some (sOf 76)) (.mv (tO 0) (some (sOf 76)) <|
  f60r17_3) f60r17_3
/- zsortordered.go:111 -/
noncomputable def f60r18 : K2 :=
  .mv (tO 0) (some (sOf 88)) <|
  .mv (tO 1) (some (sOf 89)) <|
  .mv (tO 2) (some (sOf 90)) <|
  .mv (tO 11) (some (sOf 91)) <|
  .cl false 70 [(tO 88), (tO 89), (tO 90), (tO 91)] (some (sOf 92)) <|
  .mv (tO 92) (some (sOf 13)) <|
  .done
/- zsortordered.go:112 -/
noncomputable def f60r19 : K2 :=
  .mv (tO 13) (some (sOf 93)) <|
  .mv (tO 93) (some (sOf 1)) <|
  .done
/- zsortordered.go:116 -/
noncomputable def f60r20 : K2 :=
  .mv (tO 0) (some (sOf 95)) <|
  .mv (tO 1) (some (sOf 96)) <|
  .mv (tO 2) (some (sOf 97)) <|
  .mv (tO 11) (some (sOf 98)) <|
  .cl false 71 [(tO 95), (tO 96), (tO 97), (tO 98)] (some (sOf 99)) <|
  .mv (tO 99) (some (sOf 94)) <|
  .p1 (exN 0) (tO 94) (some (sOf 100)) <|
  .p1 (exN 1) (tO 94) (some (sOf 101)) <|
  .mv (tO 100) (some (sOf 14)) <|
  .mv (tO 101) (some (sOf 15)) <|
  .done
/- zsortordered.go:117 -/
noncomputable def f60r21 : K2 :=
  .mv (tO 15) (some (sOf 102)) <|
  .mv (tO 102) (some (sOf 9)) <|
  .done
/- zsortordered.go:119 -/
noncomputable def f60r22 : K2 :=
  .mv (tO 14) (some (sOf 103)) <|
  .mv (tO 1) (some (sOf 104)) <|
  .p2 (binF .sub (evBin look .sub 3 (.tmp 103) (.tmp 104))) (tO 103) (tO 104) (some (sOf 105)) <|
  .mv (tO 2) (some (sOf 106)) <|
  .mv (tO 14) (some (sOf 107)) <|
  .p2 (binF .sub (evBin look .sub 3 (.tmp 106) (.tmp 107))) (tO 106) (tO 107) (some (sOf 108)) <|
  .mv (tO 105) (some (sOf 16)) <|
  .mv (tO 108) (some (sOf 17)) <|
  .done
/- zsortordered.go:120 -/
noncomputable def f60r23 : K2 :=
  .mv (tO 10) (some (sOf 109)) <|
  .p2 (binF .quo (evBin look .quo 3 (.tmp 109) (.const (.int .i64 (8))))) (tO 109) (.con (.int .i64 (8))) (some (sOf 110)) <|
  .mv (tO 110) (some (sOf 18)) <|
  .done
/- zsortordered.go:121 -/
noncomputable def f60r24 : K2 :=
  .mv (tO 16) (some (sOf 111)) <|
  .mv (tO 17) (some (sOf 112)) <|
  .p2 (binF .lss (evBin look .lss 3 (.tmp 111) (.tmp 112))) (tO 111) (tO 112) (some (sOf 113)) <|
  .done
/- zsortordered.go:122 -/
noncomputable def f60r25 : K2 :=
  .mv (tO 16) (some (sOf 114)) <|
  .mv (tO 18) (some (sOf 115)) <|
  .p2 (binF .geq (evBin look .geq 3 (.tmp 114) (.tmp 115))) (tO 114) (tO 115) (some (sOf 116)) <|
  .mv (tO 116) (some (sOf 8)) <|
  .done
/- zsortordered.go:123 -/
noncomputable def f60r26 : K2 :=
  .mv (tO 0) (some (sOf 117)) <|
  .mv (tO 1) (some (sOf 118)) <|
  .mv (tO 14) (some (sOf 119)) <|
  .mv (tO 3) (some (sOf 120)) <|
  .cl false 60 [(tO 117), (tO 118), (tO 119), (tO 120)] (some (sOf 121)) <|
  .done
/- zsortordered.go:124 -/
noncomputable def f60r27 : K2 :=
  .mv (tO 14) (some (sOf 122)) <|
  .p2 (binF .add (evBin look .add 3 (.tmp 122) (.const (.int .i64 (1))))) (tO 122) (.con (.int .i64 (1))) (some (sOf 123)) <|
  .mv (tO 123) (some (sOf 1)) <|
  .done
/- zsortordered.go:126 -/
noncomputable def f60r28 : K2 :=
  .mv (tO 17) (some (sOf 124)) <|
  .mv (tO 18) (some (sOf 125)) <|
  .p2 (binF .geq (evBin look .geq 3 (.tmp 124) (.tmp 125))) (tO 124) (tO 125) (some (sOf 126)) <|
  .mv (tO 126) (some (sOf 8)) <|
  .done
/- zsortordered.go:127 -/
noncomputable def f60r29 : K2 :=
  .mv (tO 0) (some (sOf 127)) <|
  .mv (tO 14) (some (sOf 128)) <|
  .p2 (binF .add (evBin look .add 3 (.tmp 128) (.const (.int .i64 (1))))) (tO 128) (.con (.int .i64 (1))) (some (sOf 129)) <|
  .mv (tO 2) (some (sOf 130)) <|
  .mv (tO 3) (some (sOf 131)) <|
  .cl false 60 [(tO 127), (tO 129), (tO 130), (tO 131)] (some (sOf 132)) <|
  .done
/- zsortordered.go:128 -/
noncomputable def f60r30 : K2 :=
  .mv (tO 14) (some (sOf 133)) <|
  .mv (tO 133) (some (sOf 2)) <|
  .done
noncomputable def f60l0 : C2 := (.block 1 (.seq (.reg f60r2)
  (.seq (.seq (.reg f60r3)
  (.cond (tO 23) (.seq (.reg f60r4)
  .ret) .skip))
  (.seq (.seq (.reg f60r5)
  (.cond (tO 29) (.seq (.reg f60r6)
  .ret) .skip))
  (.seq (.seq (.reg f60r7)
  (.cond (tO 35) (.seq (.reg f60r8)
  (.reg f60r9)) .skip))
  (.seq (.reg f60r10)
  (.seq (.seq (.reg f60r11)
  (.cond (tO 50) (.seq (.reg f60r12)
  (.seq (.reg f60r13)
  (.reg f60r14))) .skip))
  (.seq (.seq (.reg f60r15)
  (.cond (tO 68) (.seq (.reg f60r16)
  (.cond (tO 72) .ret .skip)) .skip))
  (.seq (.seq (.reg f60r17)
  (.cond (tO 87) (.seq (.reg f60r18)
  (.seq (.reg f60r19)
  (.exit 1))) .skip))
  (.seq (.reg f60r20)
  (.seq (.reg f60r21)
  (.seq (.reg f60r22)
  (.seq (.reg f60r23)
  (.seq (.reg f60r24)
  (.cond (tO 113) (.seq (.reg f60r25)
  (.seq (.reg f60r26)
  (.reg f60r27))) (.seq (.reg f60r28)
  (.seq (.reg f60r29)
  (.reg f60r30))))))))))))))))))
noncomputable def f60b0 : Code := lpN f60body 0
theorem f60l0_eq : comp look f60b0 = f60l0 := by kernel_rfl
noncomputable def f60c : C2 := (.seq (.reg f60r0)
  (.seq (.reg f60r1)
  (.block 0 (.loop f60b0))))
theorem f60_eq : fnF look 60 = some ⟨134, f60c, []⟩ := by kernel_rfl

/- bits.go:302 -/
noncomputable def f61r0 : K2 :=
  .mv (.con (.int .i64 (0))) (some (sOf 2)) <|
  .done
/- bits.go:304 -/
noncomputable def f61r1 : K2 :=
  .mv (tO 0) (some (sOf 3)) <|
  .p1 (cvI .u32) (tO 3) (some (sOf 4)) <|
  .cl false 72 [(tO 4)] (some (sOf 5)) <|
  .mv (tO 5) (some (sOf 2)) <|
  .done
/- bits.go:306 -/
noncomputable def f61r2 : K2 :=
  .mv (tO 0) (some (sOf 6)) <|
  .cl false 73 [(tO 6)] (some (sOf 7)) <|
  .mv (tO 7) (some (sOf 2)) <|
  .done
noncomputable def f61c : C2 := (.seq (.reg f61r0)
  (.seq (.cond (.con (.bool false)) (.seq (.reg f61r1)
  .ret) .skip)
  (.seq (.reg f61r2)
  .ret)))
theorem f61_eq : fnF look 61 = some ⟨8, f61c, [.tmp 2]⟩ := by kernel_rfl

/-! slices.insertionSortOrdered[int]: parameters [32, 3, 3], temporaries 49 -/
noncomputable def f63body : Code := bodyN look 63
/- zsortordered.go:13 -/
noncomputable def f63r0 : K2 :=
  .mv (tO 1) (some (sOf 8)) <|
  .p2 (binF .add (evBin look .add 3 (.tmp 8) (.const (.int .i64 (1))))) (tO 8) (.con (.int .i64 (1))) (some (sOf 9)) <|
  .mv (tO 9) (some (sOf 6)) <|
  .done
/- zsortordered.go:13 -/
noncomputable def f63r1 : K2 :=
  .mv (tO 6) (some (sOf 10)) <|
  .mv (tO 2) (some (sOf 11)) <|
  .p2 (binF .lss (evBin look .lss 3 (.tmp 10) (.tmp 11))) (tO 10) (tO 11) (some (sOf 12)) <|
  .done
/- zsortordered.go:14 -/
noncomputable def f63r2 : K2 :=
  .mv (tO 6) (some (sOf 15)) <|
  .mv (tO 15) (some (sOf 7)) <|
  .done
noncomputable def f63r3_13 : K2 := .ln (fun xs _ => pickF xs) [(tO 19), (tO 29), (.con (.bool false))] (some (sOf 30)) <|
  .done
noncomputable def f63r3_12 : K2 := .gd (sOf 19) true (some (sOf 29)) (.cl false 69 [(tO 23), (tO 28)] (some (sOf 29)) <|
  f63r3_13) f63r3_13
noncomputable def f63r3_11 : K2 := .gd (sOf 19) true (some (sOf 28)) (.r1 ld1 (tO 27) (some (sOf 28)) <|
  f63r3_12) f63r3_12
noncomputable def f63r3_10 : K2 := .gd (sOf 19) true (some (sOf 27)) (.p2 (ixS 1) (tO 24) (tO 26) (some (sOf 27)) <|
  f63r3_11) f63r3_11
noncomputable def f63r3_9 : K2 := .gd (sOf 19) true (some (sOf 26)) (.p2 (binF .sub (evBin look .sub 3 (.tmp 25) (.const (.int .i64 (1))))) (tO 25) (.con (.int .i64 (1))) (some (sOf 26)) <|
  f63r3_10) f63r3_10
noncomputable def f63r3_8 : K2 := .gd (sOf 19) true (some (sOf 25)) (.mv (tO 7) (some (sOf 25)) <|
  f63r3_9) f63r3_9
noncomputable def f63r3_7 : K2 := .gd (sOf 19) true (some (sOf 24)) (.mv (tO 0) (some (sOf 24)) <|
  f63r3_8) f63r3_8
noncomputable def f63r3_6 : K2 := .gd (sOf 19) true (some (sOf 23)) (.r1 ld1 (tO 22) (some (sOf 23)) <|
  f63r3_7) f63r3_7
noncomputable def f63r3_5 : K2 := .gd (sOf 19) true (some (sOf 22)) (.p2 (ixS 1) (tO 20) (tO 21) (some (sOf 22)) <|
  f63r3_6) f63r3_6
noncomputable def f63r3_4 : K2 := .gd (sOf 19) true (some (sOf 21)) (.mv (tO 7) (some (sOf 21)) <|
  f63r3_5) f63r3_5
/- zsortordered.go:14 -/
noncomputable def f63r3 : K2 :=
  .mv (tO 7) (some (sOf 16)) <|
  .mv (tO 1) (some (sOf 17)) <|
  .p2 (binF .gtr (evBin look .gtr 3 (.tmp 16) (.tmp 17))) (tO 16) (tO 17) (some (sOf 18)) <|
  .mv (tO 18) (some (sOf 19)) <|
  .gd (sOf 19) true (some (sOf 20)) (.mv (tO 0) (some (sOf 20)) <|
  f63r3_4) f63r3_4
/- zsortordered.go:15 -/
noncomputable def f63r4 : K2 :=
  .mv (tO 0) (some (sOf 33)) <|
  .mv (tO 7) (some (sOf 34)) <|
  .mv (tO 0) (some (sOf 35)) <|
  .mv (tO 7) (some (sOf 36)) <|
  .p2 (binF .sub (evBin look .sub 3 (.tmp 36) (.const (.int .i64 (1))))) (tO 36) (.con (.int .i64 (1))) (some (sOf 37)) <|
  .mv (tO 0) (some (sOf 38)) <|
  .mv (tO 7) (some (sOf 39)) <|
  .p2 (binF .sub (evBin look .sub 3 (.tmp 39) (.const (.int .i64 (1))))) (tO 39) (.con (.int .i64 (1))) (some (sOf 40)) <|
  .p2 (ixS 1) (tO 38) (tO 40) (some (sOf 41)) <|
  .r1 ld1 (tO 41) (some (sOf 42)) <|
  .mv (tO 0) (some (sOf 43)) <|
  .mv (tO 7) (some (sOf 44)) <|
  .p2 (ixS 1) (tO 43) (tO 44) (some (sOf 45)) <|
  .r1 ld1 (tO 45) (some (sOf 46)) <|
  .p2 (ixS 1) (tO 33) (tO 34) (some (sOf 47)) <|
  .st false (st1 look 3) (tO 47) (tO 42) none <|
  .p2 (ixS 1) (tO 35) (tO 37) (some (sOf 48)) <|
  .st false (st1 look 3) (tO 48) (tO 46) none <|
  .done
/- zsortordered.go:14 -/
noncomputable def f63r5 : K2 :=
  .mv (tO 7) (some (sOf 31)) <|
  .p2 (binF .sub (evBin look .sub 3 (.tmp 31) (.const (.int .i64 (1))))) (tO 31) (.con (.int .i64 (1))) (some (sOf 32)) <|
  .mv (tO 32) (some (sOf 7)) <|
  .done
noncomputable def f63l1 : C2 := (.seq (.seq (.reg f63r3)
  (.cond (tO 30) .skip (.exit 2)))
  (.seq (.block 3 (.reg f63r4))
  (.reg f63r5)))
noncomputable def f63b1 : Code := lpN f63body 1
theorem f63l1_eq : comp look f63b1 = f63l1 := by kernel_rfl
/- zsortordered.go:13 -/
noncomputable def f63r6 : K2 :=
  .mv (tO 6) (some (sOf 13)) <|
  .p2 (binF .add (evBin look .add 3 (.tmp 13) (.const (.int .i64 (1))))) (tO 13) (.con (.int .i64 (1))) (some (sOf 14)) <|
  .mv (tO 14) (some (sOf 6)) <|
  .done
noncomputable def f63l0 : C2 := (.seq (.seq (.reg f63r1)
  (.cond (tO 12) .skip (.exit 0)))
  (.seq (.block 1 (.seq (.reg f63r2)
  (.block 2 (.loop f63b1))))
  (.reg f63r6)))
noncomputable def f63b0 : Code := lpN f63body 0
theorem f63l0_eq : comp look f63b0 = f63l0 := by kernel_rfl
noncomputable def f63c : C2 := (.seq (.reg f63r0)
  (.block 0 (.loop f63b0)))
theorem f63_eq : fnF look 63 = some ⟨49, f63c, []⟩ := by kernel_rfl

/-! slices.heapSortOrdered[int]: parameters [32, 3, 3], temporaries 56 -/
noncomputable def f64body : Code := bodyN look 64
/- zsortordered.go:41 -/
noncomputable def f64r0 : K2 :=
  .mv (tO 1) (some (sOf 11)) <|
  .mv (tO 11) (some (sOf 6)) <|
  .done
/- zsortordered.go:42 -/
noncomputable def f64r1 : K2 :=
  .mv (.con (.int .i64 (0))) (some (sOf 7)) <|
  .done
/- zsortordered.go:43 -/
noncomputable def f64r2 : K2 :=
  .mv (tO 2) (some (sOf 12)) <|
  .mv (tO 1) (some (sOf 13)) <|
  .p2 (binF .sub (evBin look .sub 3 (.tmp 12) (.tmp 13))) (tO 12) (tO 13) (some (sOf 14)) <|
  .mv (tO 14) (some (sOf 8)) <|
  .done
/- zsortordered.go:46 -/
noncomputable def f64r3 : K2 :=
  .mv (tO 8) (some (sOf 15)) <|
  .p2 (binF .sub (evBin look .sub 3 (.tmp 15) (.const (.int .i64 (1))))) (tO 15) (.con (.int .i64 (1))) (some (sOf 16)) <|
  .p2 (binF .quo (evBin look .quo 3 (.tmp 16) (.const (.int .i64 (2))))) (tO 16) (.con (.int .i64 (2))) (some (sOf 17)) <|
  .mv (tO 17) (some (sOf 9)) <|
  .done
/- zsortordered.go:46 -/
noncomputable def f64r4 : K2 :=
  .mv (tO 9) (some (sOf 18)) <|
  .p2 (binF .geq (evBin look .geq 3 (.tmp 18) (.const (.int .i64 (0))))) (tO 18) (.con (.int .i64 (0))) (some (sOf 19)) <|
  .done
/- zsortordered.go:47 -/
noncomputable def f64r5 : K2 :=
  .mv (tO 0) (some (sOf 22)) <|
  .mv (tO 9) (some (sOf 23)) <|
  .mv (tO 8) (some (sOf 24)) <|
  .mv (tO 6) (some (sOf 25)) <|
  .cl false 76 [(tO 22), (tO 23), (tO 24), (tO 25)] (some (sOf 26)) <|
  .done
/- zsortordered.go:46 -/
noncomputable def f64r6 : K2 :=
  .mv (tO 9) (some (sOf 20)) <|
  .p2 (binF .sub (evBin look .sub 3 (.tmp 20) (.const (.int .i64 (1))))) (tO 20) (.con (.int .i64 (1))) (some (sOf 21)) <|
  .mv (tO 21) (some (sOf 9)) <|
  .done
noncomputable def f64l0 : C2 := (.seq (.seq (.reg f64r4)
  (.cond (tO 19) .skip (.exit 0)))
  (.seq (.block 1 (.reg f64r5))
  (.reg f64r6)))
noncomputable def f64b0 : Code := lpN f64body 0
theorem f64l0_eq : comp look f64b0 = f64l0 := by kernel_rfl
/- zsortordered.go:51 -/
noncomputable def f64r7 : K2 :=
  .mv (tO 8) (some (sOf 27)) <|
  .p2 (binF .sub (evBin look .sub 3 (.tmp 27) (.const (.int .i64 (1))))) (tO 27) (.con (.int .i64 (1))) (some (sOf 28)) <|
  .mv (tO 28) (some (sOf 10)) <|
  .done
/- zsortordered.go:51 -/
noncomputable def f64r8 : K2 :=
  .mv (tO 10) (some (sOf 29)) <|
  .p2 (binF .geq (evBin look .geq 3 (.tmp 29) (.const (.int .i64 (0))))) (tO 29) (.con (.int .i64 (0))) (some (sOf 30)) <|
  .done
/- zsortordered.go:52 -/
noncomputable def f64r9 : K2 :=
  .mv (tO 0) (some (sOf 33)) <|
  .mv (tO 6) (some (sOf 34)) <|
  .mv (tO 0) (some (sOf 35)) <|
  .mv (tO 6) (some (sOf 36)) <|
  .mv (tO 10) (some (sOf 37)) <|
  .p2 (binF .add (evBin look .add 3 (.tmp 36) (.tmp 37))) (tO 36) (tO 37) (some (sOf 38)) <|
  .mv (tO 0) (some (sOf 39)) <|
  .mv (tO 6) (some (sOf 40)) <|
  .mv (tO 10) (some (sOf 41)) <|
  .p2 (binF .add (evBin look .add 3 (.tmp 40) (.tmp 41))) (tO 40) (tO 41) (some (sOf 42)) <|
  .p2 (ixS 1) (tO 39) (tO 42) (some (sOf 43)) <|
  .r1 ld1 (tO 43) (some (sOf 44)) <|
  .mv (tO 0) (some (sOf 45)) <|
  .mv (tO 6) (some (sOf 46)) <|
  .p2 (ixS 1) (tO 45) (tO 46) (some (sOf 47)) <|
  .r1 ld1 (tO 47) (some (sOf 48)) <|
  .p2 (ixS 1) (tO 33) (tO 34) (some (sOf 49)) <|
  .st false (st1 look 3) (tO 49) (tO 44) none <|
  .p2 (ixS 1) (tO 35) (tO 38) (some (sOf 50)) <|
  .st false (st1 look 3) (tO 50) (tO 48) none <|
  .done
/- zsortordered.go:53 -/
noncomputable def f64r10 : K2 :=
  .mv (tO 0) (some (sOf 51)) <|
  .mv (tO 7) (some (sOf 52)) <|
  .mv (tO 10) (some (sOf 53)) <|
  .mv (tO 6) (some (sOf 54)) <|
  .cl false 76 [(tO 51), (tO 52), (tO 53), (tO 54)] (some (sOf 55)) <|
  .done
/- zsortordered.go:51 -/
noncomputable def f64r11 : K2 :=
  .mv (tO 10) (some (sOf 31)) <|
  .p2 (binF .sub (evBin look .sub 3 (.tmp 31) (.const (.int .i64 (1))))) (tO 31) (.con (.int .i64 (1))) (some (sOf 32)) <|
  .mv (tO 32) (some (sOf 10)) <|
  .done
noncomputable def f64l1 : C2 := (.seq (.seq (.reg f64r8)
  (.cond (tO 30) .skip (.exit 2)))
  (.seq (.block 3 (.seq (.reg f64r9)
  (.reg f64r10)))
  (.reg f64r11)))
noncomputable def f64b1 : Code := lpN f64body 1
theorem f64l1_eq : comp look f64b1 = f64l1 := by kernel_rfl
noncomputable def f64c : C2 := (.seq (.reg f64r0)
  (.seq (.reg f64r1)
  (.seq (.reg f64r2)
  (.seq (.seq (.reg f64r3)
  (.block 0 (.loop f64b0)))
  (.seq (.reg f64r7)
  (.block 2 (.loop f64b1)))))))
theorem f64_eq : fnF look 64 = some ⟨56, f64c, []⟩ := by kernel_rfl

/-! slices.breakPatternsOrdered[int]: parameters [32, 3, 3], temporaries 65 -/
noncomputable def f65body : Code := bodyN look 65
/- zsortordered.go:243 -/
noncomputable def f65r0 : K2 :=
  .mv (tO 2) (some (sOf 11)) <|
  .mv (tO 1) (some (sOf 12)) <|
  .p2 (binF .sub (evBin look .sub 3 (.tmp 11) (.tmp 12))) (tO 11) (tO 12) (some (sOf 13)) <|
  .mv (tO 13) (some (sOf 6)) <|
  .done
/- zsortordered.go:244 -/
noncomputable def f65r1 : K2 :=
  .mv (tO 6) (some (sOf 14)) <|
  .p2 (binF .geq (evBin look .geq 3 (.tmp 14) (.const (.int .i64 (8))))) (tO 14) (.con (.int .i64 (8))) (some (sOf 15)) <|
  .done
/- zsortordered.go:245 -/
noncomputable def f65r2 : K2 :=
  .mv (tO 6) (some (sOf 16)) <|
  .p1 (cvI .u64) (tO 16) (some (sOf 17)) <|
  .al false (alF (AV.toC (.int .u64 (0))) 91 1) (some (sOf 7)) <|
  .st false (st1 look 91) (tO 7) (tO 17) none <|
  .done
/- zsortordered.go:246 -/
noncomputable def f65r3 : K2 :=
  .mv (tO 6) (some (sOf 18)) <|
  .cl false 77 [(tO 18)] (some (sOf 19)) <|
  .mv (tO 19) (some (sOf 8)) <|
  .done
/- zsortordered.go:248 -/
noncomputable def f65r4 : K2 :=
  .mv (tO 1) (some (sOf 20)) <|
  .mv (tO 6) (some (sOf 21)) <|
  .p2 (binF .quo (evBin look .quo 3 (.tmp 21) (.const (.int .i64 (4))))) (tO 21) (.con (.int .i64 (4))) (some (sOf 22)) <|
  .p2 (binF .mul (evBin look .mul 3 (.tmp 22) (.const (.int .i64 (2))))) (tO 22) (.con (.int .i64 (2))) (some (sOf 23)) <|
  .p2 (binF .add (evBin look .add 3 (.tmp 20) (.tmp 23))) (tO 20) (tO 23) (some (sOf 24)) <|
  .p2 (binF .sub (evBin look .sub 3 (.tmp 24) (.const (.int .i64 (1))))) (tO 24) (.con (.int .i64 (1))) (some (sOf 25)) <|
  .mv (tO 25) (some (sOf 9)) <|
  .done
/- zsortordered.go:248 -/
noncomputable def f65r5 : K2 :=
  .mv (tO 9) (some (sOf 26)) <|
  .mv (tO 1) (some (sOf 27)) <|
  .mv (tO 6) (some (sOf 28)) <|
  .p2 (binF .quo (evBin look .quo 3 (.tmp 28) (.const (.int .i64 (4))))) (tO 28) (.con (.int .i64 (4))) (some (sOf 29)) <|
  .p2 (binF .mul (evBin look .mul 3 (.tmp 29) (.const (.int .i64 (2))))) (tO 29) (.con (.int .i64 (2))) (some (sOf 30)) <|
  .p2 (binF .add (evBin look .add 3 (.tmp 27) (.tmp 30))) (tO 27) (tO 30) (some (sOf 31)) <|
  .p2 (binF .add (evBin look .add 3 (.tmp 31) (.const (.int .i64 (1))))) (tO 31) (.con (.int .i64 (1))) (some (sOf 32)) <|
  .p2 (binF .leq (evBin look .leq 3 (.tmp 26) (.tmp 32))) (tO 26) (tO 32) (some (sOf 33)) <|
  .done
/- zsortordered.go:249 -/
noncomputable def f65r6 : K2 :=
  .cl false 78 [(tO 7)] (some (sOf 36)) <|
  .mv (tO 8) (some (sOf 37)) <|
  .p2 (binF .sub (evBin look .sub 74 (.tmp 37) (.const (.int .u64 (1))))) (tO 37) (.con (.int .u64 (1))) (some (sOf 38)) <|
  .p2 (binF .and (evBin look .and 74 (.tmp 36) (.tmp 38))) (tO 36) (tO 38) (some (sOf 39)) <|
  .p1 (cvI .i64) (tO 39) (some (sOf 40)) <|
  .mv (tO 40) (some (sOf 10)) <|
  .done
/- zsortordered.go:250 -/
noncomputable def f65r7 : K2 :=
  .mv (tO 10) (some (sOf 41)) <|
  .mv (tO 6) (some (sOf 42)) <|
  .p2 (binF .geq (evBin look .geq 3 (.tmp 41) (.tmp 42))) (tO 41) (tO 42) (some (sOf 43)) <|
  .done
/- zsortordered.go:251 -/
noncomputable def f65r8 : K2 :=
  .mv (tO 10) (some (sOf 44)) <|
  .mv (tO 6) (some (sOf 45)) <|
  .p2 (binF .sub (evBin look .sub 3 (.tmp 44) (.tmp 45))) (tO 44) (tO 45) (some (sOf 46)) <|
  .mv (tO 46) (some (sOf 10)) <|
  .done
/- zsortordered.go:253 -/
noncomputable def f65r9 : K2 :=
  .mv (tO 0) (some (sOf 47)) <|
  .mv (tO 9) (some (sOf 48)) <|
  .mv (tO 0) (some (sOf 49)) <|
  .mv (tO 1) (some (sOf 50)) <|
  .mv (tO 10) (some (sOf 51)) <|
  .p2 (binF .add (evBin look .add 3 (.tmp 50) (.tmp 51))) (tO 50) (tO 51) (some (sOf 52)) <|
  .mv (tO 0) (some (sOf 53)) <|
  .mv (tO 1) (some (sOf 54)) <|
  .mv (tO 10) (some (sOf 55)) <|
  .p2 (binF .add (evBin look .add 3 (.tmp 54) (.tmp 55))) (tO 54) (tO 55) (some (sOf 56)) <|
  .p2 (ixS 1) (tO 53) (tO 56) (some (sOf 57)) <|
  .r1 ld1 (tO 57) (some (sOf 58)) <|
  .mv (tO 0) (some (sOf 59)) <|
  .mv (tO 9) (some (sOf 60)) <|
  .p2 (ixS 1) (tO 59) (tO 60) (some (sOf 61)) <|
  .r1 ld1 (tO 61) (some (sOf 62)) <|
  .p2 (ixS 1) (tO 47) (tO 48) (some (sOf 63)) <|
  .st false (st1 look 3) (tO 63) (tO 58) none <|
  .p2 (ixS 1) (tO 49) (tO 52) (some (sOf 64)) <|
  .st false (st1 look 3) (tO 64) (tO 62) none <|
  .done
/- zsortordered.go:248 -/
noncomputable def f65r10 : K2 :=
  .mv (tO 9) (some (sOf 34)) <|
  .p2 (binF .add (evBin look .add 3 (.tmp 34) (.const (.int .i64 (1))))) (tO 34) (.con (.int .i64 (1))) (some (sOf 35)) <|
  .mv (tO 35) (some (sOf 9)) <|
  .done
noncomputable def f65l0 : C2 := (.seq (.seq (.reg f65r5)
  (.cond (tO 33) .skip (.exit 0)))
  (.seq (.block 1 (.seq (.reg f65r6)
  (.seq (.seq (.reg f65r7)
  (.cond (tO 43) (.reg f65r8) .skip))
  (.reg f65r9))))
  (.reg f65r10)))
noncomputable def f65b0 : Code := lpN f65body 0
theorem f65l0_eq : comp look f65b0 = f65l0 := by kernel_rfl
noncomputable def f65c : C2 := (.seq (.reg f65r0)
  (.seq (.reg f65r1)
  (.cond (tO 15) (.seq (.reg f65r2)
  (.seq (.reg f65r3)
  (.seq (.reg f65r4)
  (.block 0 (.loop f65b0))))) .skip)))
theorem f65_eq : fnF look 65 = some ⟨65, f65c, []⟩ := by kernel_rfl

/- zsortordered.go:263 -/
noncomputable def f66r0 : K2 :=
  .mv (.con (.int .i64 (0))) (some (sOf 6)) <|
  .mv (.con (.int .i64 (0))) (some (sOf 7)) <|
  .done
/- zsortordered.go:269 -/
noncomputable def f66r1 : K2 :=
  .mv (tO 2) (some (sOf 13)) <|
  .mv (tO 1) (some (sOf 14)) <|
  .p2 (binF .sub (evBin look .sub 3 (.tmp 13) (.tmp 14))) (tO 13) (tO 14) (some (sOf 15)) <|
  .mv (tO 15) (some (sOf 8)) <|
  .done
/- zsortordered.go:272 -/
noncomputable def f66r2 : K2 :=
  .al false (alF (AV.toC (.int .i64 (0))) 3 1) (some (sOf 9)) <|
  .done
/- zsortordered.go:273 -/
noncomputable def f66r3 : K2 :=
  .mv (tO 1) (some (sOf 16)) <|
  .mv (tO 8) (some (sOf 17)) <|
  .p2 (binF .quo (evBin look .quo 3 (.tmp 17) (.const (.int .i64 (4))))) (tO 17) (.con (.int .i64 (4))) (some (sOf 18)) <|
  .p2 (binF .mul (evBin look .mul 3 (.tmp 18) (.const (.int .i64 (1))))) (tO 18) (.con (.int .i64 (1))) (some (sOf 19)) <|
  .p2 (binF .add (evBin look .add 3 (.tmp 16) (.tmp 19))) (tO 16) (tO 19) (some (sOf 20)) <|
  .mv (tO 20) (some (sOf 10)) <|
  .done
/- zsortordered.go:274 -/
noncomputable def f66r4 : K2 :=
  .mv (tO 1) (some (sOf 21)) <|
  .mv (tO 8) (some (sOf 22)) <|
  .p2 (binF .quo (evBin look .quo 3 (.tmp 22) (.const (.int .i64 (4))))) (tO 22) (.con (.int .i64 (4))) (some (sOf 23)) <|
  .p2 (binF .mul (evBin look .mul 3 (.tmp 23) (.const (.int .i64 (2))))) (tO 23) (.con (.int .i64 (2))) (some (sOf 24)) <|
  .p2 (binF .add (evBin look .add 3 (.tmp 21) (.tmp 24))) (tO 21) (tO 24) (some (sOf 25)) <|
  .mv (tO 25) (some (sOf 11)) <|
  .done
/- zsortordered.go:275 -/
noncomputable def f66r5 : K2 :=
  .mv (tO 1) (some (sOf 26)) <|
  .mv (tO 8) (some (sOf 27)) <|
  .p2 (binF .quo (evBin look .quo 3 (.tmp 27) (.const (.int .i64 (4))))) (tO 27) (.con (.int .i64 (4))) (some (sOf 28)) <|
  .p2 (binF .mul (evBin look .mul 3 (.tmp 28) (.const (.int .i64 (3))))) (tO 28) (.con (.int .i64 (3))) (some (sOf 29)) <|
  .p2 (binF .add (evBin look .add 3 (.tmp 26) (.tmp 29))) (tO 26) (tO 29) (some (sOf 30)) <|
  .mv (tO 30) (some (sOf 12)) <|
  .done
/- zsortordered.go:278 -/
noncomputable def f66r6 : K2 :=
  .mv (tO 8) (some (sOf 31)) <|
  .p2 (binF .geq (evBin look .geq 3 (.tmp 31) (.const (.int .i64 (8))))) (tO 31) (.con (.int .i64 (8))) (some (sOf 32)) <|
  .done
/- zsortordered.go:279 -/
noncomputable def f66r7 : K2 :=
  .mv (tO 8) (some (sOf 33)) <|
  .p2 (binF .geq (evBin look .geq 3 (.tmp 33) (.const (.int .i64 (50))))) (tO 33) (.con (.int .i64 (50))) (some (sOf 34)) <|
  .done
/- zsortordered.go:281 -/
noncomputable def f66r8 : K2 :=
  .mv (tO 0) (some (sOf 35)) <|
  .mv (tO 10) (some (sOf 36)) <|
  .cl false 79 [(tO 35), (tO 36), (tO 9)] (some (sOf 37)) <|
  .mv (tO 37) (some (sOf 10)) <|
  .done
/- zsortordered.go:282 -/
noncomputable def f66r9 : K2 :=
  .mv (tO 0) (some (sOf 38)) <|
  .mv (tO 11) (some (sOf 39)) <|
  .cl false 79 [(tO 38), (tO 39), (tO 9)] (some (sOf 40)) <|
  .mv (tO 40) (some (sOf 11)) <|
  .done
/- zsortordered.go:283 -/
noncomputable def f66r10 : K2 :=
  .mv (tO 0) (some (sOf 41)) <|
  .mv (tO 12) (some (sOf 42)) <|
  .cl false 79 [(tO 41), (tO 42), (tO 9)] (some (sOf 43)) <|
  .mv (tO 43) (some (sOf 12)) <|
  .done
/- zsortordered.go:286 -/
noncomputable def f66r11 : K2 :=
  .mv (tO 0) (some (sOf 44)) <|
  .mv (tO 10) (some (sOf 45)) <|
  .mv (tO 11) (some (sOf 46)) <|
  .mv (tO 12) (some (sOf 47)) <|
  .cl false 80 [(tO 44), (tO 45), (tO 46), (tO 47), (tO 9)] (some (sOf 48)) <|
  .mv (tO 48) (some (sOf 11)) <|
  .done
/- zsortordered.go:289 -/
noncomputable def f66r12 : K2 :=
  .r1 ld1 (tO 9) (some (sOf 49)) <|
  .done
/- zsortordered.go:290 -/
noncomputable def f66r13 : K2 :=
  .p2 (binF .eql (evBin look .eql 3 (.tmp 49) (.const (.int .i64 (0))))) (tO 49) (.con (.int .i64 (0))) (some (sOf 52)) <|
  .mv (tO 52) (some (sOf 51)) <|
  .done
/- zsortordered.go:291 -/
noncomputable def f66r14 : K2 :=
  .mv (tO 11) (some (sOf 53)) <|
  .mv (tO 53) (some (sOf 6)) <|
  .mv (.con (.int .i64 (1))) (some (sOf 7)) <|
  .done
/- zsortordered.go:292 -/
noncomputable def f66r15 : K2 :=
  .p2 (binF .eql (evBin look .eql 3 (.tmp 49) (.const (.int .i64 (12))))) (tO 49) (.con (.int .i64 (12))) (some (sOf 55)) <|
  .mv (tO 55) (some (sOf 54)) <|
  .done
/- zsortordered.go:293 -/
noncomputable def f66r16 : K2 :=
  .mv (tO 11) (some (sOf 56)) <|
  .mv (tO 56) (some (sOf 6)) <|
  .mv (.con (.int .i64 (2))) (some (sOf 7)) <|
  .done
/- zsortordered.go:295 -/
noncomputable def f66r17 : K2 :=
  .mv (tO 11) (some (sOf 50)) <|
  .mv (tO 50) (some (sOf 6)) <|
  .mv (.con (.int .i64 (0))) (some (sOf 7)) <|
  .done
noncomputable def f66c : C2 := (.seq (.reg f66r0)
  (.seq (.reg f66r1)
  (.seq (.reg f66r2)
  (.seq (.reg f66r3)
  (.seq (.reg f66r4)
  (.seq (.reg f66r5)
  (.seq (.seq (.reg f66r6)
  (.cond (tO 32) (.seq (.seq (.reg f66r7)
  (.cond (tO 34) (.seq (.reg f66r8)
  (.seq (.reg f66r9)
  (.reg f66r10))) .skip))
  (.reg f66r11)) .skip))
  (.seq (.reg f66r12)
  (.block 0 (.seq (.reg f66r13)
  (.cond (tO 51) (.seq (.reg f66r14)
  .ret) (.seq (.reg f66r15)
  (.cond (tO 54) (.seq (.reg f66r16)
  .ret) (.seq (.reg f66r17)
  .ret))))))))))))))
theorem f66_eq : fnF look 66 = some ⟨57, f66c, [.tmp 6, .tmp 7]⟩ := by kernel_rfl

/-! slices.reverseRangeOrdered[int]: parameters [32, 3, 3], temporaries 32 -/
noncomputable def f67body : Code := bodyN look 67
/- zsortordered.go:322 -/
noncomputable def f67r0 : K2 :=
  .mv (tO 1) (some (sOf 8)) <|
  .mv (tO 8) (some (sOf 6)) <|
  .done
/- zsortordered.go:323 -/
noncomputable def f67r1 : K2 :=
  .mv (tO 2) (some (sOf 9)) <|
  .p2 (binF .sub (evBin look .sub 3 (.tmp 9) (.const (.int .i64 (1))))) (tO 9) (.con (.int .i64 (1))) (some (sOf 10)) <|
  .mv (tO 10) (some (sOf 7)) <|
  .done
/- zsortordered.go:324 -/
noncomputable def f67r2 : K2 :=
  .mv (tO 6) (some (sOf 11)) <|
  .mv (tO 7) (some (sOf 12)) <|
  .p2 (binF .lss (evBin look .lss 3 (.tmp 11) (.tmp 12))) (tO 11) (tO 12) (some (sOf 13)) <|
  .done
/- zsortordered.go:325 -/
noncomputable def f67r3 : K2 :=
  .mv (tO 0) (some (sOf 14)) <|
  .mv (tO 6) (some (sOf 15)) <|
  .mv (tO 0) (some (sOf 16)) <|
  .mv (tO 7) (some (sOf 17)) <|
  .mv (tO 0) (some (sOf 18)) <|
  .mv (tO 7) (some (sOf 19)) <|
  .p2 (ixS 1) (tO 18) (tO 19) (some (sOf 20)) <|
  .r1 ld1 (tO 20) (some (sOf 21)) <|
  .mv (tO 0) (some (sOf 22)) <|
  .mv (tO 6) (some (sOf 23)) <|
  .p2 (ixS 1) (tO 22) (tO 23) (some (sOf 24)) <|
  .r1 ld1 (tO 24) (some (sOf 25)) <|
  .p2 (ixS 1) (tO 14) (tO 15) (some (sOf 26)) <|
  .st false (st1 look 3) (tO 26) (tO 21) none <|
  .p2 (ixS 1) (tO 16) (tO 17) (some (sOf 27)) <|
  .st false (st1 look 3) (tO 27) (tO 25) none <|
  .done
/- zsortordered.go:326 -/
noncomputable def f67r4 : K2 :=
  .mv (tO 6) (some (sOf 28)) <|
  .p2 (binF .add (evBin look .add 3 (.tmp 28) (.const (.int .i64 (1))))) (tO 28) (.con (.int .i64 (1))) (some (sOf 29)) <|
  .mv (tO 29) (some (sOf 6)) <|
  .done
/- zsortordered.go:327 -/
noncomputable def f67r5 : K2 :=
  .mv (tO 7) (some (sOf 30)) <|
  .p2 (binF .sub (evBin look .sub 3 (.tmp 30) (.const (.int .i64 (1))))) (tO 30) (.con (.int .i64 (1))) (some (sOf 31)) <|
  .mv (tO 31) (some (sOf 7)) <|
  .done
noncomputable def f67l0 : C2 := (.seq (.seq (.reg f67r2)
  (.cond (tO 13) .skip (.exit 0)))
  (.block 1 (.seq (.reg f67r3)
  (.seq (.reg f67r4)
  (.reg f67r5)))))
noncomputable def f67b0 : Code := lpN f67body 0
theorem f67l0_eq : comp look f67b0 = f67l0 := by kernel_rfl
noncomputable def f67c : C2 := (.seq (.reg f67r0)
  (.seq (.reg f67r1)
  (.block 0 (.loop f67b0))))
theorem f67_eq : fnF look 67 = some ⟨32, f67c, []⟩ := by kernel_rfl

/-! slices.partialInsertionSortOrdered[int]: parameters [32, 3, 3], temporaries 133 -/
noncomputable def f68body : Code := bodyN look 68
/- zsortordered.go:197 -/
noncomputable def f68r0 : K2 :=
  .mv (.con (.bool false)) (some (sOf 6)) <|
  .done
/- zsortordered.go:202 -/
noncomputable def f68r1 : K2 :=
  .mv (tO 1) (some (sOf 11)) <|
  .p2 (binF .add (evBin look .add 3 (.tmp 11) (.const (.int .i64 (1))))) (tO 11) (.con (.int .i64 (1))) (some (sOf 12)) <|
  .mv (tO 12) (some (sOf 7)) <|
  .done
/- zsortordered.go:203 -/
noncomputable def f68r2 : K2 :=
  .mv (.con (.int .i64 (0))) (some (sOf 8)) <|
  .done
/- zsortordered.go:203 -/
noncomputable def f68r3 : K2 :=
  .mv (tO 8) (some (sOf 13)) <|
  .p2 (binF .lss (evBin look .lss 3 (.tmp 13) (.const (.int .i64 (5))))) (tO 13) (.con (.int .i64 (5))) (some (sOf 14)) <|
  .done
noncomputable def f68r4_14 : K2 := .ln (fun xs _ => pickF xs) [(tO 20), (tO 31), (.con (.bool false))] (some (sOf 32)) <|
  .done
noncomputable def f68r4_13 : K2 := .gd (sOf 20) true (some (sOf 31)) (.p1 notF (tO 30) (some (sOf 31)) <|
  f68r4_14) f68r4_14
noncomputable def f68r4_12 : K2 := .gd (sOf 20) true (some (sOf 30)) (.cl false 69 [(tO 24), (tO 29)] (some (sOf 30)) <|
  f68r4_13) f68r4_13
noncomputable def f68r4_11 : K2 := .gd (sOf 20) true (some (sOf 29)) (.r1 ld1 (tO 28) (some (sOf 29)) <|
  f68r4_12) f68r4_12
noncomputable def f68r4_10 : K2 := .gd (sOf 20) true (some (sOf 28)) (.p2 (ixS 1) (tO 25) (tO 27) (some (sOf 28)) <|
  f68r4_11) f68r4_11
noncomputable def f68r4_9 : K2 := .gd (sOf 20) true (some (sOf 27)) (.p2 (binF .sub (evBin look .sub 3 (.tmp 26) (.const (.int .i64 (1))))) (tO 26) (.con (.int .i64 (1))) (some (sOf 27)) <|
  f68r4_10) f68r4_10
noncomputable def f68r4_8 : K2 := .gd (sOf 20) true (some (sOf 26)) (.mv (tO 7) (some (sOf 26)) <|
  f68r4_9) f68r4_9
noncomputable def f68r4_7 : K2 := .gd (sOf 20) true (some (sOf 25)) (.mv (tO 0) (some (sOf 25)) <|
  f68r4_8) f68r4_8
noncomputable def f68r4_6 : K2 := .gd (sOf 20) true (some (sOf 24)) (.r1 ld1 (tO 23) (some (sOf 24)) <|
  f68r4_7) f68r4_7
noncomputable def f68r4_5 : K2 := .gd (sOf 20) true (some (sOf 23)) (.p2 (ixS 1) (tO 21) (tO 22) (some (sOf 23)) <|
  f68r4_6) f68r4_6
noncomputable def f68r4_4 : K2 := .gd (sOf 20) true (some (sOf 22)) (.mv (tO 7) (some (sOf 22)) <|
  f68r4_5) f68r4_5
/- zsortordered.go:204 -/
noncomputable def f68r4 : K2 :=
  .mv (tO 7) (some (sOf 17)) <|
  .mv (tO 2) (some (sOf 18)) <|
  .p2 (binF .lss (evBin look .lss 3 (.tmp 17) (.tmp 18))) (tO 17) (tO 18) (some (sOf 19)) <|
  .mv (tO 19) (some (sOf 20)) <|
  .gd (sOf 20) true (some (sOf 21)) (.mv (tO 0) (some (sOf 21)) <|
  f68r4_4) f68r4_4
/- zsortordered.go:205 -/
noncomputable def f68r5 : K2 :=
  .mv (tO 7) (some (sOf 33)) <|
  .p2 (binF .add (evBin look .add 3 (.tmp 33) (.const (.int .i64 (1))))) (tO 33) (.con (.int .i64 (1))) (some (sOf 34)) <|
  .mv (tO 34) (some (sOf 7)) <|
  .done
noncomputable def f68l1 : C2 := (.seq (.seq (.reg f68r4)
  (.cond (tO 32) .skip (.exit 2)))
  (.block 3 (.reg f68r5)))
noncomputable def f68b1 : Code := lpN f68body 1
theorem f68l1_eq : comp look f68b1 = f68l1 := by kernel_rfl
/- zsortordered.go:208 -/
noncomputable def f68r6 : K2 :=
  .mv (tO 7) (some (sOf 35)) <|
  .mv (tO 2) (some (sOf 36)) <|
  .p2 (binF .eql (evBin look .eql 3 (.tmp 35) (.tmp 36))) (tO 35) (tO 36) (some (sOf 37)) <|
  .done
/- zsortordered.go:209 -/
noncomputable def f68r7 : K2 :=
  .mv (.con (.bool true)) (some (sOf 6)) <|
  .done
/- zsortordered.go:212 -/
noncomputable def f68r8 : K2 :=
  .mv (tO 2) (some (sOf 38)) <|
  .mv (tO 1) (some (sOf 39)) <|
  .p2 (binF .sub (evBin look .sub 3 (.tmp 38) (.tmp 39))) (tO 38) (tO 39) (some (sOf 40)) <|
  .p2 (binF .lss (evBin look .lss 3 (.tmp 40) (.const (.int .i64 (50))))) (tO 40) (.con (.int .i64 (50))) (some (sOf 41)) <|
  .done
/- zsortordered.go:213 -/
noncomputable def f68r9 : K2 :=
  .mv (.con (.bool false)) (some (sOf 6)) <|
  .done
/- zsortordered.go:216 -/
noncomputable def f68r10 : K2 :=
  .mv (tO 0) (some (sOf 42)) <|
  .mv (tO 7) (some (sOf 43)) <|
  .mv (tO 0) (some (sOf 44)) <|
  .mv (tO 7) (some (sOf 45)) <|
  .p2 (binF .sub (evBin look .sub 3 (.tmp 45) (.const (.int .i64 (1))))) (tO 45) (.con (.int .i64 (1))) (some (sOf 46)) <|
  .mv (tO 0) (some (sOf 47)) <|
  .mv (tO 7) (some (sOf 48)) <|
  .p2 (binF .sub (evBin look .sub 3 (.tmp 48) (.const (.int .i64 (1))))) (tO 48) (.con (.int .i64 (1))) (some (sOf 49)) <|
  .p2 (ixS 1) (tO 47) (tO 49) (some (sOf 50)) <|
  .r1 ld1 (tO 50) (some (sOf 51)) <|
  .mv (tO 0) (some (sOf 52)) <|
  .mv (tO 7) (some (sOf 53)) <|
  .p2 (ixS 1) (tO 52) (tO 53) (some (sOf 54)) <|
  .r1 ld1 (tO 54) (some (sOf 55)) <|
  .p2 (ixS 1) (tO 42) (tO 43) (some (sOf 56)) <|
  .st false (st1 look 3) (tO 56) (tO 51) none <|
  .p2 (ixS 1) (tO 44) (tO 46) (some (sOf 57)) <|
  .st false (st1 look 3) (tO 57) (tO 55) none <|
  .done
/- zsortordered.go:219 -/
noncomputable def f68r11 : K2 :=
  .mv (tO 7) (some (sOf 58)) <|
  .mv (tO 1) (some (sOf 59)) <|
  .p2 (binF .sub (evBin look .sub 3 (.tmp 58) (.tmp 59))) (tO 58) (tO 59) (some (sOf 60)) <|
  .p2 (binF .geq (evBin look .geq 3 (.tmp 60) (.const (.int .i64 (2))))) (tO 60) (.con (.int .i64 (2))) (some (sOf 61)) <|
  .done
/- zsortordered.go:220 -/
noncomputable def f68r12 : K2 :=
  .mv (tO 7) (some (sOf 62)) <|
  .p2 (binF .sub (evBin look .sub 3 (.tmp 62) (.const (.int .i64 (1))))) (tO 62) (.con (.int .i64 (1))) (some (sOf 63)) <|
  .mv (tO 63) (some (sOf 9)) <|
  .done
/- zsortordered.go:220 -/
noncomputable def f68r13 : K2 :=
  .mv (tO 9) (some (sOf 64)) <|
  .p2 (binF .geq (evBin look .geq 3 (.tmp 64) (.const (.int .i64 (1))))) (tO 64) (.con (.int .i64 (1))) (some (sOf 65)) <|
  .done
/- zsortordered.go:221 -/
noncomputable def f68r14 : K2 :=
  .mv (tO 0) (some (sOf 68)) <|
  .mv (tO 9) (some (sOf 69)) <|
  .p2 (ixS 1) (tO 68) (tO 69) (some (sOf 70)) <|
  .r1 ld1 (tO 70) (some (sOf 71)) <|
  .mv (tO 0) (some (sOf 72)) <|
  .mv (tO 9) (some (sOf 73)) <|
  .p2 (binF .sub (evBin look .sub 3 (.tmp 73) (.const (.int .i64 (1))))) (tO 73) (.con (.int .i64 (1))) (some (sOf 74)) <|
  .p2 (ixS 1) (tO 72) (tO 74) (some (sOf 75)) <|
  .r1 ld1 (tO 75) (some (sOf 76)) <|
  .cl false 69 [(tO 71), (tO 76)] (some (sOf 77)) <|
  .p1 notF (tO 77) (some (sOf 78)) <|
  .done
/- zsortordered.go:224 -/
noncomputable def f68r15 : K2 :=
  .mv (tO 0) (some (sOf 79)) <|
  .mv (tO 9) (some (sOf 80)) <|
  .mv (tO 0) (some (sOf 81)) <|
  .mv (tO 9) (some (sOf 82)) <|
  .p2 (binF .sub (evBin look .sub 3 (.tmp 82) (.const (.int .i64 (1))))) (tO 82) (.con (.int .i64 (1))) (some (sOf 83)) <|
  .mv (tO 0) (some (sOf 84)) <|
  .mv (tO 9) (some (sOf 85)) <|
  .p2 (binF .sub (evBin look .sub 3 (.tmp 85) (.const (.int .i64 (1))))) (tO 85) (.con (.int .i64 (1))) (some (sOf 86)) <|
  .p2 (ixS 1) (tO 84) (tO 86) (some (sOf 87)) <|
  .r1 ld1 (tO 87) (some (sOf 88)) <|
  .mv (tO 0) (some (sOf 89)) <|
  .mv (tO 9) (some (sOf 90)) <|
  .p2 (ixS 1) (tO 89) (tO 90) (some (sOf 91)) <|
  .r1 ld1 (tO 91) (some (sOf 92)) <|
  .p2 (ixS 1) (tO 79) (tO 80) (some (sOf 93)) <|
  .st false (st1 look 3) (tO 93) (tO 88) none <|
  .p2 (ixS 1) (tO 81) (tO 83) (some (sOf 94)) <|
  .st false (st1 look 3) (tO 94) (tO 92) none <|
  .done
/- zsortordered.go:220 -/
noncomputable def f68r16 : K2 :=
  .mv (tO 9) (some (sOf 66)) <|
  .p2 (binF .sub (evBin look .sub 3 (.tmp 66) (.const (.int .i64 (1))))) (tO 66) (.con (.int .i64 (1))) (some (sOf 67)) <|
  .mv (tO 67) (some (sOf 9)) <|
  .done
noncomputable def f68l2 : C2 := (.seq (.seq (.reg f68r13)
  (.cond (tO 65) .skip (.exit 4)))
  (.seq (.block 5 (.seq (.seq (.reg f68r14)
  (.cond (tO 78) (.exit 4) .skip))
  (.reg f68r15)))
  (.reg f68r16)))
noncomputable def f68b2 : Code := lpN f68body 2
theorem f68l2_eq : comp look f68b2 = f68l2 := by kernel_rfl
/- zsortordered.go:228 -/
noncomputable def f68r17 : K2 :=
  .mv (tO 2) (some (sOf 95)) <|
  .mv (tO 7) (some (sOf 96)) <|
  .p2 (binF .sub (evBin look .sub 3 (.tmp 95) (.tmp 96))) (tO 95) (tO 96) (some (sOf 97)) <|
  .p2 (binF .geq (evBin look .geq 3 (.tmp 97) (.const (.int .i64 (2))))) (tO 97) (.con (.int .i64 (2))) (some (sOf 98)) <|
  .done
/- zsortordered.go:229 -/
noncomputable def f68r18 : K2 :=
  .mv (tO 7) (some (sOf 99)) <|
  .p2 (binF .add (evBin look .add 3 (.tmp 99) (.const (.int .i64 (1))))) (tO 99) (.con (.int .i64 (1))) (some (sOf 100)) <|
  .mv (tO 100) (some (sOf 10)) <|
  .done
/- zsortordered.go:229 -/
noncomputable def f68r19 : K2 :=
  .mv (tO 10) (some (sOf 101)) <|
  .mv (tO 2) (some (sOf 102)) <|
  .p2 (binF .lss (evBin look .lss 3 (.tmp 101) (.tmp 102))) (tO 101) (tO 102) (some (sOf 103)) <|
  .done
/- zsortordered.go:230 -/
noncomputable def f68r20 : K2 :=
  .mv (tO 0) (some (sOf 106)) <|
  .mv (tO 10) (some (sOf 107)) <|
  .p2 (ixS 1) (tO 106) (tO 107) (some (sOf 108)) <|
  .r1 ld1 (tO 108) (some (sOf 109)) <|
  .mv (tO 0) (some (sOf 110)) <|
  .mv (tO 10) (some (sOf 111)) <|
  .p2 (binF .sub (evBin look .sub 3 (.tmp 111) (.const (.int .i64 (1))))) (tO 111) (.con (.int .i64 (1))) (some (sOf 112)) <|
  .p2 (ixS 1) (tO 110) (tO 112) (some (sOf 113)) <|
  .r1 ld1 (tO 113) (some (sOf 114)) <|
  .cl false 69 [(tO 109), (tO 114)] (some (sOf 115)) <|
  .p1 notF (tO 115) (some (sOf 116)) <|
  .done
/- zsortordered.go:233 -/
noncomputable def f68r21 : K2 :=
  .mv (tO 0) (some (sOf 117)) <|
  .mv (tO 10) (some (sOf 118)) <|
  .mv (tO 0) (some (sOf 119)) <|
  .mv (tO 10) (some (sOf 120)) <|
  .p2 (binF .sub (evBin look .sub 3 (.tmp 120) (.const (.int .i64 (1))))) (tO 120) (.con (.int .i64 (1))) (some (sOf 121)) <|
  .mv (tO 0) (some (sOf 122)) <|
  .mv (tO 10) (some (sOf 123)) <|
  .p2 (binF .sub (evBin look .sub 3 (.tmp 123) (.const (.int .i64 (1))))) (tO 123) (.con (.int .i64 (1))) (some (sOf 124)) <|
  .p2 (ixS 1) (tO 122) (tO 124) (some (sOf 125)) <|
  .r1 ld1 (tO 125) (some (sOf 126)) <|
  .mv (tO 0) (some (sOf 127)) <|
  .mv (tO 10) (some (sOf 128)) <|
  .p2 (ixS 1) (tO 127) (tO 128) (some (sOf 129)) <|
  .r1 ld1 (tO 129) (some (sOf 130)) <|
  .p2 (ixS 1) (tO 117) (tO 118) (some (sOf 131)) <|
  .st false (st1 look 3) (tO 131) (tO 126) none <|
  .p2 (ixS 1) (tO 119) (tO 121) (some (sOf 132)) <|
  .st false (st1 look 3) (tO 132) (tO 130) none <|
  .done
/- zsortordered.go:229 -/
noncomputable def f68r22 : K2 :=
  .mv (tO 10) (some (sOf 104)) <|
  .p2 (binF .add (evBin look .add 3 (.tmp 104) (.const (.int .i64 (1))))) (tO 104) (.con (.int .i64 (1))) (some (sOf 105)) <|
  .mv (tO 105) (some (sOf 10)) <|
  .done
noncomputable def f68l3 : C2 := (.seq (.seq (.reg f68r19)
  (.cond (tO 103) .skip (.exit 6)))
  (.seq (.block 7 (.seq (.seq (.reg f68r20)
  (.cond (tO 116) (.exit 6) .skip))
  (.reg f68r21)))
  (.reg f68r22)))
noncomputable def f68b3 : Code := lpN f68body 3
theorem f68l3_eq : comp look f68b3 = f68l3 := by kernel_rfl
/- zsortordered.go:203 -/
noncomputable def f68r23 : K2 :=
  .mv (tO 8) (some (sOf 15)) <|
  .p2 (binF .add (evBin look .add 3 (.tmp 15) (.const (.int .i64 (1))))) (tO 15) (.con (.int .i64 (1))) (some (sOf 16)) <|
  .mv (tO 16) (some (sOf 8)) <|
  .done
noncomputable def f68l0 : C2 := (.seq (.seq (.reg f68r3)
  (.cond (tO 14) .skip (.exit 0)))
  (.seq (.block 1 (.seq (.block 2 (.loop f68b1))
  (.seq (.seq (.reg f68r6)
  (.cond (tO 37) (.seq (.reg f68r7)
  .ret) .skip))
  (.seq (.seq (.reg f68r8)
  (.cond (tO 41) (.seq (.reg f68r9)
  .ret) .skip))
  (.seq (.reg f68r10)
  (.seq (.seq (.reg f68r11)
  (.cond (tO 61) (.seq (.reg f68r12)
  (.block 4 (.loop f68b2))) .skip))
  (.seq (.reg f68r17)
  (.cond (tO 98) (.seq (.reg f68r18)
  (.block 6 (.loop f68b3))) .skip))))))))
  (.reg f68r23)))
noncomputable def f68b0 : Code := lpN f68body 0
theorem f68l0_eq : comp look f68b0 = f68l0 := by kernel_rfl
/- zsortordered.go:237 -/
noncomputable def f68r24 : K2 :=
  .mv (.con (.bool false)) (some (sOf 6)) <|
  .done
noncomputable def f68c : C2 := (.seq (.reg f68r0)
  (.seq (.reg f68r1)
  (.seq (.seq (.reg f68r2)
  (.block 0 (.loop f68b0)))
  (.seq (.reg f68r24)
  .ret))))
theorem f68_eq : fnF look 68 = some ⟨133, f68c, [.tmp 6]⟩ := by kernel_rfl

/- cmp.go:28 -/
noncomputable def f69r0 : K2 :=
  .mv (.con (.bool false)) (some (sOf 4)) <|
  .done
noncomputable def f69r1_10 : K2 := .ln (fun xs _ => pickF xs) [(tO 12), (.con (.bool true)), (tO 15)] (some (sOf 16)) <|
  .mv (tO 16) (some (sOf 4)) <|
  .done
noncomputable def f69r1_9 : K2 := .gd (sOf 12) false (some (sOf 15)) (.p2 (binF .lss (evBin look .lss 3 (.tmp 13) (.tmp 14))) (tO 13) (tO 14) (some (sOf 15)) <|
  f69r1_10) f69r1_10
noncomputable def f69r1_8 : K2 := .gd (sOf 12) false (some (sOf 14)) (.mv (tO 1) (some (sOf 14)) <|
  f69r1_9) f69r1_9
noncomputable def f69r1_5 : K2 := .ln (fun xs _ => pickF xs) [(tO 7), (tO 10), (.con (.bool false))] (some (sOf 11)) <|
  .mv (tO 11) (some (sOf 12)) <|
  .gd (sOf 12) false (some (sOf 13)) (.mv (tO 0) (some (sOf 13)) <|
  f69r1_8) f69r1_8
noncomputable def f69r1_4 : K2 := .gd (sOf 7) true (some (sOf 10)) (.p1 notF (tO 9) (some (sOf 10)) <|
  f69r1_5) f69r1_5
noncomputable def f69r1_3 : K2 := .gd (sOf 7) true (some (sOf 9)) (.cl false 81 [(tO 8)] (some (sOf 9)) <|
  f69r1_4) f69r1_4
/- cmp.go:29 -/
noncomputable def f69r1 : K2 :=
  .mv (tO 0) (some (sOf 5)) <|
  .cl false 81 [(tO 5)] (some (sOf 6)) <|
  .mv (tO 6) (some (sOf 7)) <|
  .gd (sOf 7) true (some (sOf 8)) (.mv (tO 1) (some (sOf 8)) <|
  f69r1_3) f69r1_3
noncomputable def f69c : C2 := (.seq (.reg f69r0)
  (.seq (.reg f69r1)
  .ret))
theorem f69_eq : fnF look 69 = some ⟨17, f69c, [.tmp 4]⟩ := by kernel_rfl

/-! slices.partitionEqualOrdered[int]: parameters [32, 3, 3, 3], temporaries 84 -/
noncomputable def f70body : Code := bodyN look 70
/- zsortordered.go:175 -/
noncomputable def f70r0 : K2 :=
  .mv (.con (.int .i64 (0))) (some (sOf 8)) <|
  .done
/- zsortordered.go:176 -/
noncomputable def f70r1 : K2 :=
  .mv (tO 0) (some (sOf 11)) <|
  .mv (tO 1) (some (sOf 12)) <|
  .mv (tO 0) (some (sOf 13)) <|
  .mv (tO 3) (some (sOf 14)) <|
  .mv (tO 0) (some (sOf 15)) <|
  .mv (tO 3) (some (sOf 16)) <|
  .p2 (ixS 1) (tO 15) (tO 16) (some (sOf 17)) <|
  .r1 ld1 (tO 17) (some (sOf 18)) <|
  .mv (tO 0) (some (sOf 19)) <|
  .mv (tO 1) (some (sOf 20)) <|
  .p2 (ixS 1) (tO 19) (tO 20) (some (sOf 21)) <|
  .r1 ld1 (tO 21) (some (sOf 22)) <|
  .p2 (ixS 1) (tO 11) (tO 12) (some (sOf 23)) <|
  .st false (st1 look 3) (tO 23) (tO 18) none <|
  .p2 (ixS 1) (tO 13) (tO 14) (some (sOf 24)) <|
  .st false (st1 look 3) (tO 24) (tO 22) none <|
  .done
/- zsortordered.go:177 -/
noncomputable def f70r2 : K2 :=
  .mv (tO 1) (some (sOf 25)) <|
  .p2 (binF .add (evBin look .add 3 (.tmp 25) (.const (.int .i64 (1))))) (tO 25) (.con (.int .i64 (1))) (some (sOf 26)) <|
  .mv (tO 2) (some (sOf 27)) <|
  .p2 (binF .sub (evBin look .sub 3 (.tmp 27) (.const (.int .i64 (1))))) (tO 27) (.con (.int .i64 (1))) (some (sOf 28)) <|
  .mv (tO 26) (some (sOf 9)) <|
  .mv (tO 28) (some (sOf 10)) <|
  .done
noncomputable def f70r3_13 : K2 := .ln (fun xs _ => pickF xs) [(tO 32), (tO 42), (.con (.bool false))] (some (sOf 43)) <|
  .done
noncomputable def f70r3_12 : K2 := .gd (sOf 32) true (some (sOf 42)) (.p1 notF (tO 41) (some (sOf 42)) <|
  f70r3_13) f70r3_13
noncomputable def f70r3_11 : K2 := .gd (sOf 32) true (some (sOf 41)) (.cl false 69 [(tO 36), (tO 40)] (some (sOf 41)) <|
  f70r3_12) f70r3_12
noncomputable def f70r3_10 : K2 := .gd (sOf 32) true (some (sOf 40)) (.r1 ld1 (tO 39) (some (sOf 40)) <|
  f70r3_11) f70r3_11
noncomputable def f70r3_9 : K2 := .gd (sOf 32) true (some (sOf 39)) (.p2 (ixS 1) (tO 37) (tO 38) (some (sOf 39)) <|
  f70r3_10) f70r3_10
noncomputable def f70r3_8 : K2 := .gd (sOf 32) true (some (sOf 38)) (.mv (tO 9) (some (sOf 38)) <|
  f70r3_9) f70r3_9
noncomputable def f70r3_7 : K2 := .gd (sOf 32) true (some (sOf 37)) (.mv (tO 0) (some (sOf 37)) <|
  f70r3_8) f70r3_8
noncomputable def f70r3_6 : K2 := .gd (sOf 32) true (some (sOf 36)) (.r1 ld1 (tO 35) (some (sOf 36)) <|
  f70r3_7) f70r3_7
noncomputable def f70r3_5 : K2 := .gd (sOf 32) true (some (sOf 35)) (.p2 (ixS 1) (tO 33) (tO 34) (some (sOf 35)) <|
  f70r3_6) f70r3_6
noncomputable def f70r3_4 : K2 := .gd (sOf 32) true (some (sOf 34)) (.mv (tO 1) (some (sOf 34)) <|
  f70r3_5) f70r3_5
/- zsortordered.go:180 -/
noncomputable def f70r3 : K2 :=
  .mv (tO 9) (some (sOf 29)) <|
  .mv (tO 10) (some (sOf 30)) <|
  .p2 (binF .leq (evBin look .leq 3 (.tmp 29) (.tmp 30))) (tO 29) (tO 30) (some (sOf 31)) <|
  .mv (tO 31) (some (sOf 32)) <|
  .gd (sOf 32) true (some (sOf 33)) (.mv (tO 0) (some (sOf 33)) <|
  f70r3_4) f70r3_4
/- zsortordered.go:181 -/
noncomputable def f70r4 : K2 :=
  .mv (tO 9) (some (sOf 44)) <|
  .p2 (binF .add (evBin look .add 3 (.tmp 44) (.const (.int .i64 (1))))) (tO 44) (.con (.int .i64 (1))) (some (sOf 45)) <|
  .mv (tO 45) (some (sOf 9)) <|
  .done
noncomputable def f70l1 : C2 := (.seq (.seq (.reg f70r3)
  (.cond (tO 43) .skip (.exit 2)))
  (.block 3 (.reg f70r4)))
noncomputable def f70b1 : Code := lpN f70body 1
theorem f70l1_eq : comp look f70b1 = f70l1 := by kernel_rfl
noncomputable def f70r5_12 : K2 := .ln (fun xs _ => pickF xs) [(tO 49), (tO 58), (.con (.bool false))] (some (sOf 59)) <|
  .done
noncomputable def f70r5_11 : K2 := .gd (sOf 49) true (some (sOf 58)) (.cl false 69 [(tO 53), (tO 57)] (some (sOf 58)) <|
  f70r5_12) f70r5_12
noncomputable def f70r5_10 : K2 := .gd (sOf 49) true (some (sOf 57)) (.r1 ld1 (tO 56) (some (sOf 57)) <|
  f70r5_11) f70r5_11
noncomputable def f70r5_9 : K2 := .gd (sOf 49) true (some (sOf 56)) (.p2 (ixS 1) (tO 54) (tO 55) (some (sOf 56)) <|
  f70r5_10) f70r5_10
noncomputable def f70r5_8 : K2 := .gd (sOf 49) true (some (sOf 55)) (.mv (tO 10) (some (sOf 55)) <|
  f70r5_9) f70r5_9
noncomputable def f70r5_7 : K2 := .gd (sOf 49) true (some (sOf 54)) (.mv (tO 0) (some (sOf 54)) <|
  f70r5_8) f70r5_8
noncomputable def f70r5_6 : K2 := .gd (sOf 49) true (some (sOf 53)) (.r1 ld1 (tO 52) (some (sOf 53)) <|
  f70r5_7) f70r5_7
noncomputable def f70r5_5 : K2 := .gd (sOf 49) true (some (sOf 52)) (.p2 (ixS 1) (tO 50) (tO 51) (some (sOf 52)) <|
  f70r5_6) f70r5_6
noncomputable def f70r5_4 : K2 := .gd (sOf 49) true (some (sOf 51)) (.mv (tO 1) (some (sOf 51)) <|
  f70r5_5) f70r5_5
/- zsortordered.go:183 -/
noncomputable def f70r5 : K2 :=
  .mv (tO 9) (some (sOf 46)) <|
  .mv (tO 10) (some (sOf 47)) <|
  .p2 (binF .leq (evBin look .leq 3 (.tmp 46) (.tmp 47))) (tO 46) (tO 47) (some (sOf 48)) <|
  .mv (tO 48) (some (sOf 49)) <|
  .gd (sOf 49) true (some (sOf 50)) (.mv (tO 0) (some (sOf 50)) <|
  f70r5_4) f70r5_4
/- zsortordered.go:184 -/
noncomputable def f70r6 : K2 :=
  .mv (tO 10) (some (sOf 60)) <|
  .p2 (binF .sub (evBin look .sub 3 (.tmp 60) (.const (.int .i64 (1))))) (tO 60) (.con (.int .i64 (1))) (some (sOf 61)) <|
  .mv (tO 61) (some (sOf 10)) <|
  .done
noncomputable def f70l2 : C2 := (.seq (.seq (.reg f70r5)
  (.cond (tO 59) .skip (.exit 4)))
  (.block 5 (.reg f70r6)))
noncomputable def f70b2 : Code := lpN f70body 2
theorem f70l2_eq : comp look f70b2 = f70l2 := by kernel_rfl
/- zsortordered.go:186 -/
noncomputable def f70r7 : K2 :=
  .mv (tO 9) (some (sOf 62)) <|
  .mv (tO 10) (some (sOf 63)) <|
  .p2 (binF .gtr (evBin look .gtr 3 (.tmp 62) (.tmp 63))) (tO 62) (tO 63) (some (sOf 64)) <|
  .done
/- zsortordered.go:189 -/
noncomputable def f70r8 : K2 :=
  .mv (tO 0) (some (sOf 65)) <|
  .mv (tO 9) (some (sOf 66)) <|
  .mv (tO 0) (some (sOf 67)) <|
  .mv (tO 10) (some (sOf 68)) <|
  .mv (tO 0) (some (sOf 69)) <|
  .mv (tO 10) (some (sOf 70)) <|
  .p2 (ixS 1) (tO 69) (tO 70) (some (sOf 71)) <|
  .r1 ld1 (tO 71) (some (sOf 72)) <|
  .mv (tO 0) (some (sOf 73)) <|
  .mv (tO 9) (some (sOf 74)) <|
  .p2 (ixS 1) (tO 73) (tO 74) (some (sOf 75)) <|
  .r1 ld1 (tO 75) (some (sOf 76)) <|
  .p2 (ixS 1) (tO 65) (tO 66) (some (sOf 77)) <|
  .st false (st1 look 3) (tO 77) (tO 72) none <|
  .p2 (ixS 1) (tO 67) (tO 68) (some (sOf 78)) <|
  .st false (st1 look 3) (tO 78) (tO 76) none <|
  .done
/- zsortordered.go:190 -/
noncomputable def f70r9 : K2 :=
  .mv (tO 9) (some (sOf 79)) <|
  .p2 (binF .add (evBin look .add 3 (.tmp 79) (.const (.int .i64 (1))))) (tO 79) (.con (.int .i64 (1))) (some (sOf 80)) <|
  .mv (tO 80) (some (sOf 9)) <|
  .done
/- zsortordered.go:191 -/
noncomputable def f70r10 : K2 :=
  .mv (tO 10) (some (sOf 81)) <|
  .p2 (binF .sub (evBin look .sub 3 (.tmp 81) (.const (.int .i64 (1))))) (tO 81) (.con (.int .i64 (1))) (some (sOf 82)) <|
  .mv (tO 82) (some (sOf 10)) <|
  .done
noncomputable def f70l0 : C2 := (.block 1 (.seq (.block 2 (.loop f70b1))
  (.seq (.block 4 (.loop f70b2))
  (.seq (.seq (.reg f70r7)
  (.cond (tO 64) (.exit 0) .skip))
  (.seq (.reg f70r8)
  (.seq (.reg f70r9)
  (.reg f70r10)))))))
noncomputable def f70b0 : Code := lpN f70body 0
theorem f70l0_eq : comp look f70b0 = f70l0 := by kernel_rfl
/- zsortordered.go:193 -/
noncomputable def f70r11 : K2 :=
  .mv (tO 9) (some (sOf 83)) <|
  .mv (tO 83) (some (sOf 8)) <|
  .done
noncomputable def f70c : C2 := (.seq (.reg f70r0)
  (.seq (.reg f70r1)
  (.seq (.reg f70r2)
  (.seq (.block 0 (.loop f70b0))
  (.seq (.reg f70r11)
  .ret)))))
theorem f70_eq : fnF look 70 = some ⟨84, f70c, [.tmp 8]⟩ := by kernel_rfl

/-! slices.partitionOrdered[int]: parameters [32, 3, 3, 3], temporaries 168 -/
noncomputable def f71body : Code := bodyN look 71
/- zsortordered.go:137 -/
noncomputable def f71r0 : K2 :=
  .mv (.con (.int .i64 (0))) (some (sOf 8)) <|
  .mv (.con (.bool false)) (some (sOf 9)) <|
  .done
/- zsortordered.go:138 -/
noncomputable def f71r1 : K2 :=
  .mv (tO 0) (some (sOf 12)) <|
  .mv (tO 1) (some (sOf 13)) <|
  .mv (tO 0) (some (sOf 14)) <|
  .mv (tO 3) (some (sOf 15)) <|
  .mv (tO 0) (some (sOf 16)) <|
  .mv (tO 3) (some (sOf 17)) <|
  .p2 (ixS 1) (tO 16) (tO 17) (some (sOf 18)) <|
  .r1 ld1 (tO 18) (some (sOf 19)) <|
  .mv (tO 0) (some (sOf 20)) <|
  .mv (tO 1) (some (sOf 21)) <|
  .p2 (ixS 1) (tO 20) (tO 21) (some (sOf 22)) <|
  .r1 ld1 (tO 22) (some (sOf 23)) <|
  .p2 (ixS 1) (tO 12) (tO 13) (some (sOf 24)) <|
  .st false (st1 look 3) (tO 24) (tO 19) none <|
  .p2 (ixS 1) (tO 14) (tO 15) (some (sOf 25)) <|
  .st false (st1 look 3) (tO 25) (tO 23) none <|
  .done
/- zsortordered.go:139 -/
noncomputable def f71r2 : K2 :=
  .mv (tO 1) (some (sOf 26)) <|
  .p2 (binF .add (evBin look .add 3 (.tmp 26) (.const (.int .i64 (1))))) (tO 26) (.con (.int .i64 (1))) (some (sOf 27)) <|
  .mv (tO 2) (some (sOf 28)) <|
  .p2 (binF .sub (evBin look .sub 3 (.tmp 28) (.const (.int .i64 (1))))) (tO 28) (.con (.int .i64 (1))) (some (sOf 29)) <|
  .mv (tO 27) (some (sOf 10)) <|
  .mv (tO 29) (some (sOf 11)) <|
  .done
noncomputable def f71r3_12 : K2 := .ln (fun xs _ => pickF xs) [(tO 33), (tO 42), (.con (.bool false))] (some (sOf 43)) <|
  .done
noncomputable def f71r3_11 : K2 := .gd (sOf 33) true (some (sOf 42)) (.cl false 69 [(tO 37), (tO 41)] (some (sOf 42)) <|
  f71r3_12) f71r3_12
noncomputable def f71r3_10 : K2 := .gd (sOf 33) true (some (sOf 41)) (.r1 ld1 (tO 40) (some (sOf 41)) <|
  f71r3_11) f71r3_11
noncomputable def f71r3_9 : K2 := .gd (sOf 33) true (some (sOf 40)) (.p2 (ixS 1) (tO 38) (tO 39) (some (sOf 40)) <|
  f71r3_10) f71r3_10
noncomputable def f71r3_8 : K2 := .gd (sOf 33) true (some (sOf 39)) (.mv (tO 1) (some (sOf 39)) <|
  f71r3_9) f71r3_9
noncomputable def f71r3_7 : K2 := .gd (sOf 33) true (some (sOf 38)) (.mv (tO 0) (some (sOf 38)) <|
  f71r3_8) f71r3_8
noncomputable def f71r3_6 : K2 := .gd (sOf 33) true (some (sOf 37)) (.r1 ld1 (tO 36) (some (sOf 37)) <|
  f71r3_7) f71r3_7
noncomputable def f71r3_5 : K2 := .gd (sOf 33) true (some (sOf 36)) (.p2 (ixS 1) (tO 34) (tO 35) (some (sOf 36)) <|
  f71r3_6) f71r3_6
noncomputable def f71r3_4 : K2 := .gd (sOf 33) true (some (sOf 35)) (.mv (tO 10) (some (sOf 35)) <|
  f71r3_5) f71r3_5
/- zsortordered.go:141 -/
noncomputable def f71r3 : K2 :=
  .mv (tO 10) (some (sOf 30)) <|
  .mv (tO 11) (some (sOf 31)) <|
  .p2 (binF .leq (evBin look .leq 3 (.tmp 30) (.tmp 31))) (tO 30) (tO 31) (some (sOf 32)) <|
  .mv (tO 32) (some (sOf 33)) <|
  .gd (sOf 33) true (some (sOf 34)) (.mv (tO 0) (some (sOf 34)) <|
  f71r3_4) f71r3_4
/- zsortordered.go:142 -/
noncomputable def f71r4 : K2 :=
  .mv (tO 10) (some (sOf 44)) <|
  .p2 (binF .add (evBin look .add 3 (.tmp 44) (.const (.int .i64 (1))))) (tO 44) (.con (.int .i64 (1))) (some (sOf 45)) <|
  .mv (tO 45) (some (sOf 10)) <|
  .done
noncomputable def f71l0 : C2 := (.seq (.seq (.reg f71r3)
  (.cond (tO 43) .skip (.exit 0)))
  (.block 1 (.reg f71r4)))
noncomputable def f71b0 : Code := lpN f71body 0
theorem f71l0_eq : comp look f71b0 = f71l0 := by kernel_rfl
noncomputable def f71r5_13 : K2 := .ln (fun xs _ => pickF xs) [(tO 49), (tO 59), (.con (.bool false))] (some (sOf 60)) <|
  .done
noncomputable def f71r5_12 : K2 := .gd (sOf 49) true (some (sOf 59)) (.p1 notF (tO 58) (some (sOf 59)) <|
  f71r5_13) f71r5_13
noncomputable def f71r5_11 : K2 := .gd (sOf 49) true (some (sOf 58)) (.cl false 69 [(tO 53), (tO 57)] (some (sOf 58)) <|
  f71r5_12) f71r5_12
noncomputable def f71r5_10 : K2 := .gd (sOf 49) true (some (sOf 57)) (.r1 ld1 (tO 56) (some (sOf 57)) <|
  f71r5_11) f71r5_11
noncomputable def f71r5_9 : K2 := .gd (sOf 49) true (some (sOf 56)) (.p2 (ixS 1) (tO 54) (tO 55) (some (sOf 56)) <|
  f71r5_10) f71r5_10
noncomputable def f71r5_8 : K2 := .gd (sOf 49) true (some (sOf 55)) (.mv (tO 1) (some (sOf 55)) <|
  f71r5_9) f71r5_9
noncomputable def f71r5_7 : K2 := .gd (sOf 49) true (some (sOf 54)) (.mv (tO 0) (some (sOf 54)) <|
  f71r5_8) f71r5_8
noncomputable def f71r5_6 : K2 := .gd (sOf 49) true (some (sOf 53)) (.r1 ld1 (tO 52) (some (sOf 53)) <|
  f71r5_7) f71r5_7
noncomputable def f71r5_5 : K2 := .gd (sOf 49) true (some (sOf 52)) (.p2 (ixS 1) (tO 50) (tO 51) (some (sOf 52)) <|
  f71r5_6) f71r5_6
noncomputable def f71r5_4 : K2 := .gd (sOf 49) true (some (sOf 51)) (.mv (tO 11) (some (sOf 51)) <|
  f71r5_5) f71r5_5
/- zsortordered.go:144 -/
noncomputable def f71r5 : K2 :=
  .mv (tO 10) (some (sOf 46)) <|
  .mv (tO 11) (some (sOf 47)) <|
  .p2 (binF .leq (evBin look .leq 3 (.tmp 46) (.tmp 47))) (tO 46) (tO 47) (some (sOf 48)) <|
  .mv (tO 48) (some (sOf 49)) <|
  .gd (sOf 49) true (some (sOf 50)) (.mv (tO 0) (some (sOf 50)) <|
  f71r5_4) f71r5_4
/- zsortordered.go:145 -/
noncomputable def f71r6 : K2 :=
  .mv (tO 11) (some (sOf 61)) <|
  .p2 (binF .sub (evBin look .sub 3 (.tmp 61) (.const (.int .i64 (1))))) (tO 61) (.con (.int .i64 (1))) (some (sOf 62)) <|
  .mv (tO 62) (some (sOf 11)) <|
  .done
noncomputable def f71l1 : C2 := (.seq (.seq (.reg f71r5)
  (.cond (tO 60) .skip (.exit 2)))
  (.block 3 (.reg f71r6)))
noncomputable def f71b1 : Code := lpN f71body 1
theorem f71l1_eq : comp look f71b1 = f71l1 := by kernel_rfl
/- zsortordered.go:147 -/
noncomputable def f71r7 : K2 :=
  .mv (tO 10) (some (sOf 63)) <|
  .mv (tO 11) (some (sOf 64)) <|
  .p2 (binF .gtr (evBin look .gtr 3 (.tmp 63) (.tmp 64))) (tO 63) (tO 64) (some (sOf 65)) <|
  .done
/- zsortordered.go:148 -/
noncomputable def f71r8 : K2 :=
  .mv (tO 0) (some (sOf 66)) <|
  .mv (tO 11) (some (sOf 67)) <|
  .mv (tO 0) (some (sOf 68)) <|
  .mv (tO 1) (some (sOf 69)) <|
  .mv (tO 0) (some (sOf 70)) <|
  .mv (tO 1) (some (sOf 71)) <|
  .p2 (ixS 1) (tO 70) (tO 71) (some (sOf 72)) <|
  .r1 ld1 (tO 72) (some (sOf 73)) <|
  .mv (tO 0) (some (sOf 74)) <|
  .mv (tO 11) (some (sOf 75)) <|
  .p2 (ixS 1) (tO 74) (tO 75) (some (sOf 76)) <|
  .r1 ld1 (tO 76) (some (sOf 77)) <|
  .p2 (ixS 1) (tO 66) (tO 67) (some (sOf 78)) <|
  .st false (st1 look 3) (tO 78) (tO 73) none <|
  .p2 (ixS 1) (tO 68) (tO 69) (some (sOf 79)) <|
  .st false (st1 look 3) (tO 79) (tO 77) none <|
  .done
/- zsortordered.go:149 -/
noncomputable def f71r9 : K2 :=
  .mv (tO 11) (some (sOf 80)) <|
  .mv (tO 80) (some (sOf 8)) <|
  .mv (.con (.bool true)) (some (sOf 9)) <|
  .done
/- zsortordered.go:151 -/
noncomputable def f71r10 : K2 :=
  .mv (tO 0) (some (sOf 81)) <|
  .mv (tO 10) (some (sOf 82)) <|
  .mv (tO 0) (some (sOf 83)) <|
  .mv (tO 11) (some (sOf 84)) <|
  .mv (tO 0) (some (sOf 85)) <|
  .mv (tO 11) (some (sOf 86)) <|
  .p2 (ixS 1) (tO 85) (tO 86) (some (sOf 87)) <|
  .r1 ld1 (tO 87) (some (sOf 88)) <|
  .mv (tO 0) (some (sOf 89)) <|
  .mv (tO 10) (some (sOf 90)) <|
  .p2 (ixS 1) (tO 89) (tO 90) (some (sOf 91)) <|
  .r1 ld1 (tO 91) (some (sOf 92)) <|
  .p2 (ixS 1) (tO 81) (tO 82) (some (sOf 93)) <|
  .st false (st1 look 3) (tO 93) (tO 88) none <|
  .p2 (ixS 1) (tO 83) (tO 84) (some (sOf 94)) <|
  .st false (st1 look 3) (tO 94) (tO 92) none <|
  .done
/- zsortordered.go:152 -/
noncomputable def f71r11 : K2 :=
  .mv (tO 10) (some (sOf 95)) <|
  .p2 (binF .add (evBin look .add 3 (.tmp 95) (.const (.int .i64 (1))))) (tO 95) (.con (.int .i64 (1))) (some (sOf 96)) <|
  .mv (tO 96) (some (sOf 10)) <|
  .done
/- zsortordered.go:153 -/
noncomputable def f71r12 : K2 :=
  .mv (tO 11) (some (sOf 97)) <|
  .p2 (binF .sub (evBin look .sub 3 (.tmp 97) (.const (.int .i64 (1))))) (tO 97) (.con (.int .i64 (1))) (some (sOf 98)) <|
  .mv (tO 98) (some (sOf 11)) <|
  .done
noncomputable def f71r13_12 : K2 := .ln (fun xs _ => pickF xs) [(tO 102), (tO 111), (.con (.bool false))] (some (sOf 112)) <|
  .done
noncomputable def f71r13_11 : K2 := .gd (sOf 102) true (some (sOf 111)) (.cl false 69 [(tO 106), (tO 110)] (some (sOf 111)) <|
  f71r13_12) f71r13_12
noncomputable def f71r13_10 : K2 := .gd (sOf 102) true (some (sOf 110)) (.r1 ld1 (tO 109) (some (sOf 110)) <|
  f71r13_11) f71r13_11
noncomputable def f71r13_9 : K2 := .gd (sOf 102) true (some (sOf 109)) (.p2 (ixS 1) (tO 107) (tO 108) (some (sOf 109)) <|
  f71r13_10) f71r13_10
noncomputable def f71r13_8 : K2 := .gd (sOf 102) true (some (sOf 108)) (.mv (tO 1) (some (sOf 108)) <|
  f71r13_9) f71r13_9
noncomputable def f71r13_7 : K2 := .gd (sOf 102) true (some (sOf 107)) (.mv (tO 0) (some (sOf 107)) <|
  f71r13_8) f71r13_8
noncomputable def f71r13_6 : K2 := .gd (sOf 102) true (some (sOf 106)) (.r1 ld1 (tO 105) (some (sOf 106)) <|
  f71r13_7) f71r13_7
noncomputable def f71r13_5 : K2 := .gd (sOf 102) true (some (sOf 105)) (.p2 (ixS 1) (tO 103) (tO 104) (some (sOf 105)) <|
  f71r13_6) f71r13_6
noncomputable def f71r13_4 : K2 := .gd (sOf 102) true (some (sOf 104)) (.mv (tO 10) (some (sOf 104)) <|
  f71r13_5) f71r13_5
/- zsortordered.go:156 -/
noncomputable def f71r13 : K2 :=
  .mv (tO 10) (some (sOf 99)) <|
  .mv (tO 11) (some (sOf 100)) <|
  .p2 (binF .leq (evBin look .leq 3 (.tmp 99) (.tmp 100))) (tO 99) (tO 100) (some (sOf 101)) <|
  .mv (tO 101) (some (sOf 102)) <|
  .gd (sOf 102) true (some (sOf 103)) (.mv (tO 0) (some (sOf 103)) <|
  f71r13_4) f71r13_4
/- zsortordered.go:157 -/
noncomputable def f71r14 : K2 :=
  .mv (tO 10) (some (sOf 113)) <|
  .p2 (binF .add (evBin look .add 3 (.tmp 113) (.const (.int .i64 (1))))) (tO 113) (.con (.int .i64 (1))) (some (sOf 114)) <|
  .mv (tO 114) (some (sOf 10)) <|
  .done
noncomputable def f71l3 : C2 := (.seq (.seq (.reg f71r13)
  (.cond (tO 112) .skip (.exit 6)))
  (.block 7 (.reg f71r14)))
noncomputable def f71b3 : Code := lpN f71body 3
theorem f71l3_eq : comp look f71b3 = f71l3 := by kernel_rfl
noncomputable def f71r15_13 : K2 := .ln (fun xs _ => pickF xs) [(tO 118), (tO 128), (.con (.bool false))] (some (sOf 129)) <|
  .done
noncomputable def f71r15_12 : K2 := .gd (sOf 118) true (some (sOf 128)) (.p1 notF (tO 127) (some (sOf 128)) <|
  f71r15_13) f71r15_13
noncomputable def f71r15_11 : K2 := .gd (sOf 118) true (some (sOf 127)) (.cl false 69 [(tO 122), (tO 126)] (some (sOf 127)) <|
  f71r15_12) f71r15_12
noncomputable def f71r15_10 : K2 := .gd (sOf 118) true (some (sOf 126)) (.r1 ld1 (tO 125) (some (sOf 126)) <|
  f71r15_11) f71r15_11
noncomputable def f71r15_9 : K2 := .gd (sOf 118) true (some (sOf 125)) (.p2 (ixS 1) (tO 123) (tO 124) (some (sOf 125)) <|
  f71r15_10) f71r15_10
noncomputable def f71r15_8 : K2 := .gd (sOf 118) true (some (sOf 124)) (.mv (tO 1) (some (sOf 124)) <|
  f71r15_9) f71r15_9
noncomputable def f71r15_7 : K2 := .gd (sOf 118) true (some (sOf 123)) (.mv (tO 0) (some (sOf 123)) <|
  f71r15_8) f71r15_8
noncomputable def f71r15_6 : K2 := .gd (sOf 118) true (some (sOf 122)) (.r1 ld1 (tO 121) (some (sOf 122)) <|
  f71r15_7) f71r15_7
noncomputable def f71r15_5 : K2 := .gd (sOf 118) true (some (sOf 121)) (.p2 (ixS 1) (tO 119) (tO 120) (some (sOf 121)) <|
  f71r15_6) f71r15_6
noncomputable def f71r15_4 : K2 := .gd (sOf 118) true (some (sOf 120)) (.mv (tO 11) (some (sOf 120)) <|
  f71r15_5) f71r15_5
/- zsortordered.go:159 -/
noncomputable def f71r15 : K2 :=
  .mv (tO 10) (some (sOf 115)) <|
  .mv (tO 11) (some (sOf 116)) <|
  .p2 (binF .leq (evBin look .leq 3 (.tmp 115) (.tmp 116))) (tO 115) (tO 116) (some (sOf 117)) <|
  .mv (tO 117) (some (sOf 118)) <|
  .gd (sOf 118) true (some (sOf 119)) (.mv (tO 0) (some (sOf 119)) <|
  f71r15_4) f71r15_4
/- zsortordered.go:160 -/
noncomputable def f71r16 : K2 :=
  .mv (tO 11) (some (sOf 130)) <|
  .p2 (binF .sub (evBin look .sub 3 (.tmp 130) (.const (.int .i64 (1))))) (tO 130) (.con (.int .i64 (1))) (some (sOf 131)) <|
  .mv (tO 131) (some (sOf 11)) <|
  .done
noncomputable def f71l4 : C2 := (.seq (.seq (.reg f71r15)
  (.cond (tO 129) .skip (.exit 8)))
  (.block 9 (.reg f71r16)))
noncomputable def f71b4 : Code := lpN f71body 4
theorem f71l4_eq : comp look f71b4 = f71l4 := by kernel_rfl
/- zsortordered.go:162 -/
noncomputable def f71r17 : K2 :=
  .mv (tO 10) (some (sOf 132)) <|
  .mv (tO 11) (some (sOf 133)) <|
  .p2 (binF .gtr (evBin look .gtr 3 (.tmp 132) (.tmp 133))) (tO 132) (tO 133) (some (sOf 134)) <|
  .done
/- zsortordered.go:165 -/
noncomputable def f71r18 : K2 :=
  .mv (tO 0) (some (sOf 135)) <|
  .mv (tO 10) (some (sOf 136)) <|
  .mv (tO 0) (some (sOf 137)) <|
  .mv (tO 11) (some (sOf 138)) <|
  .mv (tO 0) (some (sOf 139)) <|
  .mv (tO 11) (some (sOf 140)) <|
  .p2 (ixS 1) (tO 139) (tO 140) (some (sOf 141)) <|
  .r1 ld1 (tO 141) (some (sOf 142)) <|
  .mv (tO 0) (some (sOf 143)) <|
  .mv (tO 10) (some (sOf 144)) <|
  .p2 (ixS 1) (tO 143) (tO 144) (some (sOf 145)) <|
  .r1 ld1 (tO 145) (some (sOf 146)) <|
  .p2 (ixS 1) (tO 135) (tO 136) (some (sOf 147)) <|
  .st false (st1 look 3) (tO 147) (tO 142) none <|
  .p2 (ixS 1) (tO 137) (tO 138) (some (sOf 148)) <|
  .st false (st1 look 3) (tO 148) (tO 146) none <|
  .done
/- zsortordered.go:166 -/
noncomputable def f71r19 : K2 :=
  .mv (tO 10) (some (sOf 149)) <|
  .p2 (binF .add (evBin look .add 3 (.tmp 149) (.const (.int .i64 (1))))) (tO 149) (.con (.int .i64 (1))) (some (sOf 150)) <|
  .mv (tO 150) (some (sOf 10)) <|
  .done
/- zsortordered.go:167 -/
noncomputable def f71r20 : K2 :=
  .mv (tO 11) (some (sOf 151)) <|
  .p2 (binF .sub (evBin look .sub 3 (.tmp 151) (.const (.int .i64 (1))))) (tO 151) (.con (.int .i64 (1))) (some (sOf 152)) <|
  .mv (tO 152) (some (sOf 11)) <|
  .done
noncomputable def f71l2 : C2 := (.block 5 (.seq (.block 6 (.loop f71b3))
  (.seq (.block 8 (.loop f71b4))
  (.seq (.seq (.reg f71r17)
  (.cond (tO 134) (.exit 4) .skip))
  (.seq (.reg f71r18)
  (.seq (.reg f71r19)
  (.reg f71r20)))))))
noncomputable def f71b2 : Code := lpN f71body 2
theorem f71l2_eq : comp look f71b2 = f71l2 := by kernel_rfl
/- zsortordered.go:169 -/
noncomputable def f71r21 : K2 :=
  .mv (tO 0) (some (sOf 153)) <|
  .mv (tO 11) (some (sOf 154)) <|
  .mv (tO 0) (some (sOf 155)) <|
  .mv (tO 1) (some (sOf 156)) <|
  .mv (tO 0) (some (sOf 157)) <|
  .mv (tO 1) (some (sOf 158)) <|
  .p2 (ixS 1) (tO 157) (tO 158) (some (sOf 159)) <|
  .r1 ld1 (tO 159) (some (sOf 160)) <|
  .mv (tO 0) (some (sOf 161)) <|
  .mv (tO 11) (some (sOf 162)) <|
  .p2 (ixS 1) (tO 161) (tO 162) (some (sOf 163)) <|
  .r1 ld1 (tO 163) (some (sOf 164)) <|
  .p2 (ixS 1) (tO 153) (tO 154) (some (sOf 165)) <|
  .st false (st1 look 3) (tO 165) (tO 160) none <|
  .p2 (ixS 1) (tO 155) (tO 156) (some (sOf 166)) <|
  .st false (st1 look 3) (tO 166) (tO 164) none <|
  .done
/- zsortordered.go:170 -/
noncomputable def f71r22 : K2 :=
  .mv (tO 11) (some (sOf 167)) <|
  .mv (tO 167) (some (sOf 8)) <|
  .mv (.con (.bool false)) (some (sOf 9)) <|
  .done
noncomputable def f71c : C2 := (.seq (.reg f71r0)
  (.seq (.reg f71r1)
  (.seq (.reg f71r2)
  (.seq (.block 0 (.loop f71b0))
  (.seq (.block 2 (.loop f71b1))
  (.seq (.seq (.reg f71r7)
  (.cond (tO 65) (.seq (.reg f71r8)
  (.seq (.reg f71r9)
  .ret)) .skip))
  (.seq (.reg f71r10)
  (.seq (.reg f71r11)
  (.seq (.reg f71r12)
  (.seq (.block 4 (.loop f71b2))
  (.seq (.reg f71r21)
  (.seq (.reg f71r22)
  .ret))))))))))))
theorem f71_eq : fnF look 71 = some ⟨168, f71c, [.tmp 8, .tmp 9]⟩ := by kernel_rfl

/- bits.go:337 -/
noncomputable def f73r0 : K2 :=
  .mv (.con (.int .i64 (0))) (some (sOf 2)) <|
  .done
/- bits.go:338 -/
noncomputable def f73r1 : K2 :=
  .mv (tO 0) (some (sOf 3)) <|
  .p2 (binF .geq (evBin look .geq 88 (.tmp 3) (.const (.int .u64 (4294967296))))) (tO 3) (.con (.int .u64 (4294967296))) (some (sOf 4)) <|
  .done
/- bits.go:339 -/
noncomputable def f73r2 : K2 :=
  .mv (tO 0) (some (sOf 5)) <|
  .p2 (binF .shr (evBin look .shr 88 (.tmp 5) (.const (.int .u64 (32))))) (tO 5) (.con (.int .u64 (32))) (some (sOf 6)) <|
  .mv (tO 6) (some (sOf 0)) <|
  .done
/- bits.go:340 -/
noncomputable def f73r3 : K2 :=
  .mv (.con (.int .i64 (32))) (some (sOf 2)) <|
  .done
/- bits.go:342 -/
noncomputable def f73r4 : K2 :=
  .mv (tO 0) (some (sOf 7)) <|
  .p2 (binF .geq (evBin look .geq 88 (.tmp 7) (.const (.int .u64 (65536))))) (tO 7) (.con (.int .u64 (65536))) (some (sOf 8)) <|
  .done
/- bits.go:343 -/
noncomputable def f73r5 : K2 :=
  .mv (tO 0) (some (sOf 9)) <|
  .p2 (binF .shr (evBin look .shr 88 (.tmp 9) (.const (.int .u64 (16))))) (tO 9) (.con (.int .u64 (16))) (some (sOf 10)) <|
  .mv (tO 10) (some (sOf 0)) <|
  .done
/- bits.go:344 -/
noncomputable def f73r6 : K2 :=
  .mv (tO 2) (some (sOf 11)) <|
  .p2 (binF .add (evBin look .add 3 (.tmp 11) (.const (.int .i64 (16))))) (tO 11) (.con (.int .i64 (16))) (some (sOf 12)) <|
  .mv (tO 12) (some (sOf 2)) <|
  .done
/- bits.go:346 -/
noncomputable def f73r7 : K2 :=
  .mv (tO 0) (some (sOf 13)) <|
  .p2 (binF .geq (evBin look .geq 88 (.tmp 13) (.const (.int .u64 (256))))) (tO 13) (.con (.int .u64 (256))) (some (sOf 14)) <|
  .done
/- bits.go:347 -/
noncomputable def f73r8 : K2 :=
  .mv (tO 0) (some (sOf 15)) <|
  .p2 (binF .shr (evBin look .shr 88 (.tmp 15) (.const (.int .u64 (8))))) (tO 15) (.con (.int .u64 (8))) (some (sOf 16)) <|
  .mv (tO 16) (some (sOf 0)) <|
  .done
/- bits.go:348 -/
noncomputable def f73r9 : K2 :=
  .mv (tO 2) (some (sOf 17)) <|
  .p2 (binF .add (evBin look .add 3 (.tmp 17) (.const (.int .i64 (8))))) (tO 17) (.con (.int .i64 (8))) (some (sOf 18)) <|
  .mv (tO 18) (some (sOf 2)) <|
  .done
/- bits.go:350 -/
noncomputable def f73r10 : K2 :=
  .mv (tO 2) (some (sOf 19)) <|
  .mv (tO 0) (some (sOf 20)) <|
  .p1 (cvI .u8) (tO 20) (some (sOf 21)) <|
  .p2 (evIndex look 9) (.con len8tab) (tO 21) (some (sOf 22)) <|
  .p1 (cvI .i64) (tO 22) (some (sOf 23)) <|
  .p2 (binF .add (evBin look .add 3 (.tmp 19) (.tmp 23))) (tO 19) (tO 23) (some (sOf 24)) <|
  .mv (tO 24) (some (sOf 2)) <|
  .done
noncomputable def f73c : C2 := (.seq (.reg f73r0)
  (.seq (.seq (.reg f73r1)
  (.cond (tO 4) (.seq (.reg f73r2)
  (.reg f73r3)) .skip))
  (.seq (.seq (.reg f73r4)
  (.cond (tO 8) (.seq (.reg f73r5)
  (.reg f73r6)) .skip))
  (.seq (.seq (.reg f73r7)
  (.cond (tO 14) (.seq (.reg f73r8)
  (.reg f73r9)) .skip))
  (.seq (.reg f73r10)
  .ret)))))
theorem f73_eq : fnF look 73 = some ⟨25, f73c, [.tmp 2]⟩ := by kernel_rfl

/-! slices.siftDownOrdered[int]: parameters [32, 3, 3, 3], temporaries 76 -/
noncomputable def f76body : Code := bodyN look 76
/- zsortordered.go:23 -/
noncomputable def f76r0 : K2 :=
  .mv (tO 1) (some (sOf 10)) <|
  .mv (tO 10) (some (sOf 8)) <|
  .done
/- zsortordered.go:25 -/
noncomputable def f76r1 : K2 :=
  .mv (tO 8) (some (sOf 11)) <|
  .p2 (binF .mul (evBin look .mul 3 (.const (.int .i64 (2))) (.tmp 11))) (.con (.int .i64 (2))) (tO 11) (some (sOf 12)) <|
  .p2 (binF .add (evBin look .add 3 (.tmp 12) (.const (.int .i64 (1))))) (tO 12) (.con (.int .i64 (1))) (some (sOf 13)) <|
  .mv (tO 13) (some (sOf 9)) <|
  .done
/- zsortordered.go:26 -/
noncomputable def f76r2 : K2 :=
  .mv (tO 9) (some (sOf 14)) <|
  .mv (tO 2) (some (sOf 15)) <|
  .p2 (binF .geq (evBin look .geq 3 (.tmp 14) (.tmp 15))) (tO 14) (tO 15) (some (sOf 16)) <|
  .done
noncomputable def f76r3_18 : K2 := .ln (fun xs _ => pickF xs) [(tO 21), (tO 35), (.con (.bool false))] (some (sOf 36)) <|
  .done
noncomputable def f76r3_17 : K2 := .gd (sOf 21) true (some (sOf 35)) (.cl false 69 [(tO 27), (tO 34)] (some (sOf 35)) <|
  f76r3_18) f76r3_18
noncomputable def f76r3_16 : K2 := .gd (sOf 21) true (some (sOf 34)) (.r1 ld1 (tO 33) (some (sOf 34)) <|
  f76r3_17) f76r3_17
noncomputable def f76r3_15 : K2 := .gd (sOf 21) true (some (sOf 33)) (.p2 (ixS 1) (tO 28) (tO 32) (some (sOf 33)) <|
  f76r3_16) f76r3_16
noncomputable def f76r3_14 : K2 := .gd (sOf 21) true (some (sOf 32)) (.p2 (binF .add (evBin look .add 3 (.tmp 31) (.const (.int .i64 (1))))) (tO 31) (.con (.int .i64 (1))) (some (sOf 32)) <|
  f76r3_15) f76r3_15
noncomputable def f76r3_13 : K2 := .gd (sOf 21) true (some (sOf 31)) (.p2 (binF .add (evBin look .add 3 (.tmp 29) (.tmp 30))) (tO 29) (tO 30) (some (sOf 31)) <|
  f76r3_14) f76r3_14
noncomputable def f76r3_12 : K2 := .gd (sOf 21) true (some (sOf 30)) (.mv (tO 9) (some (sOf 30)) <|
  f76r3_13) f76r3_13
noncomputable def f76r3_11 : K2 := .gd (sOf 21) true (some (sOf 29)) (.mv (tO 3) (some (sOf 29)) <|
  f76r3_12) f76r3_12
noncomputable def f76r3_10 : K2 := .gd (sOf 21) true (some (sOf 28)) (.mv (tO 0) (some (sOf 28)) <|
  f76r3_11) f76r3_11
noncomputable def f76r3_9 : K2 := .gd (sOf 21) true (some (sOf 27)) (.r1 ld1 (tO 26) (some (sOf 27)) <|
  f76r3_10) f76r3_10
noncomputable def f76r3_8 : K2 := .gd (sOf 21) true (some (sOf 26)) (.p2 (ixS 1) (tO 22) (tO 25) (some (sOf 26)) <|
  f76r3_9) f76r3_9
noncomputable def f76r3_7 : K2 := .gd (sOf 21) true (some (sOf 25)) (.p2 (binF .add (evBin look .add 3 (.tmp 23) (.tmp 24))) (tO 23) (tO 24) (some (sOf 25)) <|
  f76r3_8) f76r3_8
noncomputable def f76r3_6 : K2 := .gd (sOf 21) true (some (sOf 24)) (.mv (tO 9) (some (sOf 24)) <|
  f76r3_7) f76r3_7
noncomputable def f76r3_5 : K2 := .gd (sOf 21) true (some (sOf 23)) (.mv (tO 3) (some (sOf 23)) <|
  f76r3_6) f76r3_6
/- zsortordered.go:29 -/
noncomputable def f76r3 : K2 :=
  .mv (tO 9) (some (sOf 17)) <|
  .p2 (binF .add (evBin look .add 3 (.tmp 17) (.const (.int .i64 (1))))) (tO 17) (.con (.int .i64 (1))) (some (sOf 18)) <|
  .mv (tO 2) (some (sOf 19)) <|
  .p2 (binF .lss (evBin look .lss 3 (.tmp 18) (.tmp 19))) (tO 18) (tO 19) (some (sOf 20)) <|
  .mv (tO 20) (some (sOf 21)) <|
  .gd (sOf 21) true (some (sOf 22)) (.mv (tO 0) (some (sOf 22)) <|
  f76r3_5) f76r3_5
/- zsortordered.go:30 -/
noncomputable def f76r4 : K2 :=
  .mv (tO 9) (some (sOf 37)) <|
  .p2 (binF .add (evBin look .add 3 (.tmp 37) (.const (.int .i64 (1))))) (tO 37) (.con (.int .i64 (1))) (some (sOf 38)) <|
  .mv (tO 38) (some (sOf 9)) <|
  .done
/- zsortordered.go:32 -/
noncomputable def f76r5 : K2 :=
  .mv (tO 0) (some (sOf 39)) <|
  .mv (tO 3) (some (sOf 40)) <|
  .mv (tO 8) (some (sOf 41)) <|
  .p2 (binF .add (evBin look .add 3 (.tmp 40) (.tmp 41))) (tO 40) (tO 41) (some (sOf 42)) <|
  .p2 (ixS 1) (tO 39) (tO 42) (some (sOf 43)) <|
  .r1 ld1 (tO 43) (some (sOf 44)) <|
  .mv (tO 0) (some (sOf 45)) <|
  .mv (tO 3) (some (sOf 46)) <|
  .mv (tO 9) (some (sOf 47)) <|
  .p2 (binF .add (evBin look .add 3 (.tmp 46) (.tmp 47))) (tO 46) (tO 47) (some (sOf 48)) <|
  .p2 (ixS 1) (tO 45) (tO 48) (some (sOf 49)) <|
  .r1 ld1 (tO 49) (some (sOf 50)) <|
  .cl false 69 [(tO 44), (tO 50)] (some (sOf 51)) <|
  .p1 notF (tO 51) (some (sOf 52)) <|
  .done
/- zsortordered.go:35 -/
noncomputable def f76r6 : K2 :=
  .mv (tO 0) (some (sOf 53)) <|
  .mv (tO 3) (some (sOf 54)) <|
  .mv (tO 8) (some (sOf 55)) <|
  .p2 (binF .add (evBin look .add 3 (.tmp 54) (.tmp 55))) (tO 54) (tO 55) (some (sOf 56)) <|
  .mv (tO 0) (some (sOf 57)) <|
  .mv (tO 3) (some (sOf 58)) <|
  .mv (tO 9) (some (sOf 59)) <|
  .p2 (binF .add (evBin look .add 3 (.tmp 58) (.tmp 59))) (tO 58) (tO 59) (some (sOf 60)) <|
  .mv (tO 0) (some (sOf 61)) <|
  .mv (tO 3) (some (sOf 62)) <|
  .mv (tO 9) (some (sOf 63)) <|
  .p2 (binF .add (evBin look .add 3 (.tmp 62) (.tmp 63))) (tO 62) (tO 63) (some (sOf 64)) <|
  .p2 (ixS 1) (tO 61) (tO 64) (some (sOf 65)) <|
  .r1 ld1 (tO 65) (some (sOf 66)) <|
  .mv (tO 0) (some (sOf 67)) <|
  .mv (tO 3) (some (sOf 68)) <|
  .mv (tO 8) (some (sOf 69)) <|
  .p2 (binF .add (evBin look .add 3 (.tmp 68) (.tmp 69))) (tO 68) (tO 69) (some (sOf 70)) <|
  .p2 (ixS 1) (tO 67) (tO 70) (some (sOf 71)) <|
  .r1 ld1 (tO 71) (some (sOf 72)) <|
  .p2 (ixS 1) (tO 53) (tO 56) (some (sOf 73)) <|
  .st false (st1 look 3) (tO 73) (tO 66) none <|
  .p2 (ixS 1) (tO 57) (tO 60) (some (sOf 74)) <|
  .st false (st1 look 3) (tO 74) (tO 72) none <|
  .done
/- zsortordered.go:36 -/
noncomputable def f76r7 : K2 :=
  .mv (tO 9) (some (sOf 75)) <|
  .mv (tO 75) (some (sOf 8)) <|
  .done
noncomputable def f76l0 : C2 := (.block 1 (.seq (.reg f76r1)
  (.seq (.seq (.reg f76r2)
  (.cond (tO 16) (.exit 0) .skip))
  (.seq (.seq (.reg f76r3)
  (.cond (tO 36) (.reg f76r4) .skip))
  (.seq (.seq (.reg f76r5)
  (.cond (tO 52) .ret .skip))
  (.seq (.reg f76r6)
  (.reg f76r7)))))))
noncomputable def f76b0 : Code := lpN f76body 0
theorem f76l0_eq : comp look f76b0 = f76l0 := by kernel_rfl
noncomputable def f76c : C2 := (.seq (.reg f76r0)
  (.block 0 (.loop f76b0)))
theorem f76_eq : fnF look 76 = some ⟨76, f76c, []⟩ := by kernel_rfl

/- sort.go:188 -/
noncomputable def f77r0 : K2 :=
  .mv (.con (.int .u64 (0))) (some (sOf 2)) <|
  .done
/- sort.go:189 -/
noncomputable def f77r1 : K2 :=
  .mv (tO 0) (some (sOf 3)) <|
  .p1 (cvI .u64) (tO 3) (some (sOf 4)) <|
  .cl false 61 [(tO 4)] (some (sOf 5)) <|
  .p2 (binF .shl (evBin look .shl 74 (.const (.int .u64 (1))) (.tmp 5))) (.con (.int .u64 (1))) (tO 5) (some (sOf 6)) <|
  .mv (tO 6) (some (sOf 2)) <|
  .done
noncomputable def f77c : C2 := (.seq (.reg f77r0)
  (.seq (.reg f77r1)
  .ret))
theorem f77_eq : fnF look 77 = some ⟨7, f77c, [.tmp 2]⟩ := by kernel_rfl

/- sort.go:181 -/
noncomputable def f78r0 : K2 :=
  .mv (.con (.int .u64 (0))) (some (sOf 2)) <|
  .done
/- sort.go:182 -/
noncomputable def f78r1 : K2 :=
  .mv (tO 0) (some (sOf 3)) <|
  .p1 nilF (tO 3) (some (sOf 4)) <|
  .r1 ld1 (tO 4) (some (sOf 5)) <|
  .mv (tO 0) (some (sOf 6)) <|
  .p1 nilF (tO 6) (some (sOf 7)) <|
  .r1 ld1 (tO 7) (some (sOf 8)) <|
  .p2 (binF .shl (evBin look .shl 91 (.tmp 8) (.const (.int .u64 (13))))) (tO 8) (.con (.int .u64 (13))) (some (sOf 9)) <|
  .p2 (binF .xor (evBin look .xor 91 (.tmp 5) (.tmp 9))) (tO 5) (tO 9) (some (sOf 10)) <|
  .p1 nilF (tO 3) (some (sOf 11)) <|
  .st false (st1 look 91) (tO 11) (tO 10) none <|
  .done
/- sort.go:183 -/
noncomputable def f78r2 : K2 :=
  .mv (tO 0) (some (sOf 12)) <|
  .p1 nilF (tO 12) (some (sOf 13)) <|
  .r1 ld1 (tO 13) (some (sOf 14)) <|
  .mv (tO 0) (some (sOf 15)) <|
  .p1 nilF (tO 15) (some (sOf 16)) <|
  .r1 ld1 (tO 16) (some (sOf 17)) <|
  .p2 (binF .shr (evBin look .shr 91 (.tmp 17) (.const (.int .u64 (7))))) (tO 17) (.con (.int .u64 (7))) (some (sOf 18)) <|
  .p2 (binF .xor (evBin look .xor 91 (.tmp 14) (.tmp 18))) (tO 14) (tO 18) (some (sOf 19)) <|
  .p1 nilF (tO 12) (some (sOf 20)) <|
  .st false (st1 look 91) (tO 20) (tO 19) none <|
  .done
/- sort.go:184 -/
noncomputable def f78r3 : K2 :=
  .mv (tO 0) (some (sOf 21)) <|
  .p1 nilF (tO 21) (some (sOf 22)) <|
  .r1 ld1 (tO 22) (some (sOf 23)) <|
  .mv (tO 0) (some (sOf 24)) <|
  .p1 nilF (tO 24) (some (sOf 25)) <|
  .r1 ld1 (tO 25) (some (sOf 26)) <|
  .p2 (binF .shl (evBin look .shl 91 (.tmp 26) (.const (.int .u64 (17))))) (tO 26) (.con (.int .u64 (17))) (some (sOf 27)) <|
  .p2 (binF .xor (evBin look .xor 91 (.tmp 23) (.tmp 27))) (tO 23) (tO 27) (some (sOf 28)) <|
  .p1 nilF (tO 21) (some (sOf 29)) <|
  .st false (st1 look 91) (tO 29) (tO 28) none <|
  .done
/- sort.go:185 -/
noncomputable def f78r4 : K2 :=
  .mv (tO 0) (some (sOf 30)) <|
  .p1 nilF (tO 30) (some (sOf 31)) <|
  .r1 ld1 (tO 31) (some (sOf 32)) <|
  .mv (tO 32) (some (sOf 2)) <|
  .done
noncomputable def f78c : C2 := (.seq (.reg f78r0)
  (.seq (.reg f78r1)
  (.seq (.reg f78r2)
  (.seq (.reg f78r3)
  (.seq (.reg f78r4)
  .ret)))))
theorem f78_eq : fnF look 78 = some ⟨33, f78c, [.tmp 2]⟩ := by kernel_rfl

/- zsortordered.go:317 -/
noncomputable def f79r0 : K2 :=
  .mv (.con (.int .i64 (0))) (some (sOf 6)) <|
  .done
/- zsortordered.go:318 -/
noncomputable def f79r1 : K2 :=
  .mv (tO 0) (some (sOf 7)) <|
  .mv (tO 1) (some (sOf 8)) <|
  .p2 (binF .sub (evBin look .sub 3 (.tmp 8) (.const (.int .i64 (1))))) (tO 8) (.con (.int .i64 (1))) (some (sOf 9)) <|
  .mv (tO 1) (some (sOf 10)) <|
  .mv (tO 1) (some (sOf 11)) <|
  .p2 (binF .add (evBin look .add 3 (.tmp 11) (.const (.int .i64 (1))))) (tO 11) (.con (.int .i64 (1))) (some (sOf 12)) <|
  .mv (tO 2) (some (sOf 13)) <|
  .cl false 80 [(tO 7), (tO 9), (tO 10), (tO 12), (tO 13)] (some (sOf 14)) <|
  .mv (tO 14) (some (sOf 6)) <|
  .done
noncomputable def f79c : C2 := (.seq (.reg f79r0)
  (.seq (.reg f79r1)
  .ret))
theorem f79_eq : fnF look 79 = some ⟨15, f79c, [.tmp 6]⟩ := by kernel_rfl

/- zsortordered.go:309 -/
noncomputable def f80r0 : K2 :=
  .mv (.con (.int .i64 (0))) (some (sOf 10)) <|
  .done
/- zsortordered.go:310 -/
noncomputable def f80r1 : K2 :=
  .mv (tO 0) (some (sOf 12)) <|
  .mv (tO 1) (some (sOf 13)) <|
  .mv (tO 2) (some (sOf 14)) <|
  .mv (tO 4) (some (sOf 15)) <|
  .cl false 83 [(tO 12), (tO 13), (tO 14), (tO 15)] (some (sOf 16)) <|
  .mv (tO 16) (some (sOf 11)) <|
  .p1 (exN 0) (tO 11) (some (sOf 17)) <|
  .p1 (exN 1) (tO 11) (some (sOf 18)) <|
  .mv (tO 17) (some (sOf 1)) <|
  .mv (tO 18) (some (sOf 2)) <|
  .done
/- zsortordered.go:311 -/
noncomputable def f80r2 : K2 :=
  .mv (tO 0) (some (sOf 20)) <|
  .mv (tO 2) (some (sOf 21)) <|
  .mv (tO 3) (some (sOf 22)) <|
  .mv (tO 4) (some (sOf 23)) <|
  .cl false 83 [(tO 20), (tO 21), (tO 22), (tO 23)] (some (sOf 24)) <|
  .mv (tO 24) (some (sOf 19)) <|
  .p1 (exN 0) (tO 19) (some (sOf 25)) <|
  .p1 (exN 1) (tO 19) (some (sOf 26)) <|
  .mv (tO 25) (some (sOf 2)) <|
  .mv (tO 26) (some (sOf 3)) <|
  .done
/- zsortordered.go:312 -/
noncomputable def f80r3 : K2 :=
  .mv (tO 0) (some (sOf 28)) <|
  .mv (tO 1) (some (sOf 29)) <|
  .mv (tO 2) (some (sOf 30)) <|
  .mv (tO 4) (some (sOf 31)) <|
  .cl false 83 [(tO 28), (tO 29), (tO 30), (tO 31)] (some (sOf 32)) <|
  .mv (tO 32) (some (sOf 27)) <|
  .p1 (exN 0) (tO 27) (some (sOf 33)) <|
  .p1 (exN 1) (tO 27) (some (sOf 34)) <|
  .mv (tO 33) (some (sOf 1)) <|
  .mv (tO 34) (some (sOf 2)) <|
  .done
/- zsortordered.go:313 -/
noncomputable def f80r4 : K2 :=
  .mv (tO 2) (some (sOf 35)) <|
  .mv (tO 35) (some (sOf 10)) <|
  .done
noncomputable def f80c : C2 := (.seq (.reg f80r0)
  (.seq (.reg f80r1)
  (.seq (.reg f80r2)
  (.seq (.reg f80r3)
  (.seq (.reg f80r4)
  .ret)))))
theorem f80_eq : fnF look 80 = some ⟨36, f80c, [.tmp 10]⟩ := by kernel_rfl

/- cmp.go:63 -/
noncomputable def f81r0 : K2 :=
  .mv (.con (.bool false)) (some (sOf 2)) <|
  .done
/- cmp.go:64 -/
noncomputable def f81r1 : K2 :=
  .mv (tO 0) (some (sOf 3)) <|
  .mv (tO 0) (some (sOf 4)) <|
  .p2 (binF .neq (evBin look .neq 3 (.tmp 3) (.tmp 4))) (tO 3) (tO 4) (some (sOf 5)) <|
  .mv (tO 5) (some (sOf 2)) <|
  .done
noncomputable def f81c : C2 := (.seq (.reg f81r0)
  (.seq (.reg f81r1)
  .ret))
theorem f81_eq : fnF look 81 = some ⟨6, f81c, [.tmp 2]⟩ := by kernel_rfl

/- zsortordered.go:300 -/
noncomputable def f83r0 : K2 :=
  .mv (.con (.int .i64 (0))) (some (sOf 8)) <|
  .mv (.con (.int .i64 (0))) (some (sOf 9)) <|
  .done
/- zsortordered.go:301 -/
noncomputable def f83r1 : K2 :=
  .mv (tO 0) (some (sOf 10)) <|
  .mv (tO 2) (some (sOf 11)) <|
  .p2 (ixS 1) (tO 10) (tO 11) (some (sOf 12)) <|
  .r1 ld1 (tO 12) (some (sOf 13)) <|
  .mv (tO 0) (some (sOf 14)) <|
  .mv (tO 1) (some (sOf 15)) <|
  .p2 (ixS 1) (tO 14) (tO 15) (some (sOf 16)) <|
  .r1 ld1 (tO 16) (some (sOf 17)) <|
  .cl false 69 [(tO 13), (tO 17)] (some (sOf 18)) <|
  .done
/- zsortordered.go:302 -/
noncomputable def f83r2 : K2 :=
  .mv (tO 3) (some (sOf 19)) <|
  .p1 nilF (tO 19) (some (sOf 20)) <|
  .r1 ld1 (tO 20) (some (sOf 21)) <|
  .p2 (binF .add (evBin look .add 3 (.tmp 21) (.const (.int .i64 (1))))) (tO 21) (.con (.int .i64 (1))) (some (sOf 22)) <|
  .p1 nilF (tO 19) (some (sOf 23)) <|
  .st false (st1 look 3) (tO 23) (tO 22) none <|
  .done
/- zsortordered.go:303 -/
noncomputable def f83r3 : K2 :=
  .mv (tO 2) (some (sOf 24)) <|
  .mv (tO 1) (some (sOf 25)) <|
  .mv (tO 24) (some (sOf 8)) <|
  .mv (tO 25) (some (sOf 9)) <|
  .done
/- zsortordered.go:305 -/
noncomputable def f83r4 : K2 :=
  .mv (tO 1) (some (sOf 26)) <|
  .mv (tO 2) (some (sOf 27)) <|
  .mv (tO 26) (some (sOf 8)) <|
  .mv (tO 27) (some (sOf 9)) <|
  .done
noncomputable def f83c : C2 := (.seq (.reg f83r0)
  (.seq (.seq (.reg f83r1)
  (.cond (tO 18) (.seq (.reg f83r2)
  (.seq (.reg f83r3)
  .ret)) .skip))
  (.seq (.reg f83r4)
  .ret)))
theorem f83_eq : fnF look 83 = some ⟨28, f83c, [.tmp 8, .tmp 9]⟩ := by kernel_rfl

end Go.Proofs.Ytnkomaedmblemaa

set_option linter.unusedSimpArgs false
set_option linter.unusedVariables false
set_option maxRecDepth 100000
namespace Go.Proofs.Ytnkomaedmblemaa
open Go.Ev Exl
/-! caulker/extent.Of: parameters [32], temporaries 48 -/
noncomputable def f27body : Code := bodyN look 27
/- extent.go:52 -/
noncomputable def f27r0 : K2 :=
  .mv (.con .nilSl) (some (sOf 2)) <|
  .mv (.con (.int .i64 (0))) (some (sOf 3)) <|
  .done
/- extent.go:53 -/
noncomputable def f27r1 : K2 :=
  .mv (tO 0) (some (sOf 9)) <|
  .cl false 49 [(tO 9)] (some (sOf 10)) <|
  .cl false 48 [(tO 10)] (some (sOf 11)) <|
  .cl false 47 [(tO 11)] (some (sOf 12)) <|
  .mv (tO 12) (some (sOf 4)) <|
  .done
noncomputable def f27r2_16 : K2 := .ln (fun xs _ => pickF xs) [(tO 16), (tO 29), (.con (.bool false))] (some (sOf 30)) <|
  .done
noncomputable def f27r2_15 : K2 := .gd (sOf 16) true (some (sOf 29)) (.ln (fun xs _ => pickF xs) [(tO 21), (.con (.bool true)), (tO 28)] (some (sOf 29)) <|
  f27r2_16) f27r2_16
noncomputable def f27r2_14 : K2 := .gd (sOf 21) false (some (sOf 28)) (.p2 (binF .geq (evBin look .geq 3 (.tmp 27) (.const (.int .i64 (4096))))) (tO 27) (.con (.int .i64 (4096))) (some (sOf 28)) <|
  f27r2_15) f27r2_15
noncomputable def f27r2_13 : K2 := .gd (sOf 21) false (some (sOf 27)) (.r1 ld1 (tO 26) (some (sOf 27)) <|
  f27r2_14) f27r2_14
noncomputable def f27r2_12 : K2 := .gd (sOf 21) false (some (sOf 26)) (.p2 (ixS 1) (tO 22) (tO 25) (some (sOf 26)) <|
  f27r2_13) f27r2_13
noncomputable def f27r2_11 : K2 := .gd (sOf 21) false (some (sOf 25)) (.p2 (binF .sub (evBin look .sub 3 (.tmp 24) (.const (.int .i64 (1))))) (tO 24) (.con (.int .i64 (1))) (some (sOf 25)) <|
  f27r2_12) f27r2_12
noncomputable def f27r2_10 : K2 := .gd (sOf 21) false (some (sOf 24)) (.ln (fun xs H => fstO (builtinF .len look [32] xs H)) [(tO 23)] (some (sOf 24)) <|
  f27r2_11) f27r2_11
noncomputable def f27r2_9 : K2 := .gd (sOf 21) false (some (sOf 23)) (.mv (tO 4) (some (sOf 23)) <|
  f27r2_10) f27r2_10
noncomputable def f27r2_8 : K2 := .gd (sOf 21) false (some (sOf 22)) (.mv (tO 4) (some (sOf 22)) <|
  f27r2_9) f27r2_9
noncomputable def f27r2_7 : K2 := .gd (sOf 16) true (some (sOf 21)) (.mv (tO 20) (some (sOf 21)) <|
  f27r2_8) f27r2_8
noncomputable def f27r2_6 : K2 := .gd (sOf 16) true (some (sOf 20)) (.p2 (binF .lss (evBin look .lss 3 (.tmp 19) (.const (.int .i64 (0))))) (tO 19) (.con (.int .i64 (0))) (some (sOf 20)) <|
  f27r2_7) f27r2_7
noncomputable def f27r2_5 : K2 := .gd (sOf 16) true (some (sOf 19)) (.r1 ld1 (tO 18) (some (sOf 19)) <|
  f27r2_6) f27r2_6
noncomputable def f27r2_4 : K2 := .gd (sOf 16) true (some (sOf 18)) (.p2 (ixS 1) (tO 17) (.con (.int .i64 (0))) (some (sOf 18)) <|
  f27r2_5) f27r2_5
/- extent.go:54 -/
noncomputable def f27r2 : K2 :=
  .mv (tO 4) (some (sOf 13)) <|
  .ln (fun xs H => fstO (builtinF .len look [32] xs H)) [(tO 13)] (some (sOf 14)) <|
  .p2 (binF .gtr (evBin look .gtr 3 (.tmp 14) (.const (.int .i64 (0))))) (tO 14) (.con (.int .i64 (0))) (some (sOf 15)) <|
  .mv (tO 15) (some (sOf 16)) <|
  .gd (sOf 16) true (some (sOf 17)) (.mv (tO 4) (some (sOf 17)) <|
  f27r2_4) f27r2_4
/- extent.go:55 -/
noncomputable def f27r3 : K2 :=
  .mv (.con .nilSl) (some (sOf 2)) <|
  .mv (.con (.int .i64 (2))) (some (sOf 3)) <|
  .done
/- extent.go:57 -/
noncomputable def f27r4 : K2 :=
  .cl false 50 [] (some (sOf 32)) <|
  .mv (tO 32) (some (sOf 31)) <|
  .p1 (exN 0) (tO 31) (some (sOf 33)) <|
  .p1 (exN 1) (tO 31) (some (sOf 34)) <|
  .mv (tO 33) (some (sOf 5)) <|
  .mv (tO 34) (some (sOf 6)) <|
  .done
/- extent.go:58 -/
noncomputable def f27r5 : K2 :=
  .mv (tO 4) (some (sOf 35)) <|
  .ln (fun xs H => fstO (builtinF .len look [32] xs H)) [(tO 35)] (some (sOf 36)) <|
  .mv (.con (.int .i64 (0))) (some (sOf 37)) <|
  .done
/- extent.go:58 -/
noncomputable def f27r6 : K2 :=
  .p2 (binF .lss (evBin look .lss 3 (.tmp 37) (.tmp 36))) (tO 37) (tO 36) (some (sOf 38)) <|
  .done
/- extent.go:58 -/
noncomputable def f27r7 : K2 :=
  .p2 (ixS 1) (tO 35) (tO 37) (some (sOf 39)) <|
  .r1 ld1 (tO 39) (some (sOf 40)) <|
  .mv (tO 40) (some (sOf 8)) <|
  .done
/- extent.go:59 -/
noncomputable def f27r8 : K2 :=
  .mv (tO 6) (some (sOf 41)) <|
  .mv (tO 8) (some (sOf 42)) <|
  .cn false (fun xs _ => evCallFn (hd xs) (tl xs)) [(tO 41), (tO 42), (.con (.int .i64 (1)))] (some (sOf 43)) <|
  .done
/- extent.go:58 -/
noncomputable def f27r9 : K2 :=
  .p2 (binF .add (evBin look .add 3 (.tmp 37) (.const (.int .i64 (1))))) (tO 37) (.con (.int .i64 (1))) (some (sOf 44)) <|
  .mv (tO 44) (some (sOf 37)) <|
  .done
noncomputable def f27l0 : C2 := (.seq (.reg f27r6)
  (.seq (.cond (tO 38) .skip (.exit 0))
  (.seq (.block 1 (.seq (.reg f27r7)
  (.reg f27r8)))
  (.reg f27r9))))
noncomputable def f27b0 : Code := lpN f27body 0
theorem f27l0_eq : comp look f27b0 = f27l0 := by kernel_rfl
/- extent.go:61 -/
noncomputable def f27r10 : K2 :=
  .mv (tO 5) (some (sOf 45)) <|
  .p1 nilF (tO 45) (some (sOf 46)) <|
  .r1 ld1 (tO 46) (some (sOf 47)) <|
  .mv (tO 47) (some (sOf 2)) <|
  .mv (.con (.int .i64 (0))) (some (sOf 3)) <|
  .done
noncomputable def f27c : C2 := (.seq (.reg f27r0)
  (.seq (.reg f27r1)
  (.seq (.seq (.reg f27r2)
  (.cond (tO 30) (.seq (.reg f27r3)
  .ret) .skip))
  (.seq (.reg f27r4)
  (.seq (.seq (.reg f27r5)
  (.block 0 (.loop f27b0)))
  (.seq (.reg f27r10)
  .ret))))))
theorem f27_eq : fnF look 27 = some ⟨48, f27c, [.tmp 2, .tmp 3]⟩ := by kernel_rfl

/-! caulker/caulkerkit.LentInts: parameters [32], temporaries 29 -/
noncomputable def f24body : Code := bodyN look 24
/- lists.go:33 -/
noncomputable def f24r0 : K2 :=
  .mv (.con .nilSl) (some (sOf 2)) <|
  .done
/- lists.go:34 -/
noncomputable def f24r1 : K2 :=
  .mv (tO 0) (some (sOf 5)) <|
  .ln (fun xs H => fstO (builtinF .len look [32] xs H)) [(tO 5)] (some (sOf 6)) <|
  .p2 (binF .add (evBin look .add 3 (.tmp 6) (.const (.int .i64 (3))))) (tO 6) (.con (.int .i64 (3))) (some (sOf 7)) <|
  .hn false (fun xs H => evMakeSlice look 32 (hd xs) (hd (tl xs)) H) [(tO 7), (tO 7)] (some (sOf 8)) <|
  .mv (tO 8) (some (sOf 3)) <|
  .done
/- lists.go:35 -/
noncomputable def f24r2 : K2 :=
  .mv (tO 3) (some (sOf 9)) <|
  .mv (tO 0) (some (sOf 10)) <|
  .hn false (builtinF .copy look [32, 32]) [(tO 9), (tO 10)] (some (sOf 11)) <|
  .done
/- lists.go:36 -/
noncomputable def f24r3 : K2 :=
  .mv (tO 0) (some (sOf 12)) <|
  .ln (fun xs H => fstO (builtinF .len look [32] xs H)) [(tO 12)] (some (sOf 13)) <|
  .mv (tO 13) (some (sOf 4)) <|
  .done
/- lists.go:36 -/
noncomputable def f24r4 : K2 :=
  .mv (tO 4) (some (sOf 14)) <|
  .mv (tO 3) (some (sOf 15)) <|
  .ln (fun xs H => fstO (builtinF .len look [32] xs H)) [(tO 15)] (some (sOf 16)) <|
  .p2 (binF .lss (evBin look .lss 3 (.tmp 14) (.tmp 16))) (tO 14) (tO 16) (some (sOf 17)) <|
  .done
/- lists.go:37 -/
noncomputable def f24r5 : K2 :=
  .mv (tO 3) (some (sOf 20)) <|
  .mv (tO 4) (some (sOf 21)) <|
  .mv (tO 4) (some (sOf 22)) <|
  .p2 (binF .sub (evBin look .sub 3 (.const (.int .i64 (-77))) (.tmp 22))) (.con (.int .i64 (-77))) (tO 22) (some (sOf 23)) <|
  .p2 (ixS 1) (tO 20) (tO 21) (some (sOf 24)) <|
  .st false (st1 look 3) (tO 24) (tO 23) none <|
  .done
/- lists.go:36 -/
noncomputable def f24r6 : K2 :=
  .mv (tO 4) (some (sOf 18)) <|
  .p2 (binF .add (evBin look .add 3 (.tmp 18) (.const (.int .i64 (1))))) (tO 18) (.con (.int .i64 (1))) (some (sOf 19)) <|
  .mv (tO 19) (some (sOf 4)) <|
  .done
noncomputable def f24l0 : C2 := (.seq (.seq (.reg f24r4)
  (.cond (tO 17) .skip (.exit 0)))
  (.seq (.block 1 (.reg f24r5))
  (.reg f24r6)))
noncomputable def f24b0 : Code := lpN f24body 0
theorem f24l0_eq : comp look f24b0 = f24l0 := by kernel_rfl
/- lists.go:39 -/
noncomputable def f24r7 : K2 :=
  .mv (tO 3) (some (sOf 25)) <|
  .mv (tO 0) (some (sOf 26)) <|
  .ln (fun xs H => fstO (builtinF .len look [32] xs H)) [(tO 26)] (some (sOf 27)) <|
  .ls (fun xs _ => sliceF look 32 false true false xs) [(tO 25), (tO 27)] (opN f24body 7 3) (some (sOf 28)) <|
  .mv (tO 28) (some (sOf 2)) <|
  .done
noncomputable def f24c : C2 := (.seq (.reg f24r0)
  (.seq (.reg f24r1)
  (.seq (.reg f24r2)
  (.seq (.seq (.reg f24r3)
  (.block 0 (.loop f24b0)))
  (.seq (.reg f24r7)
  .ret)))))
theorem f24_eq : fnF look 24 = some ⟨29, f24c, [.tmp 2]⟩ := by kernel_rfl

/- lists.go:42 -/
noncomputable def f32r0 : K2 :=
  .mv (.con (.bool false)) (some (sOf 4)) <|
  .done
noncomputable def f32r1_16 : K2 := .ln (fun xs _ => pickF xs) [(tO 10), (tO 21), (.con (.bool false))] (some (sOf 22)) <|
  .mv (tO 22) (some (sOf 4)) <|
  .done
noncomputable def f32r1_15 : K2 := .gd (sOf 10) true (some (sOf 21)) (.cl false 29 [(tO 14), (tO 20)] (some (sOf 21)) <|
  f32r1_16) f32r1_16
noncomputable def f32r1_11 : K2 := .gd (sOf 10) true (some (sOf 20)) (.ln (fun xs _ => sliceF look 32 false true false xs) [(tO 16), (tO 19)] (some (sOf 20)) <|
  f32r1_15) f32r1_15
noncomputable def f32r1_14 : K2 := .gd (sOf 10) true (some (sOf 16)) (.cl false 24 [(tO 15)] (some (sOf 16)) <|
  f32r1_11) f32r1_11
noncomputable def f32r1_13 : K2 := .gd (sOf 10) true (some (sOf 19)) (.p2 (binF .add (evBin look .add 3 (.tmp 18) (.const (.int .i64 (3))))) (tO 18) (.con (.int .i64 (3))) (some (sOf 19)) <|
  f32r1_14) f32r1_14
noncomputable def f32r1_12 : K2 := .gd (sOf 10) true (some (sOf 18)) (.ln (fun xs H => fstO (builtinF .len look [32] xs H)) [(tO 17)] (some (sOf 18)) <|
  f32r1_13) f32r1_13
noncomputable def f32r1_10 : K2 := .gd (sOf 10) true (some (sOf 17)) (.mv (tO 1) (some (sOf 17)) <|
  f32r1_12) f32r1_12
noncomputable def f32r1_9 : K2 := .gd (sOf 10) true (some (sOf 15)) (.mv (tO 1) (some (sOf 15)) <|
  f32r1_10) f32r1_10
noncomputable def f32r1_8 : K2 := .gd (sOf 10) true (some (sOf 14)) (.ln (fun xs _ => sliceF look 32 false true false xs) [(tO 11), (tO 13)] (some (sOf 14)) <|
  f32r1_9) f32r1_9
noncomputable def f32r1_7 : K2 := .gd (sOf 10) true (some (sOf 13)) (.ln (fun xs H => fstO (builtinF .cap look [32] xs H)) [(tO 12)] (some (sOf 13)) <|
  f32r1_8) f32r1_8
noncomputable def f32r1_6 : K2 := .gd (sOf 10) true (some (sOf 12)) (.mv (tO 0) (some (sOf 12)) <|
  f32r1_7) f32r1_7
/- lists.go:43 -/
noncomputable def f32r1 : K2 :=
  .mv (tO 0) (some (sOf 5)) <|
  .ln (fun xs H => fstO (builtinF .len look [32] xs H)) [(tO 5)] (some (sOf 6)) <|
  .mv (tO 1) (some (sOf 7)) <|
  .ln (fun xs H => fstO (builtinF .len look [32] xs H)) [(tO 7)] (some (sOf 8)) <|
  .p2 (binF .eql (evBin look .eql 3 (.tmp 6) (.tmp 8))) (tO 6) (tO 8) (some (sOf 9)) <|
  .mv (tO 9) (some (sOf 10)) <|
  .gd (sOf 10) true (some (sOf 11)) (.mv (tO 0) (some (sOf 11)) <|
  f32r1_6) f32r1_6
noncomputable def f32c : C2 := (.seq (.reg f32r0)
  (.seq (.reg f32r1)
  .ret))
theorem f32_eq : fnF look 32 = some ⟨23, f32c, [.tmp 4]⟩ := by kernel_rfl

/-! caulker/caulkerkit.SameInts: parameters [32, 32], temporaries 26 -/
noncomputable def f29body : Code := bodyN look 29
/- kit.go:96 -/
noncomputable def f29r0 : K2 :=
  .mv (.con (.bool false)) (some (sOf 4)) <|
  .done
/- kit.go:97 -/
noncomputable def f29r1 : K2 :=
  .mv (tO 0) (some (sOf 6)) <|
  .ln (fun xs H => fstO (builtinF .len look [32] xs H)) [(tO 6)] (some (sOf 7)) <|
  .mv (tO 1) (some (sOf 8)) <|
  .ln (fun xs H => fstO (builtinF .len look [32] xs H)) [(tO 8)] (some (sOf 9)) <|
  .p2 (binF .neq (evBin look .neq 3 (.tmp 7) (.tmp 9))) (tO 7) (tO 9) (some (sOf 10)) <|
  .done
/- kit.go:98 -/
noncomputable def f29r2 : K2 :=
  .mv (.con (.bool false)) (some (sOf 4)) <|
  .done
/- kit.go:100 -/
noncomputable def f29r3 : K2 :=
  .mv (.con (.int .i64 (0))) (some (sOf 5)) <|
  .done
/- kit.go:100 -/
noncomputable def f29r4 : K2 :=
  .mv (tO 5) (some (sOf 11)) <|
  .mv (tO 0) (some (sOf 12)) <|
  .ln (fun xs H => fstO (builtinF .len look [32] xs H)) [(tO 12)] (some (sOf 13)) <|
  .p2 (binF .lss (evBin look .lss 3 (.tmp 11) (.tmp 13))) (tO 11) (tO 13) (some (sOf 14)) <|
  .done
/- kit.go:101 -/
noncomputable def f29r5 : K2 :=
  .mv (tO 0) (some (sOf 17)) <|
  .mv (tO 5) (some (sOf 18)) <|
  .p2 (ixS 1) (tO 17) (tO 18) (some (sOf 19)) <|
  .r1 ld1 (tO 19) (some (sOf 20)) <|
  .mv (tO 1) (some (sOf 21)) <|
  .mv (tO 5) (some (sOf 22)) <|
  .p2 (ixS 1) (tO 21) (tO 22) (some (sOf 23)) <|
  .r1 ld1 (tO 23) (some (sOf 24)) <|
  .p2 (binF .neq (evBin look .neq 3 (.tmp 20) (.tmp 24))) (tO 20) (tO 24) (some (sOf 25)) <|
  .done
/- kit.go:102 -/
noncomputable def f29r6 : K2 :=
  .mv (.con (.bool false)) (some (sOf 4)) <|
  .done
/- kit.go:100 -/
noncomputable def f29r7 : K2 :=
  .mv (tO 5) (some (sOf 15)) <|
  .p2 (binF .add (evBin look .add 3 (.tmp 15) (.const (.int .i64 (1))))) (tO 15) (.con (.int .i64 (1))) (some (sOf 16)) <|
  .mv (tO 16) (some (sOf 5)) <|
  .done
noncomputable def f29l0 : C2 := (.seq (.seq (.reg f29r4)
  (.cond (tO 14) .skip (.exit 0)))
  (.seq (.block 1 (.seq (.reg f29r5)
  (.cond (tO 25) (.seq (.reg f29r6)
  .ret) .skip)))
  (.reg f29r7)))
noncomputable def f29b0 : Code := lpN f29body 0
theorem f29l0_eq : comp look f29b0 = f29l0 := by kernel_rfl
/- kit.go:105 -/
noncomputable def f29r8 : K2 :=
  .mv (.con (.bool true)) (some (sOf 4)) <|
  .done
noncomputable def f29c : C2 := (.seq (.reg f29r0)
  (.seq (.seq (.reg f29r1)
  (.cond (tO 10) (.seq (.reg f29r2)
  .ret) .skip))
  (.seq (.seq (.reg f29r3)
  (.block 0 (.loop f29b0)))
  (.seq (.reg f29r8)
  .ret))))
theorem f29_eq : fnF look 29 = some ⟨26, f29c, [.tmp 4]⟩ := by kernel_rfl

/-! caulker/extent.List: parameters [22], temporaries 35 -/
noncomputable def f25body : Code := bodyN look 25
/- extent.go:65 -/
noncomputable def f25r0 : K2 :=
  .mv (.con .nilSl) (some (sOf 2)) <|
  .mv (.con (.int .i64 (0))) (some (sOf 3)) <|
  .done
/- extent.go:66 -/
noncomputable def f25r1 : K2 :=
  .mv (tO 0) (some (sOf 9)) <|
  .cl false 22 [(tO 9)] (some (sOf 10)) <|
  .mv (tO 10) (some (sOf 4)) <|
  .done
/- extent.go:66 -/
noncomputable def f25r2 : K2 :=
  .mv (tO 4) (some (sOf 11)) <|
  .p2 (binF .neq (evBin look .neq 25 (.tmp 11) (.const (.int .i64 (0))))) (tO 11) (.con (.int .i64 (0))) (some (sOf 12)) <|
  .done
/- extent.go:67 -/
noncomputable def f25r3 : K2 :=
  .mv (tO 4) (some (sOf 13)) <|
  .mv (.con .nilSl) (some (sOf 2)) <|
  .mv (tO 13) (some (sOf 3)) <|
  .done
/- extent.go:69 -/
noncomputable def f25r4 : K2 :=
  .mv (.con .nilSl) (some (sOf 5)) <|
  .done
/- extent.go:70 -/
noncomputable def f25r5 : K2 :=
  .mv (tO 0) (some (sOf 14)) <|
  .ln (fun xs H => fstO (builtinF .len look [22] xs H)) [(tO 14)] (some (sOf 15)) <|
  .mv (.con (.int .i64 (0))) (some (sOf 16)) <|
  .done
/- extent.go:70 -/
noncomputable def f25r6 : K2 :=
  .p2 (binF .lss (evBin look .lss 3 (.tmp 16) (.tmp 15))) (tO 16) (tO 15) (some (sOf 17)) <|
  .done
/- extent.go:70 -/
noncomputable def f25r7 : K2 :=
  .p2 (ixS 2) (tO 14) (tO 16) (some (sOf 18)) <|
  .r1 (ldN 2) (tO 18) (some (sOf 19)) <|
  .al false (alF (AV.toC (.agg [(.int .i64 (0)), (.int .i64 (0))])) 43 2) (some (sOf 7)) <|
  .st false (stN 2) (tO 7) (tO 19) none <|
  .done
/- extent.go:71 -/
noncomputable def f25r8 : K2 :=
  .p1 (fa 1) (tO 7) (some (sOf 20)) <|
  .r1 ld1 (tO 20) (some (sOf 21)) <|
  .mv (.con (.int .i64 (0))) (some (sOf 22)) <|
  .done
/- extent.go:71 -/
noncomputable def f25r9 : K2 :=
  .p2 (binF .lss (evBin look .lss 3 (.tmp 22) (.tmp 21))) (tO 22) (tO 21) (some (sOf 23)) <|
  .done
/- extent.go:71 -/
noncomputable def f25r10 : K2 :=
  .mv (tO 22) (some (sOf 24)) <|
  .mv (tO 24) (some (sOf 8)) <|
  .done
/- extent.go:72 -/
noncomputable def f25r11 : K2 :=
  .mv (tO 5) (some (sOf 25)) <|
  .p1 (fa 0) (tO 7) (some (sOf 26)) <|
  .r1 ld1 (tO 26) (some (sOf 27)) <|
  .mv (tO 8) (some (sOf 28)) <|
  .p2 (binF .add (evBin look .add 3 (.tmp 27) (.tmp 28))) (tO 27) (tO 28) (some (sOf 29)) <|
  .hn false (fun xs H => bsF 1 1 (.int .i64 (0)) 3 (zipF [0] xs) H) [(tO 29)] (some (sOf 30)) <|
  .hn false (appX 3 1 8) [(tO 25), (tO 30)] (some (sOf 31)) <|
  .mv (tO 31) (some (sOf 5)) <|
  .done
/- extent.go:71 -/
noncomputable def f25r12 : K2 :=
  .p2 (binF .add (evBin look .add 3 (.tmp 22) (.const (.int .i64 (1))))) (tO 22) (.con (.int .i64 (1))) (some (sOf 32)) <|
  .mv (tO 32) (some (sOf 22)) <|
  .done
noncomputable def f25l1 : C2 := (.seq (.reg f25r9)
  (.seq (.cond (tO 23) .skip (.exit 2))
  (.seq (.block 3 (.seq (.reg f25r10)
  (.reg f25r11)))
  (.reg f25r12))))
noncomputable def f25b1 : Code := lpN f25body 1
theorem f25l1_eq : comp look f25b1 = f25l1 := by kernel_rfl
/- extent.go:70 -/
noncomputable def f25r13 : K2 :=
  .p2 (binF .add (evBin look .add 3 (.tmp 16) (.const (.int .i64 (1))))) (tO 16) (.con (.int .i64 (1))) (some (sOf 33)) <|
  .mv (tO 33) (some (sOf 16)) <|
  .done
noncomputable def f25l0 : C2 := (.seq (.reg f25r6)
  (.seq (.cond (tO 17) .skip (.exit 0))
  (.seq (.block 1 (.seq (.reg f25r7)
  (.seq (.reg f25r8)
  (.block 2 (.loop f25b1)))))
  (.reg f25r13))))
noncomputable def f25b0 : Code := lpN f25body 0
theorem f25l0_eq : comp look f25b0 = f25l0 := by kernel_rfl
/- extent.go:75 -/
noncomputable def f25r14 : K2 :=
  .mv (tO 5) (some (sOf 34)) <|
  .mv (tO 34) (some (sOf 2)) <|
  .mv (.con (.int .i64 (0))) (some (sOf 3)) <|
  .done
noncomputable def f25c : C2 := (.seq (.reg f25r0)
  (.seq (.seq (.reg f25r1)
  (.seq (.reg f25r2)
  (.cond (tO 12) (.seq (.reg f25r3)
  .ret) .skip)))
  (.seq (.reg f25r4)
  (.seq (.seq (.reg f25r5)
  (.block 0 (.loop f25b0)))
  (.seq (.reg f25r14)
  .ret)))))
theorem f25_eq : fnF look 25 = some ⟨35, f25c, [.tmp 2, .tmp 3]⟩ := by kernel_rfl

/- ref.go:74 -/
noncomputable def f31r0 : K2 :=
  .mv (.con (.int .i64 (0))) (some (sOf 2)) <|
  .done
/- ref.go:75 -/
noncomputable def f31r1 : K2 :=
  .mv (tO 0) (some (sOf 6)) <|
  .cl false 26 [(tO 6)] (some (sOf 7)) <|
  .mv (tO 7) (some (sOf 5)) <|
  .p1 (exN 0) (tO 5) (some (sOf 8)) <|
  .p1 (exN 1) (tO 5) (some (sOf 9)) <|
  .mv (tO 8) (some (sOf 3)) <|
  .mv (tO 9) (some (sOf 4)) <|
  .done
/- ref.go:76 -/
noncomputable def f31r2 : K2 :=
  .mv (tO 3) (some (sOf 10)) <|
  .ln (fun xs H => fstO (builtinF .len look [32] xs H)) [(tO 10)] (some (sOf 11)) <|
  .mv (tO 11) (some (sOf 2)) <|
  .done
noncomputable def f31c : C2 := (.seq (.reg f31r0)
  (.seq (.reg f31r1)
  (.seq (.reg f31r2)
  .ret)))
theorem f31_eq : fnF look 31 = some ⟨12, f31c, [.tmp 2]⟩ := by kernel_rfl

/- law.go:12 -/
noncomputable def f5r0 : K2 :=
  .mv (.con (.bool false)) (some (sOf 4)) <|
  .done
noncomputable def f5r1_6 : K2 := .ln (fun xs _ => pickF xs) [(tO 19), (.con (.bool true)), (tO 22)] (some (sOf 23)) <|
  .done
noncomputable def f5r1_5 : K2 := .gd (sOf 19) false (some (sOf 22)) (.p2 (binF .gtr (evBin look .gtr 3 (.tmp 21) (.const (.int .i64 (500))))) (tO 21) (.con (.int .i64 (500))) (some (sOf 22)) <|
  f5r1_6) f5r1_6
noncomputable def f5r1_4 : K2 := .gd (sOf 19) false (some (sOf 21)) (.ln (fun xs H => fstO (builtinF .len look [32] xs H)) [(tO 20)] (some (sOf 21)) <|
  f5r1_5) f5r1_5
/- law.go:13 -/
noncomputable def f5r1 : K2 :=
  .mv (tO 0) (some (sOf 16)) <|
  .ln (fun xs H => fstO (builtinF .len look [22] xs H)) [(tO 16)] (some (sOf 17)) <|
  .p2 (binF .gtr (evBin look .gtr 3 (.tmp 17) (.const (.int .i64 (300))))) (tO 17) (.con (.int .i64 (300))) (some (sOf 18)) <|
  .mv (tO 18) (some (sOf 19)) <|
  .gd (sOf 19) false (some (sOf 20)) (.mv (tO 1) (some (sOf 20)) <|
  f5r1_4) f5r1_4
/- law.go:14 -/
noncomputable def f5r2 : K2 :=
  .cl false 10 [] (some (sOf 24)) <|
  .mv (tO 24) (some (sOf 4)) <|
  .done
/- law.go:16 -/
noncomputable def f5r3 : K2 :=
  .mv (tO 0) (some (sOf 25)) <|
  .cl false 11 [(tO 25)] (some (sOf 26)) <|
  .mv (tO 1) (some (sOf 27)) <|
  .cl false 24 [(tO 27)] (some (sOf 28)) <|
  .mv (tO 26) (some (sOf 5)) <|
  .mv (tO 28) (some (sOf 6)) <|
  .done
/- law.go:17 -/
noncomputable def f5r4 : K2 :=
  .mv (tO 5) (some (sOf 30)) <|
  .cl false 25 [(tO 30)] (some (sOf 31)) <|
  .mv (tO 31) (some (sOf 29)) <|
  .p1 (exN 0) (tO 29) (some (sOf 32)) <|
  .p1 (exN 1) (tO 29) (some (sOf 33)) <|
  .mv (tO 32) (some (sOf 7)) <|
  .mv (tO 33) (some (sOf 8)) <|
  .done
/- law.go:18 -/
noncomputable def f5r5 : K2 :=
  .mv (tO 0) (some (sOf 35)) <|
  .cl false 26 [(tO 35)] (some (sOf 36)) <|
  .mv (tO 36) (some (sOf 34)) <|
  .p1 (exN 0) (tO 34) (some (sOf 37)) <|
  .p1 (exN 1) (tO 34) (some (sOf 38)) <|
  .mv (tO 37) (some (sOf 9)) <|
  .mv (tO 38) (some (sOf 10)) <|
  .done
/- law.go:19 -/
noncomputable def f5r6 : K2 :=
  .mv (tO 6) (some (sOf 40)) <|
  .cl false 27 [(tO 40)] (some (sOf 41)) <|
  .mv (tO 41) (some (sOf 39)) <|
  .p1 (exN 0) (tO 39) (some (sOf 42)) <|
  .p1 (exN 1) (tO 39) (some (sOf 43)) <|
  .mv (tO 42) (some (sOf 11)) <|
  .mv (tO 43) (some (sOf 12)) <|
  .done
/- law.go:20 -/
noncomputable def f5r7 : K2 :=
  .mv (tO 1) (some (sOf 45)) <|
  .cl false 28 [(tO 45)] (some (sOf 46)) <|
  .mv (tO 46) (some (sOf 44)) <|
  .p1 (exN 0) (tO 44) (some (sOf 47)) <|
  .p1 (exN 1) (tO 44) (some (sOf 48)) <|
  .mv (tO 47) (some (sOf 13)) <|
  .mv (tO 48) (some (sOf 14)) <|
  .done
noncomputable def f5r8_30 : K2 := .ln (fun xs _ => pickF xs) [(tO 74), (tO 79), (.con (.bool false))] (some (sOf 80)) <|
  .mv (tO 80) (some (sOf 15)) <|
  .done
noncomputable def f5r8_29 : K2 := .gd (sOf 74) true (some (sOf 79)) (.p2 (binF .eql (evBin look .eql 3 (.tmp 76) (.tmp 78))) (tO 76) (tO 78) (some (sOf 79)) <|
  f5r8_30) f5r8_30
noncomputable def f5r8_28 : K2 := .gd (sOf 74) true (some (sOf 78)) (.cl false 31 [(tO 77)] (some (sOf 78)) <|
  f5r8_29) f5r8_29
noncomputable def f5r8_27 : K2 := .gd (sOf 74) true (some (sOf 77)) (.mv (tO 0) (some (sOf 77)) <|
  f5r8_28) f5r8_28
noncomputable def f5r8_26 : K2 := .gd (sOf 74) true (some (sOf 76)) (.cl false 23 [(tO 75)] (some (sOf 76)) <|
  f5r8_27) f5r8_27
noncomputable def f5r8_23 : K2 := .ln (fun xs _ => pickF xs) [(tO 67), (tO 72), (.con (.bool false))] (some (sOf 73)) <|
  .mv (tO 73) (some (sOf 74)) <|
  .gd (sOf 74) true (some (sOf 75)) (.mv (tO 5) (some (sOf 75)) <|
  f5r8_26) f5r8_26
noncomputable def f5r8_22 : K2 := .gd (sOf 67) true (some (sOf 72)) (.p2 (binF .eql (evBin look .eql 25 (.tmp 69) (.tmp 71))) (tO 69) (tO 71) (some (sOf 72)) <|
  f5r8_23) f5r8_23
noncomputable def f5r8_21 : K2 := .gd (sOf 67) true (some (sOf 71)) (.cl false 30 [(tO 70)] (some (sOf 71)) <|
  f5r8_22) f5r8_22
noncomputable def f5r8_20 : K2 := .gd (sOf 67) true (some (sOf 70)) (.mv (tO 0) (some (sOf 70)) <|
  f5r8_21) f5r8_21
noncomputable def f5r8_19 : K2 := .gd (sOf 67) true (some (sOf 69)) (.cl false 22 [(tO 68)] (some (sOf 69)) <|
  f5r8_20) f5r8_20
noncomputable def f5r8_16 : K2 := .ln (fun xs _ => pickF xs) [(tO 62), (tO 65), (.con (.bool false))] (some (sOf 66)) <|
  .mv (tO 66) (some (sOf 67)) <|
  .gd (sOf 67) true (some (sOf 68)) (.mv (tO 5) (some (sOf 68)) <|
  f5r8_19) f5r8_19
noncomputable def f5r8_15 : K2 := .gd (sOf 62) true (some (sOf 65)) (.p2 (binF .eql (evBin look .eql 25 (.tmp 63) (.tmp 64))) (tO 63) (tO 64) (some (sOf 65)) <|
  f5r8_16) f5r8_16
noncomputable def f5r8_14 : K2 := .gd (sOf 62) true (some (sOf 64)) (.mv (tO 14) (some (sOf 64)) <|
  f5r8_15) f5r8_15
noncomputable def f5r8_11 : K2 := .ln (fun xs _ => pickF xs) [(tO 57), (tO 60), (.con (.bool false))] (some (sOf 61)) <|
  .mv (tO 61) (some (sOf 62)) <|
  .gd (sOf 62) true (some (sOf 63)) (.mv (tO 12) (some (sOf 63)) <|
  f5r8_14) f5r8_14
noncomputable def f5r8_10 : K2 := .gd (sOf 57) true (some (sOf 60)) (.cl false 14 [(tO 58), (tO 59)] (some (sOf 60)) <|
  f5r8_11) f5r8_11
noncomputable def f5r8_9 : K2 := .gd (sOf 57) true (some (sOf 59)) (.mv (tO 13) (some (sOf 59)) <|
  f5r8_10) f5r8_10
noncomputable def f5r8_6 : K2 := .ln (fun xs _ => pickF xs) [(tO 52), (tO 55), (.con (.bool false))] (some (sOf 56)) <|
  .mv (tO 56) (some (sOf 57)) <|
  .gd (sOf 57) true (some (sOf 58)) (.mv (tO 11) (some (sOf 58)) <|
  f5r8_9) f5r8_9
noncomputable def f5r8_5 : K2 := .gd (sOf 52) true (some (sOf 55)) (.p2 (binF .eql (evBin look .eql 25 (.tmp 53) (.tmp 54))) (tO 53) (tO 54) (some (sOf 55)) <|
  f5r8_6) f5r8_6
noncomputable def f5r8_4 : K2 := .gd (sOf 52) true (some (sOf 54)) (.mv (tO 10) (some (sOf 54)) <|
  f5r8_5) f5r8_5
/- law.go:21 -/
noncomputable def f5r8 : K2 :=
  .mv (tO 7) (some (sOf 49)) <|
  .mv (tO 9) (some (sOf 50)) <|
  .cl false 29 [(tO 49), (tO 50)] (some (sOf 51)) <|
  .mv (tO 51) (some (sOf 52)) <|
  .gd (sOf 52) true (some (sOf 53)) (.mv (tO 8) (some (sOf 53)) <|
  f5r8_4) f5r8_4
/- law.go:22 -/
noncomputable def f5r9 : K2 :=
  .mv (tO 11) (some (sOf 81)) <|
  .cl false 15 [(tO 81)] (some (sOf 82)) <|
  .done
noncomputable def f5r10_12 : K2 := .ln (fun xs _ => pickF xs) [(tO 94), (tO 95), (.con (.bool false))] (some (sOf 96)) <|
  .mv (tO 96) (some (sOf 4)) <|
  .done
noncomputable def f5r10_9 : K2 := .ln (fun xs _ => pickF xs) [(tO 89), (tO 92), (.con (.bool false))] (some (sOf 93)) <|
  .mv (tO 93) (some (sOf 94)) <|
  .gd (sOf 94) true (some (sOf 95)) (.cl false 10 [] (some (sOf 95)) <|
  f5r10_12) f5r10_12
noncomputable def f5r10_8 : K2 := .gd (sOf 89) true (some (sOf 92)) (.cl false 32 [(tO 90), (tO 91)] (some (sOf 92)) <|
  f5r10_9) f5r10_9
noncomputable def f5r10_7 : K2 := .gd (sOf 89) true (some (sOf 91)) (.mv (tO 1) (some (sOf 91)) <|
  f5r10_8) f5r10_8
noncomputable def f5r10_4 : K2 := .ln (fun xs _ => pickF xs) [(tO 84), (tO 87), (.con (.bool false))] (some (sOf 88)) <|
  .mv (tO 88) (some (sOf 89)) <|
  .gd (sOf 89) true (some (sOf 90)) (.mv (tO 6) (some (sOf 90)) <|
  f5r10_7) f5r10_7
noncomputable def f5r10_3 : K2 := .gd (sOf 84) true (some (sOf 87)) (.cl false 14 [(tO 85), (tO 86)] (some (sOf 87)) <|
  f5r10_4) f5r10_4
noncomputable def f5r10_2 : K2 := .gd (sOf 84) true (some (sOf 86)) (.mv (tO 0) (some (sOf 86)) <|
  f5r10_3) f5r10_3
/- law.go:23 -/
noncomputable def f5r10 : K2 :=
  .mv (tO 15) (some (sOf 83)) <|
  .mv (tO 83) (some (sOf 84)) <|
  .gd (sOf 84) true (some (sOf 85)) (.mv (tO 5) (some (sOf 85)) <|
  f5r10_2) f5r10_2
noncomputable def f5c : C2 := (.seq (.reg f5r0)
  (.seq (.seq (.reg f5r1)
  (.cond (tO 23) (.seq (.reg f5r2)
  .ret) .skip))
  (.seq (.reg f5r3)
  (.seq (.reg f5r4)
  (.seq (.reg f5r5)
  (.seq (.reg f5r6)
  (.seq (.reg f5r7)
  (.seq (.reg f5r8)
  (.seq (.reg f5r9)
  (.seq (.reg f5r10)
  .ret))))))))))
theorem f5_eq : fnF look 5 = some ⟨97, f5c, [.tmp 4]⟩ := by kernel_rfl

end Go.Proofs.Ytnkomaedmblemaa
