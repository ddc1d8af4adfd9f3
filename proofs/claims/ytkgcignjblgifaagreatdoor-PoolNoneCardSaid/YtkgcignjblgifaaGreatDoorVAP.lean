import Derived.Test.YtkgcignjblgifaaGreatDoorVAJ
import Derived.Test.YtkgcignjblgifaaGreatDoorVAK
import Derived.Test.YtkgcignjblgifaaGreatDoorVAL
import Derived.Test.YtkgcignjblgifaaGreatDoorVAM
import Derived.Test.YtkgcignjblgifaaGreatDoorVAN
import Derived.Test.YtkgcignjblgifaaGreatDoorVAO
import Derived.WalkKit
import Derived.ProofKit
import Derived.OpenShut
import Derived.ShutString
import Derived.ChangeOld
import Derived.Below
import Derived.Deep.Slices
import Derived.Deep.Strs
import Derived.Deep.Fields
set_option maxHeartbeats 8000000
set_option linter.unusedSimpArgs false
set_option linter.unusedVariables false
open Go Go.Proofs Go.RowKit
namespace HS
open Go.Ev
set_option maxRecDepth 1000000
theorem Fpl1_ok (B : Nat) : ∀ G ∈ Fpl1, XOk Tryz.prog B 31 G.fn := facts_cons (fact_ok (lk_ok _) (fun B => extOkD_of (tab0_ok B)) FpF1_ok (by rw [← evF_eq]; exact FpF1_run) B) ((fun _ h => by cases h))
theorem Fpt1_ok (B : Nat) : ∀ p ∈ Fpt1, XOk Tryz.prog B p.1 p.2 := tab_cons (facts_ok _ (Fpl1_ok B)) (tab0_ok B)
theorem Fpl2_ok (B : Nat) : ∀ G ∈ Fpl2, XOk Tryz.prog B 317 G.fn := facts_cons (fact_ok (lk_ok _) (fun B => extOkD_of (Fpt1_ok B)) FpF2_ok (by rw [← evF_eq]; exact FpF2_run) B) ((fun _ h => by cases h))
theorem Fpt2_ok (B : Nat) : ∀ p ∈ Fpt2, XOk Tryz.prog B p.1 p.2 := tab_cons (facts_ok _ (Fpl2_ok B)) (Fpt1_ok B)
theorem Fpl3_ok (B : Nat) : ∀ G ∈ Fpl3, XOk Tryz.prog B 162 G.fn := facts_cons (fact_ok (lk_ok _) (fun B => extOkD_of (Fpt2_ok B)) FpF3_ok (by rw [← evF_eq]; exact FpF3_run) B) ((fun _ h => by cases h))
theorem Fpt3_ok (B : Nat) : ∀ p ∈ Fpt3, XOk Tryz.prog B p.1 p.2 := tab_cons (facts_ok _ (Fpl3_ok B)) (Fpt2_ok B)
theorem Fpl4_ok (B : Nat) : ∀ G ∈ Fpl4, XOk Tryz.prog B 162 G.fn := facts_cons (fact_ok (lk_ok _) (fun B => extOkD_of (Fpt3_ok B)) FpF4_ok (by rw [← evF_eq]; exact FpF4_run) B) (Fpl3_ok B)
theorem Fpt4_ok (B : Nat) : ∀ p ∈ Fpt4, XOk Tryz.prog B p.1 p.2 := tab_cons (facts_ok _ (Fpl4_ok B)) (Fpt3_ok B)
theorem Fpl5_ok (B : Nat) : ∀ G ∈ Fpl5, XOk Tryz.prog B 162 G.fn := facts_cons (fact_ok (lk_ok _) (fun B => extOkD_of (Fpt4_ok B)) FpF5_ok (by rw [← evF_eq]; exact FpF5_run) B) (Fpl4_ok B)
theorem Fpt5_ok (B : Nat) : ∀ p ∈ Fpt5, XOk Tryz.prog B p.1 p.2 := tab_cons (facts_ok _ (Fpl5_ok B)) (Fpt4_ok B)
theorem Fpl6_ok (B : Nat) : ∀ G ∈ Fpl6, XOk Tryz.prog B 231 G.fn := facts_cons (fact_ok (lk_ok _) (fun B => extOkD_of (Fpt5_ok B)) FpF6_ok (by rw [← evF_eq]; exact FpF6_run) B) ((fun _ h => by cases h))
theorem Fpt6_ok (B : Nat) : ∀ p ∈ Fpt6, XOk Tryz.prog B p.1 p.2 := tab_cons (facts_ok _ (Fpl6_ok B)) (Fpt5_ok B)
theorem Fpl7_ok (B : Nat) : ∀ G ∈ Fpl7, XOk Tryz.prog B 308 G.fn := facts_cons (fact_ok (lk_ok _) (fun B => extOkD_of (Fpt6_ok B)) FpF7_ok (by rw [← evF_eq]; exact FpF7_run) B) ((fun _ h => by cases h))
theorem Fpt7_ok (B : Nat) : ∀ p ∈ Fpt7, XOk Tryz.prog B p.1 p.2 := tab_cons (facts_ok _ (Fpl7_ok B)) (Fpt6_ok B)
theorem Fpl8_ok (B : Nat) : ∀ G ∈ Fpl8, XOk Tryz.prog B 231 G.fn := facts_cons (fact_ok (lk_ok _) (fun B => extOkD_of (Fpt7_ok B)) FpF8_ok (by rw [← evF_eq]; exact FpF8_run) B) (Fpl6_ok B)
theorem Fpt8_ok (B : Nat) : ∀ p ∈ Fpt8, XOk Tryz.prog B p.1 p.2 := tab_cons (facts_ok _ (Fpl8_ok B)) (Fpt7_ok B)
theorem Fpl9_ok (B : Nat) : ∀ G ∈ Fpl9, XOk Tryz.prog B 308 G.fn := facts_cons (fact_ok (lk_ok _) (fun B => extOkD_of (Fpt8_ok B)) FpF9_ok (by rw [← evF_eq]; exact FpF9_run) B) (Fpl7_ok B)
theorem Fpt9_ok (B : Nat) : ∀ p ∈ Fpt9, XOk Tryz.prog B p.1 p.2 := tab_cons (facts_ok _ (Fpl9_ok B)) (Fpt8_ok B)
theorem Fpl10_ok (B : Nat) : ∀ G ∈ Fpl10, XOk Tryz.prog B 231 G.fn := facts_cons (fact_ok (lk_ok _) (fun B => extOkD_of (Fpt9_ok B)) FpF10_ok (by rw [← evF_eq]; exact FpF10_run) B) (Fpl8_ok B)
theorem Fpt10_ok (B : Nat) : ∀ p ∈ Fpt10, XOk Tryz.prog B p.1 p.2 := tab_cons (facts_ok _ (Fpl10_ok B)) (Fpt9_ok B)
theorem Fpl11_ok (B : Nat) : ∀ G ∈ Fpl11, XOk Tryz.prog B 308 G.fn := facts_cons (fact_ok (lk_ok _) (fun B => extOkD_of (Fpt10_ok B)) FpF11_ok (by rw [← evF_eq]; exact FpF11_run) B) (Fpl9_ok B)
theorem Fpt11_ok (B : Nat) : ∀ p ∈ Fpt11, XOk Tryz.prog B p.1 p.2 := tab_cons (facts_ok _ (Fpl11_ok B)) (Fpt10_ok B)
theorem Fpl12_ok (B : Nat) : ∀ G ∈ Fpl12, XOk Tryz.prog B 248 G.fn := facts_cons (fact_ok (lk_ok _) (fun B => extOkD_of (Fpt11_ok B)) FpF12_ok (by rw [← evF_eq]; exact FpF12_run) B) ((fun _ h => by cases h))
theorem Fpt12_ok (B : Nat) : ∀ p ∈ Fpt12, XOk Tryz.prog B p.1 p.2 := tab_cons (facts_ok _ (Fpl12_ok B)) (Fpt11_ok B)
theorem Fpl13_ok (B : Nat) : ∀ G ∈ Fpl13, XOk Tryz.prog B 262 G.fn := facts_cons (fact_ok (lk_ok _) (fun B => extOkD_of (Fpt12_ok B)) FpF13_ok (by rw [← evF_eq]; exact FpF13_run) B) ((fun _ h => by cases h))
theorem Fpt13_ok (B : Nat) : ∀ p ∈ Fpt13, XOk Tryz.prog B p.1 p.2 := tab_cons (facts_ok _ (Fpl13_ok B)) (Fpt12_ok B)
theorem Fpl14_ok (B : Nat) : ∀ G ∈ Fpl14, XOk Tryz.prog B 169 G.fn := facts_cons (fact_ok (lk_ok _) (fun B => extOkD_of (Fpt13_ok B)) FpF14_ok (by rw [← evF_eq]; exact FpF14_run) B) ((fun _ h => by cases h))
theorem Fpt14_ok (B : Nat) : ∀ p ∈ Fpt14, XOk Tryz.prog B p.1 p.2 := tab_cons (facts_ok _ (Fpl14_ok B)) (Fpt13_ok B)
theorem Fpl15_ok (B : Nat) : ∀ G ∈ Fpl15, XOk Tryz.prog B 96 G.fn := facts_cons (fact_ok (lk_ok _) (fun B => extOkD_of (Fpt14_ok B)) FpF15_ok (by rw [← evF_eq]; exact FpF15_run) B) ((fun _ h => by cases h))
theorem Fpt15_ok (B : Nat) : ∀ p ∈ Fpt15, XOk Tryz.prog B p.1 p.2 := tab_cons (facts_ok _ (Fpl15_ok B)) (Fpt14_ok B)
theorem Fpl16_ok (B : Nat) : ∀ G ∈ Fpl16, XOk Tryz.prog B 16 G.fn := facts_cons (fact_ok (lk_ok _) (fun B => extOkD_of (Fpt15_ok B)) FpF16_ok (by rw [← evF_eq]; exact FpF16_run) B) ((fun _ h => by cases h))
theorem Fpt16_ok (B : Nat) : ∀ p ∈ Fpt16, XOk Tryz.prog B p.1 p.2 := tab_cons (facts_ok _ (Fpl16_ok B)) (Fpt15_ok B)
theorem Fpl17_ok (B : Nat) : ∀ G ∈ Fpl17, XOk Tryz.prog B 130 G.fn := facts_cons (fact_ok (lk_ok _) (fun B => extOkD_of (Fpt16_ok B)) FpF17_ok (by rw [← evF_eq]; exact FpF17_run) B) ((fun _ h => by cases h))
theorem Fpt17_ok (B : Nat) : ∀ p ∈ Fpt17, XOk Tryz.prog B p.1 p.2 := tab_cons (facts_ok _ (Fpl17_ok B)) (Fpt16_ok B)
theorem Fpl18_ok (B : Nat) : ∀ G ∈ Fpl18, XOk Tryz.prog B 130 G.fn := facts_cons (fact_ok (lk_ok _) (fun B => extOkD_of (Fpt17_ok B)) FpF18_ok (by rw [← evF_eq]; exact FpF18_run) B) (Fpl17_ok B)
theorem Fpt18_ok (B : Nat) : ∀ p ∈ Fpt18, XOk Tryz.prog B p.1 p.2 := tab_cons (facts_ok _ (Fpl18_ok B)) (Fpt17_ok B)
theorem Fpl19_ok (B : Nat) : ∀ G ∈ Fpl19, XOk Tryz.prog B 130 G.fn := facts_cons (fact_ok (lk_ok _) (fun B => extOkD_of (Fpt18_ok B)) FpF19_ok (by rw [← evF_eq]; exact FpF19_run) B) (Fpl18_ok B)
theorem Fpt19_ok (B : Nat) : ∀ p ∈ Fpt19, XOk Tryz.prog B p.1 p.2 := tab_cons (facts_ok _ (Fpl19_ok B)) (Fpt18_ok B)
theorem Fpz_awake (B : Nat) : XOk Tryz.prog B 6 xTrueZ := xTrueZ_ok (lk_ok _) (fun B => extOkD_of (Fpt19_ok B)) (by rw [← evF_eq]; exact Fprun_awake)
end HS

set_option linter.unusedSimpArgs false
set_option linter.unusedVariables false
open Go Go.Ev Go.Proofs Go.RowKit
namespace HS
set_option maxRecDepth 1000000
noncomputable def tabN : List (Nat × XFn) := (6, xTrueZ) :: tab0
theorem tabN_ok (B : Nat) : ∀ p ∈ tabN, XOk Tryz.prog B p.1 p.2 := tab_cons (Fpz_awake B) (tab0_ok B)
noncomputable def lookN : Lk := lk tabN
theorem lookN_ok : LOk lookN Tryz.prog := lk_ok tabN
theorem lookN_ext (B : Nat) : ExtOk lookN Tryz.prog B := extOkD_of (tabN_ok B)
/-! caulker/caulkerkit.LongTable: parameters [34], temporaries 44 -/
noncomputable def f20body : Code := bodyN lookN 20
/- tables.go:43 -/
noncomputable def f20r0 : K2 :=
  .m1 false (fun v H => alF v.toC 34 7 H) (tO 0) (some (sOf 1)) <|
  .mv (.con (.bool false)) (some (sOf 2)) <|
  .done
/- tables.go:44 -/
noncomputable def f20r1 : K2 :=
  .mv (.con (.int .i64 (0))) (some (sOf 3)) <|
  .done
noncomputable def f20r2_7 : K2 := .ln (fun xs _ => pickF xs) [(tO 9), (tO 11), (.con (.bool false))] (some (sOf 12)) <|
  .done
noncomputable def f20r2_6 : K2 := .gd (sOf 9) true (some (sOf 11)) (.p2 (binF .lss (evBin lookN .lss 3 (.tmp 10) (.const (.int .i64 (21))))) (tO 10) (.con (.int .i64 (21))) (some (sOf 11)) <|
  f20r2_7) f20r2_7
/- tables.go:44 -/
noncomputable def f20r2 : K2 :=
  .mv (tO 3) (some (sOf 4)) <|
  .p1 (fa 1) (tO 1) (some (sOf 5)) <|
  .r1 ld1 (tO 5) (some (sOf 6)) <|
  .ln (fun xs H => fstO (builtinF .len lookN [29] xs H)) [(tO 6)] (some (sOf 7)) <|
  .p2 (binF .lss (evBin lookN .lss 3 (.tmp 4) (.tmp 7))) (tO 4) (tO 7) (some (sOf 8)) <|
  .mv (tO 8) (some (sOf 9)) <|
  .gd (sOf 9) true (some (sOf 10)) (.mv (tO 3) (some (sOf 10)) <|
  f20r2_6) f20r2_6
noncomputable def f20r3_17 : K2 := .ln (fun xs _ => pickF xs) [(tO 23), (.con (.bool true)), (tO 32)] (some (sOf 33)) <|
  .done
noncomputable def f20r3_16 : K2 := .gd (sOf 23) false (some (sOf 32)) (.p2 (binF .gtr (evBin lookN .gtr 3 (.tmp 31) (.const (.int .i64 (20))))) (tO 31) (.con (.int .i64 (20))) (some (sOf 32)) <|
  f20r3_17) f20r3_17
noncomputable def f20r3_15 : K2 := .gd (sOf 23) false (some (sOf 31)) (.ln (fun xs H => fstO (builtinF .len lookN [22] xs H)) [(tO 30)] (some (sOf 31)) <|
  f20r3_16) f20r3_16
noncomputable def f20r3_14 : K2 := .gd (sOf 23) false (some (sOf 30)) (.r1 ld1 (tO 29) (some (sOf 30)) <|
  f20r3_15) f20r3_15
noncomputable def f20r3_13 : K2 := .gd (sOf 23) false (some (sOf 29)) (.p1 (fa 0) (tO 28) (some (sOf 29)) <|
  f20r3_14) f20r3_14
noncomputable def f20r3_12 : K2 := .gd (sOf 23) false (some (sOf 28)) (.p1 (fa 4) (tO 27) (some (sOf 28)) <|
  f20r3_13) f20r3_13
noncomputable def f20r3_11 : K2 := .gd (sOf 23) false (some (sOf 27)) (.p2 (ixS 44) (tO 25) (tO 26) (some (sOf 27)) <|
  f20r3_12) f20r3_12
noncomputable def f20r3_10 : K2 := .gd (sOf 23) false (some (sOf 26)) (.mv (tO 3) (some (sOf 26)) <|
  f20r3_11) f20r3_11
noncomputable def f20r3_9 : K2 := .gd (sOf 23) false (some (sOf 25)) (.r1 ld1 (tO 24) (some (sOf 25)) <|
  f20r3_10) f20r3_10
/- tables.go:45 -/
noncomputable def f20r3 : K2 :=
  .p1 (fa 1) (tO 1) (some (sOf 15)) <|
  .r1 ld1 (tO 15) (some (sOf 16)) <|
  .mv (tO 3) (some (sOf 17)) <|
  .p2 (ixS 44) (tO 16) (tO 17) (some (sOf 18)) <|
  .p1 (fa 1) (tO 18) (some (sOf 19)) <|
  .r1 ld1 (tO 19) (some (sOf 20)) <|
  .ln (fun xs H => fstO (builtinF .len lookN [9] xs H)) [(tO 20)] (some (sOf 21)) <|
  .p2 (binF .gtr (evBin lookN .gtr 3 (.tmp 21) (.const (.int .i64 (100))))) (tO 21) (.con (.int .i64 (100))) (some (sOf 22)) <|
  .mv (tO 22) (some (sOf 23)) <|
  .gd (sOf 23) false (some (sOf 24)) (.p1 (fa 1) (tO 1) (some (sOf 24)) <|
  f20r3_9) f20r3_9
/- tables.go:46 -/
noncomputable def f20r4 : K2 :=
  .mv (.con (.bool true)) (some (sOf 2)) <|
  .done
/- tables.go:44 -/
noncomputable def f20r5 : K2 :=
  .mv (tO 3) (some (sOf 13)) <|
  .p2 (binF .add (evBin lookN .add 3 (.tmp 13) (.const (.int .i64 (1))))) (tO 13) (.con (.int .i64 (1))) (some (sOf 14)) <|
  .mv (tO 14) (some (sOf 3)) <|
  .done
noncomputable def f20l0 : C2 := (.seq (.seq (.reg f20r2)
  (.cond (tO 12) .skip (.exit 0)))
  (.seq (.block 1 (.seq (.reg f20r3)
  (.cond (tO 33) (.seq (.reg f20r4)
  .ret) .skip)))
  (.reg f20r5)))
noncomputable def f20b0 : Code := lpN f20body 0
theorem f20l0_eq : comp lookN f20b0 = f20l0 := by kernel_rfl
noncomputable def f20r6_8 : K2 := .ln (fun xs _ => pickF xs) [(tO 38), (.con (.bool true)), (tO 42)] (some (sOf 43)) <|
  .mv (tO 43) (some (sOf 2)) <|
  .done
noncomputable def f20r6_7 : K2 := .gd (sOf 38) false (some (sOf 42)) (.p2 (binF .gtr (evBin lookN .gtr 3 (.tmp 41) (.const (.int .i64 (20))))) (tO 41) (.con (.int .i64 (20))) (some (sOf 42)) <|
  f20r6_8) f20r6_8
noncomputable def f20r6_6 : K2 := .gd (sOf 38) false (some (sOf 41)) (.ln (fun xs H => fstO (builtinF .len lookN [32] xs H)) [(tO 40)] (some (sOf 41)) <|
  f20r6_7) f20r6_7
noncomputable def f20r6_5 : K2 := .gd (sOf 38) false (some (sOf 40)) (.r1 ld1 (tO 39) (some (sOf 40)) <|
  f20r6_6) f20r6_6
/- tables.go:49 -/
noncomputable def f20r6 : K2 :=
  .p1 (fa 1) (tO 1) (some (sOf 34)) <|
  .r1 ld1 (tO 34) (some (sOf 35)) <|
  .ln (fun xs H => fstO (builtinF .len lookN [29] xs H)) [(tO 35)] (some (sOf 36)) <|
  .p2 (binF .gtr (evBin lookN .gtr 3 (.tmp 36) (.const (.int .i64 (20))))) (tO 36) (.con (.int .i64 (20))) (some (sOf 37)) <|
  .mv (tO 37) (some (sOf 38)) <|
  .gd (sOf 38) false (some (sOf 39)) (.p1 (fa 6) (tO 1) (some (sOf 39)) <|
  f20r6_5) f20r6_5
noncomputable def f20c : C2 := (.seq (.reg f20r0)
  (.seq (.seq (.reg f20r1)
  (.block 0 (.loop f20b0)))
  (.seq (.reg f20r6)
  .ret)))
theorem f20_eq : fnF lookN 20 = some ⟨44, f20c, [.tmp 2]⟩ := by kernel_rfl

/-! caulker/caulkerlaw13.Long: parameters [82], temporaries 43 -/
noncomputable def f21body : Code := bodyN lookN 21
/- law.go:20 -/
noncomputable def f21r0 : K2 :=
  .mv (.con (.bool false)) (some (sOf 2)) <|
  .done
/- law.go:21 -/
noncomputable def f21r1 : K2 :=
  .mv (.con (.int .i64 (0))) (some (sOf 3)) <|
  .done
noncomputable def f21r2_6 : K2 := .ln (fun xs _ => pickF xs) [(tO 8), (tO 10), (.con (.bool false))] (some (sOf 11)) <|
  .done
noncomputable def f21r2_5 : K2 := .gd (sOf 8) true (some (sOf 10)) (.p2 (binF .lss (evBin lookN .lss 3 (.tmp 9) (.const (.int .i64 (61))))) (tO 9) (.con (.int .i64 (61))) (some (sOf 10)) <|
  f21r2_6) f21r2_6
/- law.go:21 -/
noncomputable def f21r2 : K2 :=
  .mv (tO 3) (some (sOf 4)) <|
  .mv (tO 0) (some (sOf 5)) <|
  .ln (fun xs H => fstO (builtinF .len lookN [82] xs H)) [(tO 5)] (some (sOf 6)) <|
  .p2 (binF .lss (evBin lookN .lss 3 (.tmp 4) (.tmp 6))) (tO 4) (tO 6) (some (sOf 7)) <|
  .mv (tO 7) (some (sOf 8)) <|
  .gd (sOf 8) true (some (sOf 9)) (.mv (tO 3) (some (sOf 9)) <|
  f21r2_5) f21r2_5
noncomputable def f21r3_24 : K2 := .ln (fun xs _ => pickF xs) [(tO 30), (.con (.bool true)), (tO 38)] (some (sOf 39)) <|
  .done
noncomputable def f21r3_23 : K2 := .gd (sOf 30) false (some (sOf 38)) (.p2 (binF .gtr (evBin lookN .gtr 3 (.tmp 37) (.const (.int .i64 (20))))) (tO 37) (.con (.int .i64 (20))) (some (sOf 38)) <|
  f21r3_24) f21r3_24
noncomputable def f21r3_22 : K2 := .gd (sOf 30) false (some (sOf 37)) (.ln (fun xs H => fstO (builtinF .len lookN [22] xs H)) [(tO 36)] (some (sOf 37)) <|
  f21r3_23) f21r3_23
noncomputable def f21r3_21 : K2 := .gd (sOf 30) false (some (sOf 36)) (.r1 ld1 (tO 35) (some (sOf 36)) <|
  f21r3_22) f21r3_22
noncomputable def f21r3_20 : K2 := .gd (sOf 30) false (some (sOf 35)) (.p1 (fa 0) (tO 34) (some (sOf 35)) <|
  f21r3_21) f21r3_21
noncomputable def f21r3_19 : K2 := .gd (sOf 30) false (some (sOf 34)) (.p1 (fa 5) (tO 33) (some (sOf 34)) <|
  f21r3_20) f21r3_20
noncomputable def f21r3_18 : K2 := .gd (sOf 30) false (some (sOf 33)) (.p2 (ixS 40) (tO 31) (tO 32) (some (sOf 33)) <|
  f21r3_19) f21r3_19
noncomputable def f21r3_17 : K2 := .gd (sOf 30) false (some (sOf 32)) (.mv (tO 3) (some (sOf 32)) <|
  f21r3_18) f21r3_18
noncomputable def f21r3_14 : K2 := .ln (fun xs _ => pickF xs) [(tO 21), (.con (.bool true)), (tO 28)] (some (sOf 29)) <|
  .mv (tO 29) (some (sOf 30)) <|
  .gd (sOf 30) false (some (sOf 31)) (.mv (tO 0) (some (sOf 31)) <|
  f21r3_17) f21r3_17
noncomputable def f21r3_13 : K2 := .gd (sOf 21) false (some (sOf 28)) (.p2 (binF .gtr (evBin lookN .gtr 3 (.tmp 27) (.const (.int .i64 (100))))) (tO 27) (.con (.int .i64 (100))) (some (sOf 28)) <|
  f21r3_14) f21r3_14
noncomputable def f21r3_12 : K2 := .gd (sOf 21) false (some (sOf 27)) (.ln (fun xs H => fstO (builtinF .len lookN [9] xs H)) [(tO 26)] (some (sOf 27)) <|
  f21r3_13) f21r3_13
noncomputable def f21r3_11 : K2 := .gd (sOf 21) false (some (sOf 26)) (.r1 ld1 (tO 25) (some (sOf 26)) <|
  f21r3_12) f21r3_12
noncomputable def f21r3_10 : K2 := .gd (sOf 21) false (some (sOf 25)) (.p1 (fa 2) (tO 24) (some (sOf 25)) <|
  f21r3_11) f21r3_11
noncomputable def f21r3_9 : K2 := .gd (sOf 21) false (some (sOf 24)) (.p2 (ixS 40) (tO 22) (tO 23) (some (sOf 24)) <|
  f21r3_10) f21r3_10
noncomputable def f21r3_8 : K2 := .gd (sOf 21) false (some (sOf 23)) (.mv (tO 3) (some (sOf 23)) <|
  f21r3_9) f21r3_9
/- law.go:22 -/
noncomputable def f21r3 : K2 :=
  .mv (tO 0) (some (sOf 14)) <|
  .mv (tO 3) (some (sOf 15)) <|
  .p2 (ixS 40) (tO 14) (tO 15) (some (sOf 16)) <|
  .p1 (fa 1) (tO 16) (some (sOf 17)) <|
  .r1 ld1 (tO 17) (some (sOf 18)) <|
  .ln (fun xs H => fstO (builtinF .len lookN [9] xs H)) [(tO 18)] (some (sOf 19)) <|
  .p2 (binF .gtr (evBin lookN .gtr 3 (.tmp 19) (.const (.int .i64 (100))))) (tO 19) (.con (.int .i64 (100))) (some (sOf 20)) <|
  .mv (tO 20) (some (sOf 21)) <|
  .gd (sOf 21) false (some (sOf 22)) (.mv (tO 0) (some (sOf 22)) <|
  f21r3_8) f21r3_8
/- law.go:23 -/
noncomputable def f21r4 : K2 :=
  .mv (.con (.bool true)) (some (sOf 2)) <|
  .done
/- law.go:21 -/
noncomputable def f21r5 : K2 :=
  .mv (tO 3) (some (sOf 12)) <|
  .p2 (binF .add (evBin lookN .add 3 (.tmp 12) (.const (.int .i64 (1))))) (tO 12) (.con (.int .i64 (1))) (some (sOf 13)) <|
  .mv (tO 13) (some (sOf 3)) <|
  .done
noncomputable def f21l0 : C2 := (.seq (.seq (.reg f21r2)
  (.cond (tO 11) .skip (.exit 0)))
  (.seq (.block 1 (.seq (.reg f21r3)
  (.cond (tO 39) (.seq (.reg f21r4)
  .ret) .skip)))
  (.reg f21r5)))
noncomputable def f21b0 : Code := lpN f21body 0
theorem f21l0_eq : comp lookN f21b0 = f21l0 := by kernel_rfl
/- law.go:26 -/
noncomputable def f21r6 : K2 :=
  .mv (tO 0) (some (sOf 40)) <|
  .ln (fun xs H => fstO (builtinF .len lookN [82] xs H)) [(tO 40)] (some (sOf 41)) <|
  .p2 (binF .gtr (evBin lookN .gtr 3 (.tmp 41) (.const (.int .i64 (60))))) (tO 41) (.con (.int .i64 (60))) (some (sOf 42)) <|
  .mv (tO 42) (some (sOf 2)) <|
  .done
noncomputable def f21c : C2 := (.seq (.reg f21r0)
  (.seq (.seq (.reg f21r1)
  (.block 0 (.loop f21b0)))
  (.seq (.reg f21r6)
  .ret)))
theorem f21_eq : fnF lookN 21 = some ⟨43, f21c, [.tmp 2]⟩ := by kernel_rfl

/-! caulker/caulkerlaw15.Long: parameters [83], temporaries 33 -/
noncomputable def f22body : Code := bodyN lookN 22
/- law.go:20 -/
noncomputable def f22r0 : K2 :=
  .mv (.con (.bool false)) (some (sOf 2)) <|
  .done
/- law.go:21 -/
noncomputable def f22r1 : K2 :=
  .mv (.con (.int .i64 (0))) (some (sOf 3)) <|
  .done
noncomputable def f22r2_6 : K2 := .ln (fun xs _ => pickF xs) [(tO 8), (tO 10), (.con (.bool false))] (some (sOf 11)) <|
  .done
noncomputable def f22r2_5 : K2 := .gd (sOf 8) true (some (sOf 10)) (.p2 (binF .lss (evBin lookN .lss 3 (.tmp 9) (.const (.int .i64 (101))))) (tO 9) (.con (.int .i64 (101))) (some (sOf 10)) <|
  f22r2_6) f22r2_6
/- law.go:21 -/
noncomputable def f22r2 : K2 :=
  .mv (tO 3) (some (sOf 4)) <|
  .mv (tO 0) (some (sOf 5)) <|
  .ln (fun xs H => fstO (builtinF .len lookN [83] xs H)) [(tO 5)] (some (sOf 6)) <|
  .p2 (binF .lss (evBin lookN .lss 3 (.tmp 4) (.tmp 6))) (tO 4) (tO 6) (some (sOf 7)) <|
  .mv (tO 7) (some (sOf 8)) <|
  .gd (sOf 8) true (some (sOf 9)) (.mv (tO 3) (some (sOf 9)) <|
  f22r2_5) f22r2_5
noncomputable def f22r3_14 : K2 := .ln (fun xs _ => pickF xs) [(tO 21), (.con (.bool true)), (tO 28)] (some (sOf 29)) <|
  .done
noncomputable def f22r3_13 : K2 := .gd (sOf 21) false (some (sOf 28)) (.p2 (binF .gtr (evBin lookN .gtr 3 (.tmp 27) (.const (.int .i64 (200))))) (tO 27) (.con (.int .i64 (200))) (some (sOf 28)) <|
  f22r3_14) f22r3_14
noncomputable def f22r3_12 : K2 := .gd (sOf 21) false (some (sOf 27)) (.ln (fun xs H => fstO (builtinF .len lookN [36] xs H)) [(tO 26)] (some (sOf 27)) <|
  f22r3_13) f22r3_13
noncomputable def f22r3_11 : K2 := .gd (sOf 21) false (some (sOf 26)) (.r1 ld1 (tO 25) (some (sOf 26)) <|
  f22r3_12) f22r3_12
noncomputable def f22r3_10 : K2 := .gd (sOf 21) false (some (sOf 25)) (.p1 (fa 6) (tO 24) (some (sOf 25)) <|
  f22r3_11) f22r3_11
noncomputable def f22r3_9 : K2 := .gd (sOf 21) false (some (sOf 24)) (.p2 (ixS 7) (tO 22) (tO 23) (some (sOf 24)) <|
  f22r3_10) f22r3_10
noncomputable def f22r3_8 : K2 := .gd (sOf 21) false (some (sOf 23)) (.mv (tO 3) (some (sOf 23)) <|
  f22r3_9) f22r3_9
/- law.go:22 -/
noncomputable def f22r3 : K2 :=
  .mv (tO 0) (some (sOf 14)) <|
  .mv (tO 3) (some (sOf 15)) <|
  .p2 (ixS 7) (tO 14) (tO 15) (some (sOf 16)) <|
  .p1 (fa 5) (tO 16) (some (sOf 17)) <|
  .r1 ld1 (tO 17) (some (sOf 18)) <|
  .ln (fun xs H => fstO (builtinF .len lookN [35] xs H)) [(tO 18)] (some (sOf 19)) <|
  .p2 (binF .gtr (evBin lookN .gtr 3 (.tmp 19) (.const (.int .i64 (300))))) (tO 19) (.con (.int .i64 (300))) (some (sOf 20)) <|
  .mv (tO 20) (some (sOf 21)) <|
  .gd (sOf 21) false (some (sOf 22)) (.mv (tO 0) (some (sOf 22)) <|
  f22r3_8) f22r3_8
/- law.go:23 -/
noncomputable def f22r4 : K2 :=
  .mv (.con (.bool true)) (some (sOf 2)) <|
  .done
/- law.go:21 -/
noncomputable def f22r5 : K2 :=
  .mv (tO 3) (some (sOf 12)) <|
  .p2 (binF .add (evBin lookN .add 3 (.tmp 12) (.const (.int .i64 (1))))) (tO 12) (.con (.int .i64 (1))) (some (sOf 13)) <|
  .mv (tO 13) (some (sOf 3)) <|
  .done
noncomputable def f22l0 : C2 := (.seq (.seq (.reg f22r2)
  (.cond (tO 11) .skip (.exit 0)))
  (.seq (.block 1 (.seq (.reg f22r3)
  (.cond (tO 29) (.seq (.reg f22r4)
  .ret) .skip)))
  (.reg f22r5)))
noncomputable def f22b0 : Code := lpN f22body 0
theorem f22l0_eq : comp lookN f22b0 = f22l0 := by kernel_rfl
/- law.go:26 -/
noncomputable def f22r6 : K2 :=
  .mv (tO 0) (some (sOf 30)) <|
  .ln (fun xs H => fstO (builtinF .len lookN [83] xs H)) [(tO 30)] (some (sOf 31)) <|
  .p2 (binF .gtr (evBin lookN .gtr 3 (.tmp 31) (.const (.int .i64 (100))))) (tO 31) (.con (.int .i64 (100))) (some (sOf 32)) <|
  .mv (tO 32) (some (sOf 2)) <|
  .done
noncomputable def f22c : C2 := (.seq (.reg f22r0)
  (.seq (.seq (.reg f22r1)
  (.block 0 (.loop f22b0)))
  (.seq (.reg f22r6)
  .ret)))
theorem f22_eq : fnF lookN 22 = some ⟨33, f22c, [.tmp 2]⟩ := by kernel_rfl

/-! caulker/caulkerlaw22.Long: parameters [42], temporaries 58 -/
noncomputable def f5body : Code := bodyN lookN 5
/- law.go:30 -/
noncomputable def f5r0 : K2 :=
  .mv (.con (.bool false)) (some (sOf 2)) <|
  .done
/- law.go:31 -/
noncomputable def f5r1 : K2 :=
  .mv (.con .nilSl) (some (sOf 3)) <|
  .done
/- law.go:32 -/
noncomputable def f5r2 : K2 :=
  .mv (.con .nilSl) (some (sOf 4)) <|
  .done
/- law.go:33 -/
noncomputable def f5r3 : K2 :=
  .mv (.con (.int .i64 (0))) (some (sOf 5)) <|
  .done
noncomputable def f5r4_6 : K2 := .ln (fun xs _ => pickF xs) [(tO 10), (tO 12), (.con (.bool false))] (some (sOf 13)) <|
  .done
noncomputable def f5r4_5 : K2 := .gd (sOf 10) true (some (sOf 12)) (.p2 (binF .lss (evBin lookN .lss 3 (.tmp 11) (.const (.int .i64 (31))))) (tO 11) (.con (.int .i64 (31))) (some (sOf 12)) <|
  f5r4_6) f5r4_6
/- law.go:33 -/
noncomputable def f5r4 : K2 :=
  .mv (tO 5) (some (sOf 6)) <|
  .mv (tO 0) (some (sOf 7)) <|
  .ln (fun xs H => fstO (builtinF .len lookN [42] xs H)) [(tO 7)] (some (sOf 8)) <|
  .p2 (binF .lss (evBin lookN .lss 3 (.tmp 6) (.tmp 8))) (tO 6) (tO 8) (some (sOf 9)) <|
  .mv (tO 9) (some (sOf 10)) <|
  .gd (sOf 10) true (some (sOf 11)) (.mv (tO 5) (some (sOf 11)) <|
  f5r4_5) f5r4_5
noncomputable def f5r5_13 : K2 := .ln (fun xs _ => pickF xs) [(tO 23), (.con (.bool true)), (tO 29)] (some (sOf 30)) <|
  .done
noncomputable def f5r5_12 : K2 := .gd (sOf 23) false (some (sOf 29)) (.cl false 20 [(tO 28)] (some (sOf 29)) <|
  f5r5_13) f5r5_13
noncomputable def f5r5_11 : K2 := .gd (sOf 23) false (some (sOf 28)) (.r1 (ldN 7) (tO 27) (some (sOf 28)) <|
  f5r5_12) f5r5_12
noncomputable def f5r5_10 : K2 := .gd (sOf 23) false (some (sOf 27)) (.p1 (fa 44) (tO 26) (some (sOf 27)) <|
  f5r5_11) f5r5_11
noncomputable def f5r5_9 : K2 := .gd (sOf 23) false (some (sOf 26)) (.p2 (ixS 58) (tO 24) (tO 25) (some (sOf 26)) <|
  f5r5_10) f5r5_10
noncomputable def f5r5_8 : K2 := .gd (sOf 23) false (some (sOf 25)) (.mv (tO 5) (some (sOf 25)) <|
  f5r5_9) f5r5_9
/- law.go:34 -/
noncomputable def f5r5 : K2 :=
  .mv (tO 0) (some (sOf 16)) <|
  .mv (tO 5) (some (sOf 17)) <|
  .p2 (ixS 58) (tO 16) (tO 17) (some (sOf 18)) <|
  .p1 (fa 2) (tO 18) (some (sOf 19)) <|
  .r1 ld1 (tO 19) (some (sOf 20)) <|
  .ln (fun xs H => fstO (builtinF .len lookN [9] xs H)) [(tO 20)] (some (sOf 21)) <|
  .p2 (binF .gtr (evBin lookN .gtr 3 (.tmp 21) (.const (.int .i64 (100))))) (tO 21) (.con (.int .i64 (100))) (some (sOf 22)) <|
  .mv (tO 22) (some (sOf 23)) <|
  .gd (sOf 23) false (some (sOf 24)) (.mv (tO 0) (some (sOf 24)) <|
  f5r5_8) f5r5_8
/- law.go:35 -/
noncomputable def f5r6 : K2 :=
  .mv (.con (.bool true)) (some (sOf 2)) <|
  .done
/- law.go:37 -/
noncomputable def f5r7 : K2 :=
  .mv (tO 3) (some (sOf 31)) <|
  .mv (tO 0) (some (sOf 32)) <|
  .mv (tO 5) (some (sOf 33)) <|
  .p2 (ixS 58) (tO 32) (tO 33) (some (sOf 34)) <|
  .p1 (fa 4) (tO 34) (some (sOf 35)) <|
  .r1 (ldN 40) (tO 35) (some (sOf 36)) <|
  .hn false (fun xs H => bsF 40 1 (.agg [(.int .i64 (0)), (.str ⟨#[]⟩), (.str ⟨#[]⟩), (.int .i64 (0)), (.int .i64 (0)), .nilSl, (.int .i64 (0)), (.int .i64 (0)), (.int .u8 (0)), (.int .u8 (0)), (.int .u8 (0)), (.int .u8 (0)), (.int .u8 (0)), (.int .u8 (0)), (.int .u8 (0)), (.int .u8 (0)), (.int .u8 (0)), (.int .u8 (0)), (.int .u8 (0)), (.int .u8 (0)), (.int .u8 (0)), (.int .u8 (0)), (.int .u8 (0)), (.int .u8 (0)), (.int .u8 (0)), (.int .u8 (0)), (.int .u8 (0)), (.int .u8 (0)), (.int .u8 (0)), (.int .u8 (0)), (.int .u8 (0)), (.int .u8 (0)), (.int .u8 (0)), (.int .u8 (0)), (.int .u8 (0)), (.int .u8 (0)), (.int .u8 (0)), (.int .u8 (0)), (.int .u8 (0)), (.int .u8 (0))]) 28 (zipF [0] xs) H) [(tO 36)] (some (sOf 37)) <|
  .hn false (appX 28 40 128) [(tO 31), (tO 37)] (some (sOf 38)) <|
  .mv (tO 38) (some (sOf 3)) <|
  .done
/- law.go:38 -/
noncomputable def f5r8 : K2 :=
  .mv (tO 4) (some (sOf 39)) <|
  .mv (tO 0) (some (sOf 40)) <|
  .mv (tO 5) (some (sOf 41)) <|
  .p2 (ixS 58) (tO 40) (tO 41) (some (sOf 42)) <|
  .p1 (fa 51) (tO 42) (some (sOf 43)) <|
  .r1 (ldN 7) (tO 43) (some (sOf 44)) <|
  .hn false (fun xs H => bsF 7 1 (.agg [(.int .i64 (0)), (.int .i64 (0)), (.int .i64 (0)), (.int .i64 (0)), (.int .u8 (0)), .nilSl, .nilSl]) 38 (zipF [0] xs) H) [(tO 44)] (some (sOf 45)) <|
  .hn false (appX 38 7 88) [(tO 39), (tO 45)] (some (sOf 46)) <|
  .mv (tO 46) (some (sOf 4)) <|
  .done
/- law.go:33 -/
noncomputable def f5r9 : K2 :=
  .mv (tO 5) (some (sOf 14)) <|
  .p2 (binF .add (evBin lookN .add 3 (.tmp 14) (.const (.int .i64 (1))))) (tO 14) (.con (.int .i64 (1))) (some (sOf 15)) <|
  .mv (tO 15) (some (sOf 5)) <|
  .done
noncomputable def f5l0 : C2 := (.seq (.seq (.reg f5r4)
  (.cond (tO 13) .skip (.exit 0)))
  (.seq (.block 1 (.seq (.seq (.reg f5r5)
  (.cond (tO 30) (.seq (.reg f5r6)
  .ret) .skip))
  (.seq (.reg f5r7)
  (.reg f5r8))))
  (.reg f5r9)))
noncomputable def f5b0 : Code := lpN f5body 0
theorem f5l0_eq : comp lookN f5b0 = f5l0 := by kernel_rfl
noncomputable def f5r10_9 : K2 := .ln (fun xs _ => pickF xs) [(tO 54), (.con (.bool true)), (tO 56)] (some (sOf 57)) <|
  .mv (tO 57) (some (sOf 2)) <|
  .done
noncomputable def f5r10_8 : K2 := .gd (sOf 54) false (some (sOf 56)) (.cl false 22 [(tO 55)] (some (sOf 56)) <|
  f5r10_9) f5r10_9
noncomputable def f5r10_5 : K2 := .ln (fun xs _ => pickF xs) [(tO 50), (.con (.bool true)), (tO 52)] (some (sOf 53)) <|
  .mv (tO 53) (some (sOf 54)) <|
  .gd (sOf 54) false (some (sOf 55)) (.mv (tO 4) (some (sOf 55)) <|
  f5r10_8) f5r10_8
noncomputable def f5r10_4 : K2 := .gd (sOf 50) false (some (sOf 52)) (.cl false 21 [(tO 51)] (some (sOf 52)) <|
  f5r10_5) f5r10_5
/- law.go:40 -/
noncomputable def f5r10 : K2 :=
  .mv (tO 0) (some (sOf 47)) <|
  .ln (fun xs H => fstO (builtinF .len lookN [42] xs H)) [(tO 47)] (some (sOf 48)) <|
  .p2 (binF .gtr (evBin lookN .gtr 3 (.tmp 48) (.const (.int .i64 (30))))) (tO 48) (.con (.int .i64 (30))) (some (sOf 49)) <|
  .mv (tO 49) (some (sOf 50)) <|
  .gd (sOf 50) false (some (sOf 51)) (.mv (tO 3) (some (sOf 51)) <|
  f5r10_4) f5r10_4
noncomputable def f5c : C2 := (.seq (.reg f5r0)
  (.seq (.reg f5r1)
  (.seq (.reg f5r2)
  (.seq (.seq (.reg f5r3)
  (.block 0 (.loop f5b0)))
  (.seq (.reg f5r10)
  .ret)))))
theorem f5_eq : fnF lookN 5 = some ⟨58, f5c, [.tmp 2]⟩ := by kernel_rfl

/-! caulker/caulkerlaw22.PoolNone: parameters [40], temporaries 126 -/
noncomputable def f3body : Code := bodyN lookN 3
/- law.go:210 -/
noncomputable def f3r0 : K2 :=
  .m1 false (fun v H => alF v.toC 40 58 H) (tO 0) (some (sOf 1)) <|
  .mv (.con (.bool false)) (some (sOf 2)) <|
  .done
/- law.go:211 -/
noncomputable def f3r1 : K2 :=
  .r1 (ldN 58) (tO 1) (some (sOf 17)) <|
  .hn false (fun xs H => bsF 58 1 (.agg [(.int .i64 (0)), (.int .i64 (0)), (.str ⟨#[]⟩), (.int .u8 (0)), (.int .i64 (0)), (.str ⟨#[]⟩), (.str ⟨#[]⟩), (.int .i64 (0)), (.int .i64 (0)), .nilSl, (.int .i64 (0)), (.int .i64 (0)), (.int .u8 (0)), (.int .u8 (0)), (.int .u8 (0)), (.int .u8 (0)), (.int .u8 (0)), (.int .u8 (0)), (.int .u8 (0)), (.int .u8 (0)), (.int .u8 (0)), (.int .u8 (0)), (.int .u8 (0)), (.int .u8 (0)), (.int .u8 (0)), (.int .u8 (0)), (.int .u8 (0)), (.int .u8 (0)), (.int .u8 (0)), (.int .u8 (0)), (.int .u8 (0)), (.int .u8 (0)), (.int .u8 (0)), (.int .u8 (0)), (.int .u8 (0)), (.int .u8 (0)), (.int .u8 (0)), (.int .u8 (0)), (.int .u8 (0)), (.int .u8 (0)), (.int .u8 (0)), (.int .u8 (0)), (.int .u8 (0)), (.int .u8 (0)), (.int .i64 (0)), .nilSl, (.int .i64 (0)), (.int .i64 (0)), (.int .i64 (0)), (.int .i64 (0)), .nilSl, (.int .i64 (0)), (.int .i64 (0)), (.int .i64 (0)), (.int .i64 (0)), (.int .u8 (0)), .nilSl, .nilSl]) 40 (zipF [0] xs) H) [(tO 17)] (some (sOf 18)) <|
  .cl false 5 [(tO 18)] (some (sOf 19)) <|
  .done
/- law.go:212 -/
noncomputable def f3r2 : K2 :=
  .cl false 6 [] (some (sOf 20)) <|
  .mv (tO 20) (some (sOf 2)) <|
  .done
/- law.go:214 -/
noncomputable def f3r3 : K2 :=
  .ln (fun xs _ => evBuild lookN 47 (zipF [] xs)) [] (some (sOf 21)) <|
  .m1 false (fun v H => alF v.toC 47 8 H) (tO 21) (some (sOf 22)) <|
  .hn false (fun xs H => bsF 1 2 .nilPtr 44 (zipF [0, 1] xs) H) [(.con .nilPtr), (tO 22)] (some (sOf 23)) <|
  .mv (tO 23) (some (sOf 3)) <|
  .done
/- law.go:215 -/
noncomputable def f3r4 : K2 :=
  .ln (fun xs _ => evBuild lookN 53 (zipF [] xs)) [] (some (sOf 24)) <|
  .m1 false (fun v H => alF v.toC 53 5 H) (tO 24) (some (sOf 25)) <|
  .hn false (fun xs H => bsF 1 2 .nilPtr 49 (zipF [0, 1] xs) H) [(.con .nilPtr), (tO 25)] (some (sOf 26)) <|
  .mv (tO 26) (some (sOf 4)) <|
  .done
/- law.go:216 -/
noncomputable def f3r5 : K2 :=
  .mv (.con (.int .i64 (0))) (some (sOf 5)) <|
  .done
noncomputable def f3b0 : Code := lpN f3body 0
/- law.go:230 -/
noncomputable def f3r18 : K2 :=
  .cl false 6 [] (some (sOf 125)) <|
  .mv (tO 125) (some (sOf 2)) <|
  .done
noncomputable def f3c : C2 := (.seq (.reg f3r0)
  (.seq (.seq (.reg f3r1)
  (.cond (tO 19) (.seq (.reg f3r2)
  .ret) .skip))
  (.seq (.reg f3r3)
  (.seq (.reg f3r4)
  (.seq (.seq (.reg f3r5)
  (.block 0 (.loop f3b0)))
  (.seq (.reg f3r18)
  .ret))))))
theorem f3_eq : fnF lookN 3 = some ⟨126, f3c, [.tmp 2]⟩ := by kernel_rfl

end HS

set_option linter.unusedSimpArgs false
set_option linter.unusedVariables false
open Go Go.Ev Go.Proofs Go.RowKit
namespace HS
set_option maxRecDepth 100000
open Go.Ev
open Ra Rb Rc Rd Re Rf Rg Rh Ri Rj Rk Rl Rm Rn Ro Rp Rq Rr

theorem noextN {f : Nat} (h : xLook tabN f = none) : lookN.ext f = none := h
theorem len_str {L : Lk} {t : Nat} (ht : L.under t = some .string) (s : ByteArray) (H : AH) : fstO (builtinF .len L [t] [.str s] H) = some (.int .i64 s.size) := by
  show fstO (match evLen L t (.str s) H with | some v => some (v, H) | none => none) = _
  unfold evLen
  rw [ht]
  rfl
theorem uN29 : lookN.under 29 = some (.slice 81) := by kernel_rfl
theorem uN22 : lookN.under 22 = some (.slice 122) := by kernel_rfl
theorem uN32 : lookN.under 32 = some (.slice 3) := by kernel_rfl
theorem uN9 : lookN.under 9 = some .string := by kernel_rfl
theorem ld1_hx {H H' : AH} {i o : Nat} {v : AV} (hx : HX H H') (hi : i < H.next) (h : ld1 (.ptr i o) H = some v) : ld1 (.ptr i o) H' = some v := by
  rw [ld1_get] at h ⊢
  unfold AH.read1 AH.row at h ⊢
  rw [hx.get hi]; exact h
/-- A table's cells. -/
noncomputable abbrev tbL (n c0 c1 c2 c3 : Int) (vR vV : AV) : List AV := [.int .i64 n, vR, .int .i64 c0, .int .i64 c1, .int .i64 c2, .int .i64 c3, vV]
noncomputable abbrev tbB (n c0 c1 c2 c3 : Int) (vR vV : AV) : ABlk := .cells (.lst (tbL n c0 c1 c2 c3 vR vV)) 34 7 false false
/-- A slice of which the length alone is asked. -/
structure LenA (v : AV) (n : Nat) : Prop where
  len : ∀ {L : Lk} {t e : TypeId}, L.under t = some (.slice e) → ∀ H', fstO (builtinF .len L [t] [v] H') = some (.int .i64 n)
/-- Records, of which names and addresses are asked. -/
structure RecR (H : AH) (v : AV) (n : Nat) (ss : Nat → ByteArray) (va : Nat → AV) (na : Nat → Nat) : Prop where
  is : IsSl H v n
  nm : ∀ k, k < n → k < 21 → ∃ i o, i < H.next ∧ elA 44 v k = .ptr i o ∧ ld1 (.ptr i (o + 1)) H = some (.str (ss k)) ∧ ld1 (.ptr i (o + 4)) H = some (va k)
  ad : ∀ k, k < n → k < 21 → LenA (va k) (na k)
set_option maxHeartbeats 4000000 in
theorem longTable_ok (H : AH) (n c0 c1 c2 c3 : Int) (vR vV : AV) (nR nV : Nat) (ss : Nat → ByteArray) (va : Nat → AV) (na : Nat → Nat) (hR : RecR H vR nR ss va na) (hV : IsSl H vV nV) (hl : nR ≤ 9223372036854775807) (hh : H.hide = []) :
    FnE lookN 20 [.agg (tbL n c0 c1 c2 c3 vR vV)] H fun r H' => (∃ b, r = .bool b) ∧ H' = H.new (tbB n c0 c1 c2 c3 vR vV) := by
  refine fn_intro f20_eq (noextN rfl) rfl ?_
  unfold f20c
  (repeat' (first | refine Z ?_ | refine Zq ?_ | refine rn_blk_x (by decide) ?_ | ((first | refine' Y ?_ ?_ | refine' X ?_ ?_ ?_); rotate_left; (· (first | (simp (disch := omega) only [evl, Nat.reduceEqDiff, Nat.reduceAdd, reduceIte, reduceCtorEq] <;> exact rfl) | exact rfl)); all_goals try (refine fun (hb : _ = _) => ?_; try simp only [Zu, ne_eq, reduceCtorEq] at hb)) | (apply rk_gd_u; · simp [evl])))
  refine rk_m1 (v := .ptr H.next 0) (H' := H.new (tbB n c0 c1 c2 c3 vR vV)) (by (simp (disch := omega) only [evl, Nat.reduceEqDiff, Nat.reduceAdd, reduceIte, reduceCtorEq]); exact alF_eq _ _ _ _) ?_
  simp only [hOut_f]
  have hx := HX.new H (tbB n c0 c1 c2 c3 vR vV)
  have hr : Row (H.new (tbB n c0 c1 c2 c3 vR vV)) H.next false false 34 7 (tbL n c0 c1 c2 c3 vR vV) := Row.new hh _ _ _ _ _
  generalize hH1 : H.new (tbB n c0 c1 c2 c3 vR vV) = H1 at hx hr ⊢
  have hR1 := hR.is.hx hx
  have hV1 := hV.hx hx
  have r1 := hr.rd (k := 1) rfl
  have r6 := hr.rd (k := 6) rfl
  have hlenR := fun H' => len_el (H' := H') uN29 hR1
  have hlenV := fun H' => len_el (H' := H') uN32 hV1
  have hstr := fun s H' => len_str uN9 s H'
  (repeat' (first | refine Z ?_ | refine Zq ?_ | refine rn_blk_x (by decide) ?_ | ((first | refine' Y ?_ ?_ | refine' X ?_ ?_ ?_); rotate_left; (· (first | (simp (disch := omega) only [evl, Nat.reduceEqDiff, Nat.reduceAdd, reduceIte, reduceCtorEq] <;> exact rfl) | exact rfl)); all_goals try (refine fun (hb : _ = _) => ?_; try simp only [Zu, ne_eq, reduceCtorEq] at hb)) | (apply rk_gd_u; · simp [evl])))
  refine rc_loop (R := fun ex T' H' => (ex = .exit 0 ∧ gT T' 1 = .ptr H.next 0 ∧ H' = H1) ∨ (ex = .ret ∧ gT T' 2 = .bool true ∧ H' = H1)) ?_ ?_
  · refine lp_ind f20l0_eq (fun k T H' => ∃ q : Nat, k = nR - q ∧ q ≤ nR ∧ gT T 1 = .ptr H.next 0 ∧ gT T 3 = .int .i64 q ∧ H' = H1) _ ?_ nR _ _ ?_
    · rintro k T H2 ⟨q, hk, hq, h1, h3, rfl⟩
      unfold f20l0
      by_cases hlt : q < nR
      · have hix := @ix_el _ _ _ hR1
        by_cases h21 : q < 21
        · obtain ⟨i, o, hi, he, hs0, ha0⟩ := hR.nm q hlt h21
          have hs1 := ld1_hx hx hi hs0
          have ha1 := ld1_hx hx hi ha0
          have hlenA := fun H' => (hR.ad q hlt h21).len uN22 H'
          (repeat' (first | refine Z ?_ | refine Zq ?_ | refine rn_blk_x (by decide) ?_ | ((first | refine' Y ?_ ?_ | refine' X ?_ ?_ ?_); rotate_left; (· (first | (simp (disch := omega) only [evl, Nat.reduceEqDiff, Nat.reduceAdd, reduceIte, reduceCtorEq, h1, h3, r1, hlenR] <;> exact rfl) | exact rfl)); all_goals try (refine fun (hb : _ = _) => ?_; try simp only [Zu, ne_eq, reduceCtorEq] at hb)) | (apply rk_gd_u; · simp [evl])))
          by_cases hbig : 100 < (ss q).size
          · (repeat' (first | refine Z ?_ | refine Zq ?_ | refine rn_blk_x (by decide) ?_ | ((first | refine' Y ?_ ?_ | refine' X ?_ ?_ ?_); rotate_left; (· (first | (simp (disch := omega) only [evl, Nat.reduceEqDiff, Nat.reduceAdd, reduceIte, reduceCtorEq, h1, h3, r1, hlenR, hix, he, hs1, ha1, hstr, hlenA] <;> exact rfl) | exact rfl)); all_goals try (refine fun (hb : _ = _) => ?_; try simp only [Zu, ne_eq, reduceCtorEq] at hb)) | (apply rk_gd_u; · simp [evl])))
            refine rn_nil ?_
            refine lpq_r (.inr ⟨rfl, ?_, rfl⟩)
            (simp (disch := omega) only [evl, Nat.reduceEqDiff, Nat.reduceAdd, reduceIte, reduceCtorEq])
          · by_cases hbig2 : 20 < na q
            · (repeat' (first | refine Z ?_ | refine Zq ?_ | refine rn_blk_x (by decide) ?_ | ((first | refine' Y ?_ ?_ | refine' X ?_ ?_ ?_); rotate_left; (· (first | (simp (disch := omega) only [evl, Nat.reduceEqDiff, Nat.reduceAdd, reduceIte, reduceCtorEq, h1, h3, r1, hlenR, hix, he, hs1, ha1, hstr, hlenA] <;> exact rfl) | exact rfl)); all_goals try (refine fun (hb : _ = _) => ?_; try simp only [Zu, ne_eq, reduceCtorEq] at hb)) | (apply rk_gd_u; · simp [evl])))
              refine rn_nil ?_
              refine lpq_r (.inr ⟨rfl, ?_, rfl⟩)
              (simp (disch := omega) only [evl, Nat.reduceEqDiff, Nat.reduceAdd, reduceIte, reduceCtorEq])
            · (repeat' (first | refine Z ?_ | refine Zq ?_ | refine rn_blk_x (by decide) ?_ | ((first | refine' Y ?_ ?_ | refine' X ?_ ?_ ?_); rotate_left; (· (first | (simp (disch := omega) only [evl, Nat.reduceEqDiff, Nat.reduceAdd, reduceIte, reduceCtorEq, h1, h3, r1, hlenR, hix, he, hs1, ha1, hstr, hlenA] <;> exact rfl) | exact rfl)); all_goals try (refine fun (hb : _ = _) => ?_; try simp only [Zu, ne_eq, reduceCtorEq] at hb)) | (apply rk_gd_u; · simp [evl])))
              refine rn_nil ?_
              refine lpq_n (nR - (q + 1)) (by omega) ⟨q + 1, rfl, by omega, ?_, ?_, rfl⟩
              · (simp (disch := omega) only [evl, Nat.reduceEqDiff, Nat.reduceAdd, reduceIte, reduceCtorEq, h1])
              · (simp (disch := omega) only [evl, Nat.reduceEqDiff, Nat.reduceAdd, reduceIte, reduceCtorEq, h3]); push_cast; rfl
        · (repeat' (first | refine Z ?_ | refine Zq ?_ | refine rn_blk_x (by decide) ?_ | ((first | refine' Y ?_ ?_ | refine' X ?_ ?_ ?_); rotate_left; (· (first | (simp (disch := omega) only [evl, Nat.reduceEqDiff, Nat.reduceAdd, reduceIte, reduceCtorEq, h1, h3, r1, hlenR] <;> exact rfl) | exact rfl)); all_goals try (refine fun (hb : _ = _) => ?_; try simp only [Zu, ne_eq, reduceCtorEq] at hb)) | (apply rk_gd_u; · simp [evl])))
          refine rn_nil ?_
          refine lpq_e (.inl ⟨rfl, ?_, rfl⟩)
          (simp (disch := omega) only [evl, Nat.reduceEqDiff, Nat.reduceAdd, reduceIte, reduceCtorEq, h1])
      · (repeat' (first | refine Z ?_ | refine Zq ?_ | refine rn_blk_x (by decide) ?_ | ((first | refine' Y ?_ ?_ | refine' X ?_ ?_ ?_); rotate_left; (· (first | (simp (disch := omega) only [evl, Nat.reduceEqDiff, Nat.reduceAdd, reduceIte, reduceCtorEq, h1, h3, r1, hlenR] <;> exact rfl) | exact rfl)); all_goals try (refine fun (hb : _ = _) => ?_; try simp only [Zu, ne_eq, reduceCtorEq] at hb)) | (apply rk_gd_u; · simp [evl])))
        refine rn_nil ?_
        refine lpq_e (.inl ⟨rfl, ?_, rfl⟩)
        (simp (disch := omega) only [evl, Nat.reduceEqDiff, Nat.reduceAdd, reduceIte, reduceCtorEq, h1])
    · refine ⟨0, by omega, Nat.zero_le _, ?_, ?_, rfl⟩
      · (simp (disch := omega) only [evl, Nat.reduceEqDiff, Nat.reduceAdd, reduceIte, reduceCtorEq])
      · (simp (disch := omega) only [evl, Nat.reduceEqDiff, Nat.reduceAdd, reduceIte, reduceCtorEq]); rfl
  · rintro ex T' H' (⟨rfl, h1, rfl⟩ | ⟨rfl, h2, rfl⟩)
    · (repeat' (first | refine Z ?_ | refine Zq ?_ | refine rn_blk_x (by decide) ?_ | ((first | refine' Y ?_ ?_ | refine' X ?_ ?_ ?_); rotate_left; (· (first | (simp (disch := omega) only [evl, Nat.reduceEqDiff, Nat.reduceAdd, reduceIte, reduceCtorEq, h1, r1, r6, hlenR, hlenV] <;> exact rfl) | exact rfl)); all_goals try (refine fun (hb : _ = _) => ?_; try simp only [Zu, ne_eq, reduceCtorEq] at hb)) | (apply rk_gd_u; · simp [evl])))
      all_goals
        refine rn_nil ?_
        refine fq_ret (resV_1 _ _) ⟨?_, rfl⟩
        (simp (disch := omega) only [evl, Nat.reduceEqDiff, Nat.reduceAdd, reduceIte, reduceCtorEq])
        exact ⟨_, rfl⟩
    · (repeat' (first | refine Z ?_ | refine Zq ?_ | refine rn_blk_x (by decide) ?_ | ((first | refine' Y ?_ ?_ | refine' X ?_ ?_ ?_); rotate_left; (· (first | (simp (disch := omega) only [evl, Nat.reduceEqDiff, Nat.reduceAdd, reduceIte, reduceCtorEq, h2] <;> exact rfl) | exact rfl)); all_goals try (refine fun (hb : _ = _) => ?_; try simp only [Zu, ne_eq, reduceCtorEq] at hb)) | (apply rk_gd_u; · simp [evl])))
      refine rn_nil ?_
      refine fq_ret (resV_1 _ _) ⟨⟨true, ?_⟩, rfl⟩
      (simp (disch := omega) only [evl, Nat.reduceEqDiff, Nat.reduceAdd, reduceIte, reduceCtorEq, h2])
end HS

set_option linter.unusedSimpArgs false
set_option linter.unusedVariables false
open Go Go.Ev Go.Proofs Go.RowKit
namespace HS
set_option maxRecDepth 100000
open Go.Ev
open Ra Rb Rc Rd Re Rf Rg Rh Ri Rj Rk Rl Rm Rn Ro Rp Rq Rr
theorem uN35 : lookN.under 35 = some (.slice 5) := by kernel_rfl
theorem uN36 : lookN.under 36 = some (.slice 4) := by kernel_rfl
theorem uN82 : lookN.under 82 = some (.slice 28) := by kernel_rfl
theorem uN83 : lookN.under 83 = some (.slice 38) := by kernel_rfl
theorem uN42 : lookN.under 42 = some (.slice 40) := by kernel_rfl
set_option maxHeartbeats 4000000 in
theorem long13_ok (H : AH) (k c : Nat) (op : Bool) (s1 s2 : ByteArray) (vA : AV) (nA : Nat) (h0 : IsSl H (.sl k 0 1 c op) 1) (r1 : ld1 (.ptr k 1) H = some (.str s1)) (r2 : ld1 (.ptr k 2) H = some (.str s2)) (r5 : ld1 (.ptr k 5) H = some vA) (hA : IsSl H vA nA) :
    FnE lookN 21 [.sl k 0 1 c op] H fun r H' => (∃ b, r = .bool b) ∧ H' = H := by
  refine fn_intro f21_eq (noextN rfl) rfl ?_
  unfold f21c
  have hlen := fun H' => len_el (H' := H') uN82 h0
  have hlenA := fun H' => len_el (H' := H') uN22 hA
  have hstr := fun s H' => len_str uN9 s H'
  have hix : ixS 40 (.sl k 0 1 c op) (.int .i64 0) = some (.ptr k 0) := rfl
  (repeat' (first | refine Z ?_ | refine Zq ?_ | refine rn_blk_x (by decide) ?_ | ((first | refine' Y ?_ ?_ | refine' X ?_ ?_ ?_); rotate_left; (· (first | (simp (disch := omega) only [evl, Nat.reduceEqDiff, Nat.reduceAdd, reduceIte, reduceCtorEq] <;> exact rfl) | exact rfl)); all_goals try (refine fun (hb : _ = _) => ?_; try simp only [Zu, ne_eq, reduceCtorEq] at hb)) | (apply rk_gd_u; · simp [evl])))
  refine rc_loop (R := fun ex T' H' => (ex = .exit 0 ∧ gT T' 0 = .sl k 0 1 c op ∧ H' = H) ∨ (ex = .ret ∧ gT T' 2 = .bool true ∧ H' = H)) ?_ ?_
  · refine lp_ind f21l0_eq (fun j T H' => gT T 0 = .sl k 0 1 c op ∧ H' = H ∧ ((j = 1 ∧ gT T 3 = .int .i64 0) ∨ (j = 0 ∧ gT T 3 = .int .i64 1))) _ ?_ 1 _ _ ?_
    · rintro j T H2 ⟨e0, rfl, ⟨rfl, e3⟩ | ⟨rfl, e3⟩⟩
      · unfold f21l0
        by_cases b1 : 100 < s1.size
        · (repeat' (first | refine Z ?_ | refine Zq ?_ | refine rn_blk_x (by decide) ?_ | ((first | refine' Y ?_ ?_ | refine' X ?_ ?_ ?_); rotate_left; (· (first | (simp (disch := omega) only [evl, Nat.reduceEqDiff, Nat.reduceAdd, reduceIte, reduceCtorEq, e0, e3, hlen, hix, r1, r2, r5, hstr, hlenA] <;> exact rfl) | exact rfl)); all_goals try (refine fun (hb : _ = _) => ?_; try simp only [Zu, ne_eq, reduceCtorEq] at hb)) | (apply rk_gd_u; · simp [evl])))
          refine rn_nil ?_
          refine lpq_r (.inr ⟨rfl, ?_, rfl⟩)
          (simp (disch := omega) only [evl, Nat.reduceEqDiff, Nat.reduceAdd, reduceIte, reduceCtorEq])
        · by_cases b2 : 100 < s2.size
          · (repeat' (first | refine Z ?_ | refine Zq ?_ | refine rn_blk_x (by decide) ?_ | ((first | refine' Y ?_ ?_ | refine' X ?_ ?_ ?_); rotate_left; (· (first | (simp (disch := omega) only [evl, Nat.reduceEqDiff, Nat.reduceAdd, reduceIte, reduceCtorEq, e0, e3, hlen, hix, r1, r2, r5, hstr, hlenA] <;> exact rfl) | exact rfl)); all_goals try (refine fun (hb : _ = _) => ?_; try simp only [Zu, ne_eq, reduceCtorEq] at hb)) | (apply rk_gd_u; · simp [evl])))
            refine rn_nil ?_
            refine lpq_r (.inr ⟨rfl, ?_, rfl⟩)
            (simp (disch := omega) only [evl, Nat.reduceEqDiff, Nat.reduceAdd, reduceIte, reduceCtorEq])
          · by_cases b3 : 20 < nA
            · (repeat' (first | refine Z ?_ | refine Zq ?_ | refine rn_blk_x (by decide) ?_ | ((first | refine' Y ?_ ?_ | refine' X ?_ ?_ ?_); rotate_left; (· (first | (simp (disch := omega) only [evl, Nat.reduceEqDiff, Nat.reduceAdd, reduceIte, reduceCtorEq, e0, e3, hlen, hix, r1, r2, r5, hstr, hlenA] <;> exact rfl) | exact rfl)); all_goals try (refine fun (hb : _ = _) => ?_; try simp only [Zu, ne_eq, reduceCtorEq] at hb)) | (apply rk_gd_u; · simp [evl])))
              refine rn_nil ?_
              refine lpq_r (.inr ⟨rfl, ?_, rfl⟩)
              (simp (disch := omega) only [evl, Nat.reduceEqDiff, Nat.reduceAdd, reduceIte, reduceCtorEq])
            · (repeat' (first | refine Z ?_ | refine Zq ?_ | refine rn_blk_x (by decide) ?_ | ((first | refine' Y ?_ ?_ | refine' X ?_ ?_ ?_); rotate_left; (· (first | (simp (disch := omega) only [evl, Nat.reduceEqDiff, Nat.reduceAdd, reduceIte, reduceCtorEq, e0, e3, hlen, hix, r1, r2, r5, hstr, hlenA] <;> exact rfl) | exact rfl)); all_goals try (refine fun (hb : _ = _) => ?_; try simp only [Zu, ne_eq, reduceCtorEq] at hb)) | (apply rk_gd_u; · simp [evl])))
              refine rn_nil ?_
              refine lpq_n 0 (by omega) ⟨?_, rfl, .inr ⟨rfl, ?_⟩⟩
              · (simp (disch := omega) only [evl, Nat.reduceEqDiff, Nat.reduceAdd, reduceIte, reduceCtorEq, e0])
              · (simp (disch := omega) only [evl, Nat.reduceEqDiff, Nat.reduceAdd, reduceIte, reduceCtorEq, e3]); rfl
      · unfold f21l0
        (repeat' (first | refine Z ?_ | refine Zq ?_ | refine rn_blk_x (by decide) ?_ | ((first | refine' Y ?_ ?_ | refine' X ?_ ?_ ?_); rotate_left; (· (first | (simp (disch := omega) only [evl, Nat.reduceEqDiff, Nat.reduceAdd, reduceIte, reduceCtorEq, e0, e3, hlen] <;> exact rfl) | exact rfl)); all_goals try (refine fun (hb : _ = _) => ?_; try simp only [Zu, ne_eq, reduceCtorEq] at hb)) | (apply rk_gd_u; · simp [evl])))
        refine rn_nil ?_
        refine lpq_e (.inl ⟨rfl, ?_, rfl⟩)
        (simp (disch := omega) only [evl, Nat.reduceEqDiff, Nat.reduceAdd, reduceIte, reduceCtorEq, e0])
    · refine ⟨?_, rfl, .inl ⟨rfl, ?_⟩⟩
      · (simp (disch := omega) only [evl, Nat.reduceEqDiff, Nat.reduceAdd, reduceIte, reduceCtorEq])
      · (simp (disch := omega) only [evl, Nat.reduceEqDiff, Nat.reduceAdd, reduceIte, reduceCtorEq])
  · rintro ex T' H' (⟨rfl, e0, rfl⟩ | ⟨rfl, e2, rfl⟩)
    · (repeat' (first | refine Z ?_ | refine Zq ?_ | refine rn_blk_x (by decide) ?_ | ((first | refine' Y ?_ ?_ | refine' X ?_ ?_ ?_); rotate_left; (· (first | (simp (disch := omega) only [evl, Nat.reduceEqDiff, Nat.reduceAdd, reduceIte, reduceCtorEq, e0, hlen] <;> exact rfl) | exact rfl)); all_goals try (refine fun (hb : _ = _) => ?_; try simp only [Zu, ne_eq, reduceCtorEq] at hb)) | (apply rk_gd_u; · simp [evl])))
      all_goals
        refine rn_nil ?_
        refine fq_ret (resV_1 _ _) ⟨?_, rfl⟩
        (simp (disch := omega) only [evl, Nat.reduceEqDiff, Nat.reduceAdd, reduceIte, reduceCtorEq])
        exact ⟨_, rfl⟩
    · (repeat' (first | refine Z ?_ | refine Zq ?_ | refine rn_blk_x (by decide) ?_ | ((first | refine' Y ?_ ?_ | refine' X ?_ ?_ ?_); rotate_left; (· (first | (simp (disch := omega) only [evl, Nat.reduceEqDiff, Nat.reduceAdd, reduceIte, reduceCtorEq, e2] <;> exact rfl) | exact rfl)); all_goals try (refine fun (hb : _ = _) => ?_; try simp only [Zu, ne_eq, reduceCtorEq] at hb)) | (apply rk_gd_u; · simp [evl])))
      refine rn_nil ?_
      refine fq_ret (resV_1 _ _) ⟨⟨true, ?_⟩, rfl⟩
      (simp (disch := omega) only [evl, Nat.reduceEqDiff, Nat.reduceAdd, reduceIte, reduceCtorEq, e2])
set_option maxHeartbeats 4000000 in
theorem long15_ok (H : AH) (k c : Nat) (op : Bool) (vA vB : AV) (nA nB : Nat) (h0 : IsSl H (.sl k 0 1 c op) 1) (r1 : ld1 (.ptr k 5) H = some vA) (r2 : ld1 (.ptr k 6) H = some vB) (hA : IsSl H vA nA) (hB : IsSl H vB nB) :
    FnE lookN 22 [.sl k 0 1 c op] H fun r H' => (∃ b, r = .bool b) ∧ H' = H := by
  refine fn_intro f22_eq (noextN rfl) rfl ?_
  unfold f22c
  have hlen := fun H' => len_el (H' := H') uN83 h0
  have hlenA := fun H' => len_el (H' := H') uN35 hA
  have hlenB := fun H' => len_el (H' := H') uN36 hB
  have hix : ixS 7 (.sl k 0 1 c op) (.int .i64 0) = some (.ptr k 0) := rfl
  (repeat' (first | refine Z ?_ | refine Zq ?_ | refine rn_blk_x (by decide) ?_ | ((first | refine' Y ?_ ?_ | refine' X ?_ ?_ ?_); rotate_left; (· (first | (simp (disch := omega) only [evl, Nat.reduceEqDiff, Nat.reduceAdd, reduceIte, reduceCtorEq] <;> exact rfl) | exact rfl)); all_goals try (refine fun (hb : _ = _) => ?_; try simp only [Zu, ne_eq, reduceCtorEq] at hb)) | (apply rk_gd_u; · simp [evl])))
  refine rc_loop (R := fun ex T' H' => (ex = .exit 0 ∧ gT T' 0 = .sl k 0 1 c op ∧ H' = H) ∨ (ex = .ret ∧ gT T' 2 = .bool true ∧ H' = H)) ?_ ?_
  · refine lp_ind f22l0_eq (fun j T H' => gT T 0 = .sl k 0 1 c op ∧ H' = H ∧ ((j = 1 ∧ gT T 3 = .int .i64 0) ∨ (j = 0 ∧ gT T 3 = .int .i64 1))) _ ?_ 1 _ _ ?_
    · rintro j T H2 ⟨e0, rfl, ⟨rfl, e3⟩ | ⟨rfl, e3⟩⟩
      · unfold f22l0
        by_cases b1 : 300 < nA
        · (repeat' (first | refine Z ?_ | refine Zq ?_ | refine rn_blk_x (by decide) ?_ | ((first | refine' Y ?_ ?_ | refine' X ?_ ?_ ?_); rotate_left; (· (first | (simp (disch := omega) only [evl, Nat.reduceEqDiff, Nat.reduceAdd, reduceIte, reduceCtorEq, e0, e3, hlen, hix, r1, r2, hlenA, hlenB] <;> exact rfl) | exact rfl)); all_goals try (refine fun (hb : _ = _) => ?_; try simp only [Zu, ne_eq, reduceCtorEq] at hb)) | (apply rk_gd_u; · simp [evl])))
          refine rn_nil ?_
          refine lpq_r (.inr ⟨rfl, ?_, rfl⟩)
          (simp (disch := omega) only [evl, Nat.reduceEqDiff, Nat.reduceAdd, reduceIte, reduceCtorEq])
        · by_cases b2 : 200 < nB
          · (repeat' (first | refine Z ?_ | refine Zq ?_ | refine rn_blk_x (by decide) ?_ | ((first | refine' Y ?_ ?_ | refine' X ?_ ?_ ?_); rotate_left; (· (first | (simp (disch := omega) only [evl, Nat.reduceEqDiff, Nat.reduceAdd, reduceIte, reduceCtorEq, e0, e3, hlen, hix, r1, r2, hlenA, hlenB] <;> exact rfl) | exact rfl)); all_goals try (refine fun (hb : _ = _) => ?_; try simp only [Zu, ne_eq, reduceCtorEq] at hb)) | (apply rk_gd_u; · simp [evl])))
            refine rn_nil ?_
            refine lpq_r (.inr ⟨rfl, ?_, rfl⟩)
            (simp (disch := omega) only [evl, Nat.reduceEqDiff, Nat.reduceAdd, reduceIte, reduceCtorEq])
          · (repeat' (first | refine Z ?_ | refine Zq ?_ | refine rn_blk_x (by decide) ?_ | ((first | refine' Y ?_ ?_ | refine' X ?_ ?_ ?_); rotate_left; (· (first | (simp (disch := omega) only [evl, Nat.reduceEqDiff, Nat.reduceAdd, reduceIte, reduceCtorEq, e0, e3, hlen, hix, r1, r2, hlenA, hlenB] <;> exact rfl) | exact rfl)); all_goals try (refine fun (hb : _ = _) => ?_; try simp only [Zu, ne_eq, reduceCtorEq] at hb)) | (apply rk_gd_u; · simp [evl])))
            refine rn_nil ?_
            refine lpq_n 0 (by omega) ⟨?_, rfl, .inr ⟨rfl, ?_⟩⟩
            · (simp (disch := omega) only [evl, Nat.reduceEqDiff, Nat.reduceAdd, reduceIte, reduceCtorEq, e0])
            · (simp (disch := omega) only [evl, Nat.reduceEqDiff, Nat.reduceAdd, reduceIte, reduceCtorEq, e3]); rfl
      · unfold f22l0
        (repeat' (first | refine Z ?_ | refine Zq ?_ | refine rn_blk_x (by decide) ?_ | ((first | refine' Y ?_ ?_ | refine' X ?_ ?_ ?_); rotate_left; (· (first | (simp (disch := omega) only [evl, Nat.reduceEqDiff, Nat.reduceAdd, reduceIte, reduceCtorEq, e0, e3, hlen] <;> exact rfl) | exact rfl)); all_goals try (refine fun (hb : _ = _) => ?_; try simp only [Zu, ne_eq, reduceCtorEq] at hb)) | (apply rk_gd_u; · simp [evl])))
        refine rn_nil ?_
        refine lpq_e (.inl ⟨rfl, ?_, rfl⟩)
        (simp (disch := omega) only [evl, Nat.reduceEqDiff, Nat.reduceAdd, reduceIte, reduceCtorEq, e0])
    · refine ⟨?_, rfl, .inl ⟨rfl, ?_⟩⟩
      · (simp (disch := omega) only [evl, Nat.reduceEqDiff, Nat.reduceAdd, reduceIte, reduceCtorEq])
      · (simp (disch := omega) only [evl, Nat.reduceEqDiff, Nat.reduceAdd, reduceIte, reduceCtorEq])
  · rintro ex T' H' (⟨rfl, e0, rfl⟩ | ⟨rfl, e2, rfl⟩)
    · (repeat' (first | refine Z ?_ | refine Zq ?_ | refine rn_blk_x (by decide) ?_ | ((first | refine' Y ?_ ?_ | refine' X ?_ ?_ ?_); rotate_left; (· (first | (simp (disch := omega) only [evl, Nat.reduceEqDiff, Nat.reduceAdd, reduceIte, reduceCtorEq, e0, hlen] <;> exact rfl) | exact rfl)); all_goals try (refine fun (hb : _ = _) => ?_; try simp only [Zu, ne_eq, reduceCtorEq] at hb)) | (apply rk_gd_u; · simp [evl])))
      all_goals
        refine rn_nil ?_
        refine fq_ret (resV_1 _ _) ⟨?_, rfl⟩
        (simp (disch := omega) only [evl, Nat.reduceEqDiff, Nat.reduceAdd, reduceIte, reduceCtorEq])
        exact ⟨_, rfl⟩
    · (repeat' (first | refine Z ?_ | refine Zq ?_ | refine rn_blk_x (by decide) ?_ | ((first | refine' Y ?_ ?_ | refine' X ?_ ?_ ?_); rotate_left; (· (first | (simp (disch := omega) only [evl, Nat.reduceEqDiff, Nat.reduceAdd, reduceIte, reduceCtorEq, e2] <;> exact rfl) | exact rfl)); all_goals try (refine fun (hb : _ = _) => ?_; try simp only [Zu, ne_eq, reduceCtorEq] at hb)) | (apply rk_gd_u; · simp [evl])))
      refine rn_nil ?_
      refine fq_ret (resV_1 _ _) ⟨⟨true, ?_⟩, rfl⟩
      (simp (disch := omega) only [evl, Nat.reduceEqDiff, Nat.reduceAdd, reduceIte, reduceCtorEq, e2])
end HS

set_option linter.unusedSimpArgs false
set_option linter.unusedVariables false
open Go Go.Ev Go.Proofs Go.RowKit
namespace HS
set_option maxRecDepth 100000
open Go.Ev
open Ra Rb Rc Rd Re Rf Rg Rh Ri Rj Rk Rl Rm Rn Ro Rp Rq Rr
/-- An act that came in. -/
structure ActA where
  kd : Int
  n : Int
  nm : ByteArray
  b : Int
  dk : Int
  dn : ByteArray
  dt : ByteArray
  d3 : Int
  d4 : Int
  vA : AV
  p1 : Int
  p2 : Int
  ds : Nat → Int
  tn : Int
  vR : AV
  c0 : Int
  c1 : Int
  c2 : Int
  c3 : Int
  vV : AV
  x0 : Int
  x1 : Int
  x2 : Int
  x3 : Int
  xm : Int
  vB : AV
  vK : AV
noncomputable abbrev actL (x : ActA) : List AV := [.int .i64 x.kd, .int .i64 x.n, .str x.nm, .int .u8 x.b, .int .i64 x.dk, .str x.dn, .str x.dt, .int .i64 x.d3, .int .i64 x.d4, x.vA, .int .i64 x.p1, .int .i64 x.p2, .int .u8 (x.ds 0), .int .u8 (x.ds 1), .int .u8 (x.ds 2), .int .u8 (x.ds 3), .int .u8 (x.ds 4), .int .u8 (x.ds 5), .int .u8 (x.ds 6), .int .u8 (x.ds 7), .int .u8 (x.ds 8), .int .u8 (x.ds 9), .int .u8 (x.ds 10), .int .u8 (x.ds 11), .int .u8 (x.ds 12), .int .u8 (x.ds 13), .int .u8 (x.ds 14), .int .u8 (x.ds 15), .int .u8 (x.ds 16), .int .u8 (x.ds 17), .int .u8 (x.ds 18), .int .u8 (x.ds 19), .int .u8 (x.ds 20), .int .u8 (x.ds 21), .int .u8 (x.ds 22), .int .u8 (x.ds 23), .int .u8 (x.ds 24), .int .u8 (x.ds 25), .int .u8 (x.ds 26), .int .u8 (x.ds 27), .int .u8 (x.ds 28), .int .u8 (x.ds 29), .int .u8 (x.ds 30), .int .u8 (x.ds 31), .int .i64 x.tn, x.vR, .int .i64 x.c0, .int .i64 x.c1, .int .i64 x.c2, .int .i64 x.c3, x.vV, .int .i64 x.x0, .int .i64 x.x1, .int .i64 x.x2, .int .i64 x.x3, .int .u8 x.xm, x.vB, x.vK]
noncomputable abbrev actD (x : ActA) : List AV := [.int .i64 x.dk, .str x.dn, .str x.dt, .int .i64 x.d3, .int .i64 x.d4, x.vA, .int .i64 x.p1, .int .i64 x.p2, .int .u8 (x.ds 0), .int .u8 (x.ds 1), .int .u8 (x.ds 2), .int .u8 (x.ds 3), .int .u8 (x.ds 4), .int .u8 (x.ds 5), .int .u8 (x.ds 6), .int .u8 (x.ds 7), .int .u8 (x.ds 8), .int .u8 (x.ds 9), .int .u8 (x.ds 10), .int .u8 (x.ds 11), .int .u8 (x.ds 12), .int .u8 (x.ds 13), .int .u8 (x.ds 14), .int .u8 (x.ds 15), .int .u8 (x.ds 16), .int .u8 (x.ds 17), .int .u8 (x.ds 18), .int .u8 (x.ds 19), .int .u8 (x.ds 20), .int .u8 (x.ds 21), .int .u8 (x.ds 22), .int .u8 (x.ds 23), .int .u8 (x.ds 24), .int .u8 (x.ds 25), .int .u8 (x.ds 26), .int .u8 (x.ds 27), .int .u8 (x.ds 28), .int .u8 (x.ds 29), .int .u8 (x.ds 30), .int .u8 (x.ds 31)]
noncomputable abbrev actX (x : ActA) : List AV := [.int .i64 x.x0, .int .i64 x.x1, .int .i64 x.x2, .int .i64 x.x3, .int .u8 x.xm, x.vB, x.vK]
noncomputable abbrev actT (x : ActA) : List AV := tbL x.tn x.c0 x.c1 x.c2 x.c3 x.vR x.vV
noncomputable abbrev h5 (B : Nat → ABlk) : AH := hA [B 0, B 1, B 2, B 3, B 4, B 5, B 6, B 7, B 8, B 9, B 10, B 11, B 12, B 13, B 14, B 15, B 16, B 17, B 18, B 19, B 20, B 21, B 22, B 23, B 24, B 25]
noncomputable abbrev g1 (x : ActA) (B : Nat → ABlk) : AH := (h5 B).new (.cells (.lst (actL x)) 40 58 false false)
noncomputable abbrev g2 (x : ActA) (B : Nat → ABlk) : AH := (g1 x B).new (.cells (.lst (actL x)) 40 58 false false)
noncomputable abbrev g3 (x : ActA) (B : Nat → ABlk) : AH := (g2 x B).new (tbB x.tn x.c0 x.c1 x.c2 x.c3 x.vR x.vV)
noncomputable abbrev g4 (x : ActA) (B : Nat → ABlk) : AH := (g3 x B).new (.cells (.lst (actD x)) 28 40 false false)
noncomputable abbrev g5 (x : ActA) (B : Nat → ABlk) : AH := (g4 x B).new (.cells (.lst (actD x)) 28 40 true false)
noncomputable abbrev g6 (x : ActA) (B : Nat → ABlk) : AH := (g5 x B).new (.cells (.lst (actX x)) 38 7 false false)
noncomputable abbrev g7 (x : ActA) (B : Nat → ABlk) : AH := (g6 x B).new (.cells (.lst (actX x)) 38 7 true false)
section
variable (x : ActA) (B : Nat → ABlk)
theorem k44 : ldN 7 (.ptr 27 44) (g2 x B) = some (.agg (actT x)) := by kernel_rfl
theorem k2 : ld1 (.ptr 27 2) (g2 x B) = some (.str x.nm) := by kernel_rfl
theorem k4 : ldN 40 (.ptr 27 4) (g3 x B) = some (.agg (actD x)) := by kernel_rfl
theorem kb4 : bsF 40 1 (.agg [(.int .i64 (0)), (.str ⟨#[]⟩), (.str ⟨#[]⟩), (.int .i64 (0)), (.int .i64 (0)), .nilSl, (.int .i64 (0)), (.int .i64 (0)), (.int .u8 (0)), (.int .u8 (0)), (.int .u8 (0)), (.int .u8 (0)), (.int .u8 (0)), (.int .u8 (0)), (.int .u8 (0)), (.int .u8 (0)), (.int .u8 (0)), (.int .u8 (0)), (.int .u8 (0)), (.int .u8 (0)), (.int .u8 (0)), (.int .u8 (0)), (.int .u8 (0)), (.int .u8 (0)), (.int .u8 (0)), (.int .u8 (0)), (.int .u8 (0)), (.int .u8 (0)), (.int .u8 (0)), (.int .u8 (0)), (.int .u8 (0)), (.int .u8 (0)), (.int .u8 (0)), (.int .u8 (0)), (.int .u8 (0)), (.int .u8 (0)), (.int .u8 (0)), (.int .u8 (0)), (.int .u8 (0)), (.int .u8 (0))]) 28 (zipF [0] [.agg (actD x)]) (g3 x B) = some (.sl 29 0 1 1 false, g4 x B) := by kernel_rfl
theorem ka5 (hv : x.vA.oneCell = true) : appX 28 40 128 [.nilSl, .sl 29 0 1 1 false] (g4 x B) = some (.sl 30 0 1 1 true, g5 x B) := by
  obtain ⟨kd, n, nm, bb, dk, dn, dt, d3, d4, vA, p1, p2, ds, tn, vR, c0, c1, c2, c3, vV, x0, x1, x2, x3, xm, vB, vK⟩ := x
  cases vA <;> first | (cases hv; done) | kernel_rfl
theorem k51 : ldN 7 (.ptr 27 51) (g5 x B) = some (.agg (actX x)) := by kernel_rfl
theorem kb6 : bsF 7 1 (.agg [(.int .i64 (0)), (.int .i64 (0)), (.int .i64 (0)), (.int .i64 (0)), (.int .u8 (0)), .nilSl, .nilSl]) 38 (zipF [0] [.agg (actX x)]) (g5 x B) = some (.sl 31 0 1 1 false, g6 x B) := by kernel_rfl
theorem ka7 (hv : x.vB.oneCell = true) (hw : x.vK.oneCell = true) : appX 38 7 88 [.nilSl, .sl 31 0 1 1 false] (g6 x B) = some (.sl 32 0 1 1 true, g7 x B) := by
  obtain ⟨kd, n, nm, bb, dk, dn, dt, d3, d4, vA, p1, p2, ds, tn, vR, c0, c1, c2, c3, vV, x0, x1, x2, x3, xm, vB, vK⟩ := x
  cases vB <;> first | (cases hv; done) | (cases vK <;> first | (cases hw; done) | kernel_rfl)
end
end HS

set_option linter.unusedSimpArgs false
set_option linter.unusedVariables false
open Go Go.Ev Go.Proofs Go.RowKit
namespace HS
set_option maxRecDepth 100000
open Go.Ev
open Ra Rb Rc Rd Re Rf Rg Rh Ri Rj Rk Rl Rm Rn Ro Rp Rq Rr
theorem one_of_sl {H : AH} {v : AV} {n : Nat} (h : IsSl H v n) : v.oneCell = true := by
  rcases h with ⟨rfl, _⟩ | ⟨i, o, c, op, rfl, _⟩ <;> rfl
theorem RecR.hx {H H' : AH} {v : AV} {n : Nat} {ss : Nat → ByteArray} {va : Nat → AV} {na : Nat → Nat} (h : RecR H v n ss va na) (hx : HX H H') : RecR H' v n ss va na :=
  ⟨h.is.hx hx, fun k hk hk2 => by
    obtain ⟨i, o, hi, he, h1, h2⟩ := h.nm k hk hk2
    exact ⟨i, o, Nat.lt_of_lt_of_le hi hx.next, he, ld1_hx hx hi h1, ld1_hx hx hi h2⟩, h.ad⟩
set_option maxHeartbeats 8000000 in
theorem long22_ok (x : ActA) (B : Nat → ABlk) (nR nV nA nB nK : Nat) (ss : Nat → ByteArray) (va : Nat → AV) (na : Nat → Nat) (hR : RecR (h5 B) x.vR nR ss va na) (hV : IsSl (h5 B) x.vV nV) (hA : IsSl (h5 B) x.vA nA) (hB : IsSl (h5 B) x.vB nB) (hK : IsSl (h5 B) x.vK nK) (hl : nR ≤ 9223372036854775807) :
    FnE lookN 5 [.sl 27 0 1 1 false] (g2 x B) fun r H' => r = .bool true ∨ (r = .bool false ∧ H' = g7 x B) := by
  refine fn_intro f5_eq (noextN rfl) rfl ?_
  unfold f5c
  have q2 := k2 x B
  have q44 := k44 x B
  have q4 := k4 x B
  have q51 := k51 x B
  have p4 := kb4 x B
  have p5 := ka5 x B (one_of_sl hA)
  have p6 := kb6 x B
  have p7 := ka7 x B (one_of_sl hB) (one_of_sl hK)
  have row6 : Row (g2 x B) 27 false false 40 58 (actL x) := Row.new (H := g1 x B) rfl (.lst (actL x)) 40 58 false false
  have row9a : Row (g5 x B) 30 false true 28 40 (actD x) := Row.new (H := g4 x B) rfl (.lst (actD x)) 28 40 true false
  have hx57 : HX (g5 x B) (g7 x B) := (HX.new _ _).trans (HX.new _ _)
  have row9 := row9a.hx hx57 (by show 30 < 31; decide)
  have row11 : Row (g7 x B) 32 false true 38 7 (actX x) := Row.new (H := g6 x B) rfl (.lst (actX x)) 38 7 true false
  have hs : IsSl (g2 x B) (.sl 27 0 1 1 false) 1 := row6.isSl (by show 27 < 28; decide) (Nat.zero_le _)
  have hx2 : HX (h5 B) (g2 x B) := (HX.new _ _).trans (HX.new _ _)
  have hx7 : HX (g2 x B) (g7 x B) := (HX.new _ _).trans ((HX.new _ _).trans ((HX.new _ _).trans ((HX.new _ _).trans (HX.new _ _))))
  have hlt := longTable_ok (g2 x B) x.tn x.c0 x.c1 x.c2 x.c3 x.vR x.vV nR nV ss va na (hR.hx hx2) (hV.hx hx2) hl rfl
  have h13 := long13_ok (g7 x B) 30 1 true x.dn x.dt x.vA nA (row9.isSl (by show 30 < 33; decide) (Nat.zero_le _)) (by kernel_rfl) (by kernel_rfl) (by kernel_rfl) (hA.hx (hx2.trans hx7))
  have h15 := long15_ok (g7 x B) 32 1 true x.vB x.vK nB nK (row11.isSl (by show 32 < 33; decide) (Nat.zero_le _)) (by kernel_rfl) (by kernel_rfl) (hB.hx (hx2.trans hx7)) (hK.hx (hx2.trans hx7))
  have hlen := fun H' => len_el (H' := H') uN42 hs
  have hstr := fun s H' => len_str uN9 s H'
  have hix : ixS 58 (.sl 27 0 1 1 false) (.int .i64 0) = some (.ptr 27 0) := rfl
  have e3' : g3 x B = (g2 x B).new (tbB x.tn x.c0 x.c1 x.c2 x.c3 x.vR x.vV) := rfl
  rw [← e3'] at hlt
  have hTT : actT x = tbL x.tn x.c0 x.c1 x.c2 x.c3 x.vR x.vV := rfl
  rw [hTT] at q44
  clear e3' hTT hx2 hx7 hR hV hA hB hK row6 row9a hx57 row9 row11
  generalize g2 x B = G2 at *
  generalize g3 x B = G3 at *
  generalize g4 x B = G4 at *
  generalize g5 x B = G5 at *
  generalize g6 x B = G6 at *
  generalize g7 x B = G7 at *
  (repeat' (first | refine Z ?_ | refine Zq ?_ | refine rn_blk_x (by decide) ?_ | ((first | refine' Y ?_ ?_ | refine' X ?_ ?_ ?_); rotate_left; (· (first | (simp (disch := omega) only [evl, Nat.reduceEqDiff, Nat.reduceAdd, reduceIte, reduceCtorEq] <;> exact rfl) | exact rfl)); all_goals try (refine fun (hb : _ = _) => ?_; try simp only [Zu, ne_eq, reduceCtorEq] at hb)) | (apply rk_gd_u; · simp [evl])))
  refine rc_loop (R := fun ex T' H' => (ex = .exit 0 ∧ gT T' 0 = .sl 27 0 1 1 false ∧ gT T' 3 = .sl 30 0 1 1 true ∧ gT T' 4 = .sl 32 0 1 1 true ∧ H' = G7) ∨ (ex = .ret ∧ gT T' 2 = .bool true)) ?_ ?_
  · refine lp_ind f5l0_eq (fun j T H' => gT T 0 = .sl 27 0 1 1 false ∧ ((j = 1 ∧ gT T 5 = .int .i64 0 ∧ gT T 3 = .nilSl ∧ gT T 4 = .nilSl ∧ H' = G2) ∨ (j = 0 ∧ gT T 5 = .int .i64 1 ∧ gT T 3 = .sl 30 0 1 1 true ∧ gT T 4 = .sl 32 0 1 1 true ∧ H' = G7))) _ ?_ 1 _ _ ?_
    · rintro j T H2 ⟨e0, ⟨rfl, e5, e3, e4, rfl⟩ | ⟨rfl, e5, e3, e4, rfl⟩⟩
      · unfold f5l0
        by_cases hbig : 100 < x.nm.size
        · (repeat' (first | refine Z ?_ | refine Zq ?_ | refine rn_blk_x (by decide) ?_ | ((first | refine' Y ?_ ?_ | refine' X ?_ ?_ ?_); rotate_left; (· (first | (simp (disch := omega) only [evl, Nat.reduceEqDiff, Nat.reduceAdd, reduceIte, reduceCtorEq, e0, e3, e4, e5, hlen, hix, q2, hstr] <;> exact rfl) | exact rfl)); all_goals try (refine fun (hb : _ = _) => ?_; try simp only [Zu, ne_eq, reduceCtorEq] at hb)) | (apply rk_gd_u; · simp [evl])))
          refine rn_nil ?_
          refine lpq_r (.inr ⟨rfl, ?_⟩)
          (simp (disch := omega) only [evl, Nat.reduceEqDiff, Nat.reduceAdd, reduceIte, reduceCtorEq])
        · (repeat' (first | refine Z ?_ | refine Zq ?_ | refine rn_blk_x (by decide) ?_ | ((first | refine' Y ?_ ?_ | refine' X ?_ ?_ ?_); rotate_left; (· (first | (simp (disch := omega) only [evl, Nat.reduceEqDiff, Nat.reduceAdd, reduceIte, reduceCtorEq, e0, e3, e4, e5, hlen, hix, q2, q44, hstr] <;> exact rfl) | exact rfl)); all_goals try (refine fun (hb : _ = _) => ?_; try simp only [Zu, ne_eq, reduceCtorEq] at hb)) | (apply rk_gd_u; · simp [evl])))
          refine rk_cl (by (simp (disch := omega) only [evl, Nat.reduceEqDiff, Nat.reduceAdd, reduceIte, reduceCtorEq, e0, e5, q44]); exact hlt) ?_
          rintro r H3 ⟨⟨b, rfl⟩, rfl⟩
          simp only [hOut_f]
          cases b
          · (repeat' (first | refine Z ?_ | refine Zq ?_ | refine rn_blk_x (by decide) ?_ | ((first | refine' Y ?_ ?_ | refine' X ?_ ?_ ?_); rotate_left; (· (first | (simp (disch := omega) only [evl, Nat.reduceEqDiff, Nat.reduceAdd, reduceIte, reduceCtorEq, e0, e3, e4, e5, hlen, hix, q4] <;> exact rfl) | exact rfl)); all_goals try (refine fun (hb : _ = _) => ?_; try simp only [Zu, ne_eq, reduceCtorEq] at hb)) | (apply rk_gd_u; · simp [evl])))
            refine rk_hn (by (simp (disch := omega) only [evl, Nat.reduceEqDiff, Nat.reduceAdd, reduceIte, reduceCtorEq, q4]); exact p4) ?_
            simp only [hOut_f]
            (repeat' (first | refine Z ?_ | refine Zq ?_ | refine rn_blk_x (by decide) ?_ | ((first | refine' Y ?_ ?_ | refine' X ?_ ?_ ?_); rotate_left; (· (first | (simp (disch := omega) only [evl, Nat.reduceEqDiff, Nat.reduceAdd, reduceIte, reduceCtorEq, e0, e3, e4, e5] <;> exact rfl) | exact rfl)); all_goals try (refine fun (hb : _ = _) => ?_; try simp only [Zu, ne_eq, reduceCtorEq] at hb)) | (apply rk_gd_u; · simp [evl])))
            refine rk_hn (by (simp (disch := omega) only [evl, Nat.reduceEqDiff, Nat.reduceAdd, reduceIte, reduceCtorEq, e3]); exact p5) ?_
            simp only [hOut_f]
            (repeat' (first | refine Z ?_ | refine Zq ?_ | refine rn_blk_x (by decide) ?_ | ((first | refine' Y ?_ ?_ | refine' X ?_ ?_ ?_); rotate_left; (· (first | (simp (disch := omega) only [evl, Nat.reduceEqDiff, Nat.reduceAdd, reduceIte, reduceCtorEq, e0, e3, e4, e5, hix, q51] <;> exact rfl) | exact rfl)); all_goals try (refine fun (hb : _ = _) => ?_; try simp only [Zu, ne_eq, reduceCtorEq] at hb)) | (apply rk_gd_u; · simp [evl])))
            refine rk_hn (by (simp (disch := omega) only [evl, Nat.reduceEqDiff, Nat.reduceAdd, reduceIte, reduceCtorEq, q51]); exact p6) ?_
            simp only [hOut_f]
            (repeat' (first | refine Z ?_ | refine Zq ?_ | refine rn_blk_x (by decide) ?_ | ((first | refine' Y ?_ ?_ | refine' X ?_ ?_ ?_); rotate_left; (· (first | (simp (disch := omega) only [evl, Nat.reduceEqDiff, Nat.reduceAdd, reduceIte, reduceCtorEq, e0, e3, e4, e5] <;> exact rfl) | exact rfl)); all_goals try (refine fun (hb : _ = _) => ?_; try simp only [Zu, ne_eq, reduceCtorEq] at hb)) | (apply rk_gd_u; · simp [evl])))
            refine rk_hn (by (simp (disch := omega) only [evl, Nat.reduceEqDiff, Nat.reduceAdd, reduceIte, reduceCtorEq, e4]); exact p7) ?_
            simp only [hOut_f]
            (repeat' (first | refine Z ?_ | refine Zq ?_ | refine rn_blk_x (by decide) ?_ | ((first | refine' Y ?_ ?_ | refine' X ?_ ?_ ?_); rotate_left; (· (first | (simp (disch := omega) only [evl, Nat.reduceEqDiff, Nat.reduceAdd, reduceIte, reduceCtorEq, e0, e3, e4, e5] <;> exact rfl) | exact rfl)); all_goals try (refine fun (hb : _ = _) => ?_; try simp only [Zu, ne_eq, reduceCtorEq] at hb)) | (apply rk_gd_u; · simp [evl])))
            refine rn_nil ?_
            refine lpq_n 0 (by omega) ⟨?_, .inr ⟨rfl, ?_, ?_, ?_, rfl⟩⟩
            · (simp (disch := omega) only [evl, Nat.reduceEqDiff, Nat.reduceAdd, reduceIte, reduceCtorEq, e0])
            · (simp (disch := omega) only [evl, Nat.reduceEqDiff, Nat.reduceAdd, reduceIte, reduceCtorEq, e5]); rfl
            · (simp (disch := omega) only [evl, Nat.reduceEqDiff, Nat.reduceAdd, reduceIte, reduceCtorEq])
            · (simp (disch := omega) only [evl, Nat.reduceEqDiff, Nat.reduceAdd, reduceIte, reduceCtorEq])
          · (repeat' (first | refine Z ?_ | refine Zq ?_ | refine rn_blk_x (by decide) ?_ | ((first | refine' Y ?_ ?_ | refine' X ?_ ?_ ?_); rotate_left; (· (first | (simp (disch := omega) only [evl, Nat.reduceEqDiff, Nat.reduceAdd, reduceIte, reduceCtorEq, e0, e3, e4, e5] <;> exact rfl) | exact rfl)); all_goals try (refine fun (hb : _ = _) => ?_; try simp only [Zu, ne_eq, reduceCtorEq] at hb)) | (apply rk_gd_u; · simp [evl])))
            refine rn_nil ?_
            refine lpq_r (.inr ⟨rfl, ?_⟩)
            (simp (disch := omega) only [evl, Nat.reduceEqDiff, Nat.reduceAdd, reduceIte, reduceCtorEq])
      · unfold f5l0
        (repeat' (first | refine Z ?_ | refine Zq ?_ | refine rn_blk_x (by decide) ?_ | ((first | refine' Y ?_ ?_ | refine' X ?_ ?_ ?_); rotate_left; (· (first | (simp (disch := omega) only [evl, Nat.reduceEqDiff, Nat.reduceAdd, reduceIte, reduceCtorEq, e0, e5, hlen] <;> exact rfl) | exact rfl)); all_goals try (refine fun (hb : _ = _) => ?_; try simp only [Zu, ne_eq, reduceCtorEq] at hb)) | (apply rk_gd_u; · simp [evl])))
        refine rn_nil ?_
        refine lpq_e (.inl ⟨rfl, ?_, ?_, ?_, rfl⟩)
        · (simp (disch := omega) only [evl, Nat.reduceEqDiff, Nat.reduceAdd, reduceIte, reduceCtorEq, e0])
        · (simp (disch := omega) only [evl, Nat.reduceEqDiff, Nat.reduceAdd, reduceIte, reduceCtorEq, e3])
        · (simp (disch := omega) only [evl, Nat.reduceEqDiff, Nat.reduceAdd, reduceIte, reduceCtorEq, e4])
    · refine ⟨?_, .inl ⟨rfl, ?_, ?_, ?_, rfl⟩⟩
      · (simp (disch := omega) only [evl, Nat.reduceEqDiff, Nat.reduceAdd, reduceIte, reduceCtorEq])
      · (simp (disch := omega) only [evl, Nat.reduceEqDiff, Nat.reduceAdd, reduceIte, reduceCtorEq])
      · (simp (disch := omega) only [evl, Nat.reduceEqDiff, Nat.reduceAdd, reduceIte, reduceCtorEq])
      · (simp (disch := omega) only [evl, Nat.reduceEqDiff, Nat.reduceAdd, reduceIte, reduceCtorEq])
  · rintro ex T' H' (⟨rfl, e0, e3, e4, rfl⟩ | ⟨rfl, e2⟩)
    · (repeat' (first | refine Z ?_ | refine Zq ?_ | refine rn_blk_x (by decide) ?_ | ((first | refine' Y ?_ ?_ | refine' X ?_ ?_ ?_); rotate_left; (· (first | (simp (disch := omega) only [evl, Nat.reduceEqDiff, Nat.reduceAdd, reduceIte, reduceCtorEq, e0, e3, e4, hlen] <;> exact rfl) | exact rfl)); all_goals try (refine fun (hb : _ = _) => ?_; try simp only [Zu, ne_eq, reduceCtorEq] at hb)) | (apply rk_gd_u; · simp [evl])))
      refine rk_cl (by (simp (disch := omega) only [evl, Nat.reduceEqDiff, Nat.reduceAdd, reduceIte, reduceCtorEq, e3]); exact h13) ?_
      rintro r H3 ⟨⟨b, rfl⟩, rfl⟩
      simp only [hOut_f]
      cases b
      · (repeat' (first | refine Z ?_ | refine Zq ?_ | refine rn_blk_x (by decide) ?_ | ((first | refine' Y ?_ ?_ | refine' X ?_ ?_ ?_); rotate_left; (· (first | (simp (disch := omega) only [evl, Nat.reduceEqDiff, Nat.reduceAdd, reduceIte, reduceCtorEq, e0, e3, e4] <;> exact rfl) | exact rfl)); all_goals try (refine fun (hb : _ = _) => ?_; try simp only [Zu, ne_eq, reduceCtorEq] at hb)) | (apply rk_gd_u; · simp [evl])))
        refine rk_cl (by (simp (disch := omega) only [evl, Nat.reduceEqDiff, Nat.reduceAdd, reduceIte, reduceCtorEq, e4]); exact h15) ?_
        rintro r H3 ⟨⟨b, rfl⟩, rfl⟩
        simp only [hOut_f]
        (repeat' (first | refine Z ?_ | refine Zq ?_ | refine rn_blk_x (by decide) ?_ | ((first | refine' Y ?_ ?_ | refine' X ?_ ?_ ?_); rotate_left; (· (first | (simp (disch := omega) only [evl, Nat.reduceEqDiff, Nat.reduceAdd, reduceIte, reduceCtorEq] <;> exact rfl) | exact rfl)); all_goals try (refine fun (hb : _ = _) => ?_; try simp only [Zu, ne_eq, reduceCtorEq] at hb)) | (apply rk_gd_u; · simp [evl])))
        refine rn_nil ?_
        refine fq_ret (resV_1 _ _) ?_
        cases b
        · exact .inr ⟨by (simp (disch := omega) only [evl, Nat.reduceEqDiff, Nat.reduceAdd, reduceIte, reduceCtorEq]), rfl⟩
        · exact .inl (by (simp (disch := omega) only [evl, Nat.reduceEqDiff, Nat.reduceAdd, reduceIte, reduceCtorEq]))
      · (repeat' (first | refine Z ?_ | refine Zq ?_ | refine rn_blk_x (by decide) ?_ | ((first | refine' Y ?_ ?_ | refine' X ?_ ?_ ?_); rotate_left; (· (first | (simp (disch := omega) only [evl, Nat.reduceEqDiff, Nat.reduceAdd, reduceIte, reduceCtorEq, e0, e3, e4] <;> exact rfl) | exact rfl)); all_goals try (refine fun (hb : _ = _) => ?_; try simp only [Zu, ne_eq, reduceCtorEq] at hb)) | (apply rk_gd_u; · simp [evl])))
        refine rn_nil ?_
        refine fq_ret (resV_1 _ _) (.inl ?_)
        (simp (disch := omega) only [evl, Nat.reduceEqDiff, Nat.reduceAdd, reduceIte, reduceCtorEq])
    · (repeat' (first | refine Z ?_ | refine Zq ?_ | refine rn_blk_x (by decide) ?_ | ((first | refine' Y ?_ ?_ | refine' X ?_ ?_ ?_); rotate_left; (· (first | (simp (disch := omega) only [evl, Nat.reduceEqDiff, Nat.reduceAdd, reduceIte, reduceCtorEq, e2] <;> exact rfl) | exact rfl)); all_goals try (refine fun (hb : _ = _) => ?_; try simp only [Zu, ne_eq, reduceCtorEq] at hb)) | (apply rk_gd_u; · simp [evl])))
      refine rn_nil ?_
      refine fq_ret (resV_1 _ _) (.inl ?_)
      (simp (disch := omega) only [evl, Nat.reduceEqDiff, Nat.reduceAdd, reduceIte, reduceCtorEq, e2])
end HS

set_option linter.unusedSimpArgs false
set_option linter.unusedVariables false
open Go Go.Ev Go.Proofs Go.RowKit
namespace HS
set_option maxRecDepth 1000000
open Go.Ev
open Ra Rb Rc Rd Re Rf Rg Rh Ri Rj Rk Rl Rm Rn Ro Rp Rq Rr
noncomputable def getO : Option Out → Out | some o => o | none => ⟨.normal, .nil, H0⟩
theorem rc_runT {L : Lk} {c : C2} {T : Tr AV} {H : AH} {Q : PostC} (n : Nat) (h : ∀ k, evC' c L (evF L (k + n)) (kOf L (evF L (k + n)) []) T H = some (getO (evC' c L (evF L n) (kOf L (evF L n) []) T H)))
    (hq : Q (getO (evC' c L (evF L n) (kOf L (evF L n) []) T H)).ex (getO (evC' c L (evF L n) (kOf L (evF L n) []) T H)).T (getO (evC' c L (evF L n) (kOf L (evF L n) []) T H)).H) : RC L c [] T H Q :=
  ⟨_, hq, n, fun m hm => by obtain ⟨k, rfl⟩ : ∃ k, m = k + n := ⟨m - n, by omega⟩; exact h k⟩
theorem awakeN_ok (H : AH) : FnE lookN 6 [] H fun r H' => r = .bool true ∧ H' = { H with fz := true } := fnE_ext (show lookN.ext 6 = some xTrueZ from rfl) rfl
section
variable (x : ActA) (B : Nat → ABlk)
theorem k58 : ldN 58 (.ptr 26 0) (g1 x B) = some (.agg (actL x)) := by kernel_rfl
end
set_option maxHeartbeats 8000000 in
theorem poolNone_law (x : ActA) (B : Nat → ABlk) (nR nV nA nB nK : Nat) (ss : Nat → ByteArray) (va : Nat → AV) (na : Nat → Nat) (hR : RecR (h5 B) x.vR nR ss va na) (hV : IsSl (h5 B) x.vV nV) (hA : IsSl (h5 B) x.vA nA) (hB : IsSl (h5 B) x.vB nB) (hK : IsSl (h5 B) x.vK nK) (hl : nR ≤ 9223372036854775807) :
    FnE lookN 3 [.agg (actL x)] (h5 B) fun r H' => r = .bool true := by
  have hLong := long22_ok x B nR nV nA nB nK ss va na hR hV hA hB hK hl
  clear hR hV hA hB hK hl
  refine fn_intro f3_eq (noextN rfl) rfl ?_
  unfold f3c
  (repeat' (first | refine Z ?_ | refine Zq ?_ | refine rn_blk_x (by decide) ?_ | ((first | refine' Y ?_ ?_ | refine' X ?_ ?_ ?_); rotate_left; (· (first | (simp (disch := omega) only [evl, Nat.reduceEqDiff, Nat.reduceAdd, reduceIte, reduceCtorEq] <;> exact rfl) | exact rfl)); all_goals try (refine fun (hb : _ = _) => ?_; try simp only [Zu, ne_eq, reduceCtorEq] at hb)) | (apply rk_gd_u; · simp [evl])))
  refine rk_m1 (v := .ptr 26 0) (H' := g1 x B) (by (simp (disch := omega) only [evl, Nat.reduceEqDiff, Nat.reduceAdd, reduceIte, reduceCtorEq]); exact alF_eq _ _ _ _) ?_
  simp only [hOut_f]
  have q := k58 x B
  (repeat' (first | refine Z ?_ | refine Zq ?_ | refine rn_blk_x (by decide) ?_ | ((first | refine' Y ?_ ?_ | refine' X ?_ ?_ ?_); rotate_left; (· (first | (simp (disch := omega) only [evl, Nat.reduceEqDiff, Nat.reduceAdd, reduceIte, reduceCtorEq, q] <;> exact rfl) | exact rfl)); all_goals try (refine fun (hb : _ = _) => ?_; try simp only [Zu, ne_eq, reduceCtorEq] at hb)) | (apply rk_gd_u; · simp [evl])))
  refine rk_hn (v := .sl 27 0 1 1 false) (H' := g2 x B) (by (simp (disch := omega) only [evl, Nat.reduceEqDiff, Nat.reduceAdd, reduceIte, reduceCtorEq, q]); kernel_rfl) ?_
  simp only [hOut_f]
  (repeat' (first | refine Z ?_ | refine Zq ?_ | refine rn_blk_x (by decide) ?_ | ((first | refine' Y ?_ ?_ | refine' X ?_ ?_ ?_); rotate_left; (· (first | (simp (disch := omega) only [evl, Nat.reduceEqDiff, Nat.reduceAdd, reduceIte, reduceCtorEq] <;> exact rfl) | exact rfl)); all_goals try (refine fun (hb : _ = _) => ?_; try simp only [Zu, ne_eq, reduceCtorEq] at hb)) | (apply rk_gd_u; · simp [evl])))
  refine rk_cl (by (simp (disch := omega) only [evl, Nat.reduceEqDiff, Nat.reduceAdd, reduceIte, reduceCtorEq]); exact hLong) ?_
  rintro r H3 (rfl | ⟨rfl, rfl⟩)
  · simp only [hOut_f]
    (repeat' (first | refine Z ?_ | refine Zq ?_ | refine rn_blk_x (by decide) ?_ | ((first | refine' Y ?_ ?_ | refine' X ?_ ?_ ?_); rotate_left; (· (first | (simp (disch := omega) only [evl, Nat.reduceEqDiff, Nat.reduceAdd, reduceIte, reduceCtorEq] <;> exact rfl) | exact rfl)); all_goals try (refine fun (hb : _ = _) => ?_; try simp only [Zu, ne_eq, reduceCtorEq] at hb)) | (apply rk_gd_u; · simp [evl])))
    refine rk_cl (by (simp (disch := omega) only [evl, Nat.reduceEqDiff, Nat.reduceAdd, reduceIte, reduceCtorEq]); exact awakeN_ok _) ?_
    rintro r H1 ⟨rfl, rfl⟩
    simp only [hOut_f]
    (repeat' (first | refine Z ?_ | refine Zq ?_ | refine rn_blk_x (by decide) ?_ | ((first | refine' Y ?_ ?_ | refine' X ?_ ?_ ?_); rotate_left; (· (first | (simp (disch := omega) only [evl, Nat.reduceEqDiff, Nat.reduceAdd, reduceIte, reduceCtorEq] <;> exact rfl) | exact rfl)); all_goals try (refine fun (hb : _ = _) => ?_; try simp only [Zu, ne_eq, reduceCtorEq] at hb)) | (apply rk_gd_u; · simp [evl])))
    refine rn_nil ?_; refine fq_ret (resV_1 _ _) ?_
    (simp (disch := omega) only [evl, Nat.reduceEqDiff, Nat.reduceAdd, reduceIte, reduceCtorEq])
  · simp only [hOut_f]
    refine rk_done ?_
    refine rn_seq_n ?_
    refine rc_cond_f (by (simp (disch := omega) only [evl, Nat.reduceEqDiff, Nat.reduceAdd, reduceIte, reduceCtorEq])) ?_
    refine rc_skip ?_
    refine rn_seq_n ?_
    clear hLong q
    refine rc_runT 200 (fun k => by kernel_rfl) ?_
    exact ⟨.inr (by kernel_rfl), _, resV_1 _ _, by show _ = AV.bool true; kernel_rfl⟩
end HS

set_option linter.unusedSimpArgs false
set_option linter.unusedVariables false
open Go Go.Ev Go.Proofs Go.RowKit
namespace HS
set_option maxRecDepth 100000
open Go.Ev
open Ra Rb Rc Rd Re Rf Rg Rh Ri Rj Rk Rl Rm Rn Ro Rp Rq Rr
section
variable {P : Program} {w : World} {base t : Nat} {v : Value}
/-! ### What a cell is, from its type -/
theorem cell_int {k : IntKind} (hu : P.underlying t = some (.int k)) (h : Cell.okWide P w .any base t v) : ∃ n, v = .int k n := by
  unfold Cell.okWide at h
  rw [hu] at h
  have h : Cell.ok P w .any base t v := by cases v <;> exact h
  unfold Cell.ok at h
  rw [hu] at h
  cases v <;> first | exact h.elim | (obtain ⟨rfl, _⟩ := h; exact ⟨_, rfl⟩)
theorem cell_str (hu : P.underlying t = some .string) (h : Cell.okWide P w .any base t v) : ∃ s, v = .string s := by
  unfold Cell.okWide at h
  rw [hu] at h
  have h : Cell.ok P w .any base t v := by cases v <;> exact h
  unfold Cell.ok at h
  rw [hu] at h
  cases v <;> first | exact h.elim | exact ⟨_, rfl⟩
theorem cell_slice {e : Nat} (hu : P.underlying t = some (.slice e)) (h : Cell.okWide P w .any base t v) :
    v = .slice none 0 0 ∨ ∃ x len cap, v = .slice (some x) len cap ∧ len ≤ cap ∧ (cap : Int) ≤ IntKind.i64.max ∧ x.spot = none ∧ ∃ cs e fz, w.heap[x.block]? = some (.cells cs e fz) := by
  have h0 := h
  unfold Cell.okWide at h
  rw [hu] at h
  have h : Cell.ok P w .any base t v := by cases v <;> exact h
  unfold Cell.ok at h
  rw [hu] at h
  cases v with
  | slice a len cap =>
    cases a with
    | none =>
      left
      cases len with
      | zero => cases cap with | zero => rfl | succ c => exact h.elim
      | succ n => exact h.elim
    | some x =>
      right
      have hb := has_block (P := P) (w := w) (base := base) (t := t) (e := e) (x := x) (len := len) (cap := cap) hu (by unfold Value.okWide; rw [hu]; exact h0)
      exact ⟨x, len, cap, rfl, h.1, h.2.1, hb.1, hb.2⟩
  | _ => exact h.elim
end
/-- A slice that came in, of which no cell is asked. -/
theorem arg_any (k : Nat) {w : World} {a : Option Addr} {len cap e z : Nat} (hrow : (a = none ∧ len = 0 ∧ cap = 0) ∨ ∃ x, a = some x ∧ (x.spot = none ∧ ∃ cs e fz, w.heap[x.block]? = some (.cells cs e fz))) :
    ∃ (b : ABlk × EB) (v : AV), Arg w k (.slice a len cap) (fun H v => IsSl H v len) b v := by
  rcases hrow with ⟨rfl, rfl, rfl⟩ | ⟨x, rfl, hsp, hblk⟩
  · exact ⟨_, _, arg_nil w k fun H => .inl ⟨rfl, rfl⟩⟩
  · refine ⟨_, _, arg_row k (e := e) (z := z) (l := []) hsp hblk (fun E j v hj => by simp at hj) (fun H hk hr => ?_)⟩
    obtain ⟨c, hg, _⟩ := hr
    exact .inr ⟨k, 0, cap, false, rfl, hk, c, _, _, _, _, hg, Nat.zero_le _⟩
/-- A cell of a slice's type is an argument of which the length alone is asked. -/
theorem cell_arg {P : Program} {w : World} {base t e : Nat} {v : Value} (k : Nat) (hu : P.underlying t = some (.slice e)) (h : Cell.okWide P w .any base t v) :
    ∃ (a : Option Addr) (len cap : Nat) (b : ABlk × EB) (u : AV), v = .slice a len cap ∧ Arg w k (.slice a len cap) (fun H v => IsSl H v len) b u := by
  rcases cell_slice hu h with rfl | ⟨x, len, cap, rfl, _, _, hsp, hb⟩
  · obtain ⟨b, u, h2⟩ := arg_any k (w := w) (a := none) (len := 0) (cap := 0) (e := e) (z := 1) (.inl ⟨rfl, rfl, rfl⟩)
    exact ⟨_, _, _, b, u, rfl, h2⟩
  · obtain ⟨b, u, h2⟩ := arg_any k (w := w) (a := some x) (len := len) (cap := cap) (e := e) (z := 1) (.inr ⟨x, rfl, hsp, hb⟩)
    exact ⟨_, _, _, b, u, rfl, h2⟩
end HS

set_option linter.unusedSimpArgs false
set_option linter.unusedVariables false
open Go Go.Ev Go.Proofs Go.RowKit
namespace HS
set_option maxRecDepth 100000
open Go.Ev
open Ra Rb Rc Rd Re Rf Rg Rh Ri Rj Rk Rl Rm Rn Ro Rp Rq Rr
/-! ### Cells that came in, as they are -/
noncomputable def ofC (v : Value) : AV := match v with
  | .int k n => .int k n
  | .string s => .str s
  | .slice none _ _ => .nilSl
  | .slice (some a) l c => extSl a l c
  | _ => .nilPtr
def SlV (v : Value) : Prop := v = .slice none 0 0 ∨ ∃ a l c, v = .slice (some a) l c ∧ l ≤ c ∧ c ≤ maxLen
def PlainV (v : Value) : Prop := (∃ k n, v = .int k n) ∨ (∃ s, v = .string s) ∨ SlV v
theorem max_lt {n : Nat} (h : n ≤ maxLen) : n < 18446744073709551616 := by
  have : maxLen = 9223372036854775807 := by decide
  omega
theorem conc_ofC (E : Env) {v : Value} (h : PlainV v) : conc E (ofC v) = v := by
  rcases h with ⟨k, n, rfl⟩ | ⟨s, rfl⟩ | rfl | ⟨a, l, c, rfl, hl, hc⟩
  · rfl
  · rfl
  · rfl
  · exact conc_extSl E a (max_lt (Nat.le_trans hl hc)) (max_lt hc)
theorem lenA_ofC {v : Value} (h : SlV v) : ∃ n, LenA (ofC v) n := by
  rcases h with rfl | ⟨a, l, c, rfl, hl, hc⟩
  · refine ⟨0, ⟨fun {L t e} ht H' => ?_⟩⟩
    show fstO (match evLen L t .nilSl H' with | some v => some (v, H') | none => none) = _
    unfold evLen
    rw [ht]; rfl
  · refine ⟨l, ⟨fun {L t e} ht H' => ?_⟩⟩
    show fstO (match evLen L t (extSl a l c) H' with | some v => some (v, H') | none => none) = _
    obtain ⟨k, o, he, hk⟩ := extSl_len (a := a) (c := c) (max_lt (Nat.le_trans hl hc))
    have hb : Nat.ble 3 (k + 3) = true := by rw [Nat.ble_eq]; omega
    have hs : Nat.sub (k + 3) 3 = k := Nat.add_sub_cancel k 3
    rw [he]
    unfold evLen
    rw [ht]
    simp only [hb, hs, hk]
    rfl
section
variable {H : Type} {enc : TypeId × Value → H} {P : Program} {w : World} {base : Nat} {spare : Nat → Bool} {held : Bool} {n : Nat} {T : TypeId} {cs : List Value} {o : Nat} {y : DataW H × List MemPlace}
theorem head_at {c : Value} (h : (cs.drop o).take 1 = [c]) : cs[o]? = some c := by
  have : ((cs.drop o).take 1)[0]? = some c := by rw [h]; rfl
  rw [List.getElem?_take_of_lt (by omega), List.getElem?_drop] at this
  simpa using this
theorem int_at {k : IntKind} (hu : P.underlying T = some (.int k)) (h : DataW.trod enc P w base spare held n T ((cs.drop o).take 1) = some y) : ∃ m, cs[o]? = some (.int k m) := by
  obtain ⟨m, hm, _⟩ := DataW.trod_int hu h
  exact ⟨m, head_at hm⟩
theorem str_at (hu : P.underlying T = some .string) (h : DataW.trod enc P w base spare held n T ((cs.drop o).take 1) = some y) : ∃ s, cs[o]? = some (.string s) := by
  obtain ⟨m, hm, _⟩ := DataW.trod_string hu h
  exact ⟨m, head_at hm⟩
theorem sl_at {e : TypeId} (hu : P.underlying T = some (.slice e)) (h : DataW.trod enc P w base spare held n T ((cs.drop o).take 1) = some y) : ∃ c, cs[o]? = some c ∧ SlV c := by
  rcases Go.Deep.open_slice hu h with ⟨hcs, _⟩ | ⟨a, len, cap, m, n', D, Pl, hcs, _, hl, hm, _⟩
  · exact ⟨_, head_at hcs, .inl rfl⟩
  · exact ⟨_, head_at hcs, .inr ⟨a, len, cap, rfl, hl, hm⟩⟩
theorem fields_of {fs : Array Field} {fuel : Nat} {x : DataW H × List MemPlace} (hu : P.underlying T = some (.struct fs)) (h : DataW.trod enc P w base spare held fuel T cs = some x) :
    ∃ m, cs.length = P.cellsOf T ∧ ∀ (i : Nat) (f : Field), fs[i]? = some f → ∃ y, DataW.trod enc P w base spare held m f.type ((cs.drop f.offset).take (P.cellsOf f.type)) = some y := by
  obtain ⟨xs, m, _, _, hl, hlen, hg⟩ := DataW.trod_struct hu h
  refine ⟨m, hl, fun i f hf => ?_⟩
  have hi : i < xs.length := by
    rw [hlen]
    exact (Array.getElem?_eq_some_iff.1 hf).1
  rw [hg i f hf]
  exact ⟨xs[i], List.getElem?_eq_getElem hi⟩
theorem elems_of {len : Nat} {e : TypeId} {fuel : Nat} {x : DataW H × List MemPlace} (hu : P.underlying T = some (.array len e)) (h : DataW.trod enc P w base spare held fuel T cs = some x) :
    ∃ m, ∀ i, i < len → ∃ y, DataW.trod enc P w base spare held m e ((cs.drop (i * P.cellsOf e)).take (P.cellsOf e)) = some y := by
  obtain ⟨xs, m, _, _, hl, hlen, hg⟩ := DataW.trod_array hu h
  refine ⟨m, fun i hi => ?_⟩
  rw [hg i hi]
  exact ⟨xs[i], List.getElem?_eq_getElem (by omega)⟩
theorem take_at {a b j : Nat} (h : j < b) : ((cs.drop a).take b)[j]? = cs[a + j]? := by
  rw [List.getElem?_take_of_lt h, List.getElem?_drop]
end
/-- A record that came in. -/
structure RecC (cs : List Value) : Prop where
  all : ∀ j, j < 44 → ∃ c, cs[j]? = some c ∧ PlainV c
  nm : ∃ s, cs[1]? = some (.string s)
  ad : ∃ c, cs[4]? = some c ∧ SlV c
theorem cells3 : Tryz.prog.cellsOf 3 = 1 := by kernel_rfl
theorem cells5 : Tryz.prog.cellsOf 5 = 1 := by kernel_rfl
theorem cells9 : Tryz.prog.cellsOf 9 = 1 := by kernel_rfl
theorem cells22 : Tryz.prog.cellsOf 22 = 1 := by kernel_rfl
theorem cells24 : Tryz.prog.cellsOf 24 = 32 := by kernel_rfl
theorem cells26 : Tryz.prog.cellsOf 26 = 35 := by kernel_rfl
theorem cells29 : Tryz.prog.cellsOf 29 = 1 := by kernel_rfl
theorem cells34 : Tryz.prog.cellsOf 34 = 7 := by kernel_rfl
theorem cells81 : Tryz.prog.cellsOf 81 = 44 := by kernel_rfl
section
variable {H : Type} {enc : TypeId × Value → H} {w : World} {base : Nat} {spare : Nat → Bool} {held : Bool} {n : Nat} {cs : List Value} {x : DataW H × List MemPlace}
theorem rec_open (h : DataW.trod enc Tryz.prog w base spare held n 81 cs = some x) : RecC cs := by
  obtain ⟨m, hl, hf⟩ := fields_of Tryz.underlying81 h
  have i0 : ∃ v, cs[0]? = some (.int .i64 v) := by obtain ⟨y, hy⟩ := hf 0 _ rfl; exact int_at Tryz.underlying3 (by rw [← cells3]; exact hy)
  have i1 : ∃ v, cs[1]? = some (.string v) := by obtain ⟨y, hy⟩ := hf 1 _ rfl; exact str_at Tryz.underlying9 (by rw [← cells9]; exact hy)
  have i2 : ∃ v, cs[2]? = some (.int .i64 v) := by obtain ⟨y, hy⟩ := hf 2 _ rfl; exact int_at Tryz.underlying3 (by rw [← cells3]; exact hy)
  have i3 : ∃ v, cs[3]? = some (.int .i64 v) := by obtain ⟨y, hy⟩ := hf 3 _ rfl; exact int_at Tryz.underlying3 (by rw [← cells3]; exact hy)
  have i39 : ∃ v, cs[39]? = some (.int .i64 v) := by obtain ⟨y, hy⟩ := hf 5 _ rfl; exact int_at Tryz.underlying3 (by rw [← cells3]; exact hy)
  have i40 : ∃ v, cs[40]? = some (.int .i64 v) := by obtain ⟨y, hy⟩ := hf 6 _ rfl; exact int_at Tryz.underlying3 (by rw [← cells3]; exact hy)
  have i41 : ∃ v, cs[41]? = some (.int .i64 v) := by obtain ⟨y, hy⟩ := hf 7 _ rfl; exact int_at Tryz.underlying3 (by rw [← cells3]; exact hy)
  have i42 : ∃ v, cs[42]? = some (.int .i64 v) := by obtain ⟨y, hy⟩ := hf 8 _ rfl; exact int_at Tryz.underlying3 (by rw [← cells3]; exact hy)
  have i43 : ∃ v, cs[43]? = some (.int .i64 v) := by obtain ⟨y, hy⟩ := hf 9 _ rfl; exact int_at Tryz.underlying3 (by rw [← cells3]; exact hy)
  obtain ⟨y, hy⟩ := hf 4 _ rfl
  have hy : DataW.trod enc Tryz.prog w base spare held m 26 ((cs.drop 4).take 35) = some y := by rw [← cells26]; exact hy
  obtain ⟨m2, _, hf2⟩ := fields_of Tryz.underlying26 hy
  have i4 : ∃ c, cs[4]? = some c ∧ SlV c := by
    obtain ⟨y, hy⟩ := hf2 0 _ rfl
    obtain ⟨c, h1, h2⟩ := sl_at (o := 0) Tryz.underlying22 (by rw [← cells22]; exact hy)
    rw [take_at (by omega)] at h1
    exact ⟨c, h1, h2⟩
  have i5 : ∃ v, cs[5]? = some (.int .i64 v) := by
    obtain ⟨y, hy⟩ := hf2 1 _ rfl
    obtain ⟨c, h1⟩ := int_at (o := 1) Tryz.underlying3 (by rw [← cells3]; exact hy)
    rw [take_at (by omega)] at h1
    exact ⟨c, h1⟩
  have i6 : ∃ v, cs[6]? = some (.int .i64 v) := by
    obtain ⟨y, hy⟩ := hf2 2 _ rfl
    obtain ⟨c, h1⟩ := int_at (o := 2) Tryz.underlying3 (by rw [← cells3]; exact hy)
    rw [take_at (by omega)] at h1
    exact ⟨c, h1⟩
  obtain ⟨ys, hys⟩ := hf2 3 _ rfl
  have hys : DataW.trod enc Tryz.prog w base spare held m2 24 ((((cs.drop 4).take 35).drop 3).take 32) = some ys := by rw [← cells24]; exact hys
  obtain ⟨m3, hel⟩ := elems_of Tryz.underlying24 hys
  have isum : ∀ i, i < 32 → ∃ v, cs[7 + i]? = some (.int .u8 v) := fun i hi => by
    obtain ⟨y, hy⟩ := hel i hi
    rw [cells5, Nat.mul_one] at hy
    obtain ⟨c, h1⟩ := int_at (o := i) Tryz.underlying5 hy
    rw [take_at hi, take_at (by omega)] at h1
    exact ⟨c, by rw [← h1]; congr 1; omega⟩
  refine ⟨fun j hj => ?_, i1, i4⟩
  have hi : ∀ {k : IntKind}, (∃ v, cs[j]? = some (.int k v)) → ∃ c, cs[j]? = some c ∧ PlainV c := fun ⟨v, h⟩ => ⟨_, h, .inl ⟨_, _, rfl⟩⟩
  have hj' : j = 0 ∨ j = 1 ∨ j = 2 ∨ j = 3 ∨ j = 4 ∨ j = 5 ∨ j = 6 ∨ j = 39 ∨ j = 40 ∨ j = 41 ∨ j = 42 ∨ j = 43 ∨ ∃ i, j = 7 + i ∧ i < 32 := by
    by_cases h : 7 ≤ j ∧ j < 39
    · exact .inr (.inr (.inr (.inr (.inr (.inr (.inr (.inr (.inr (.inr (.inr (.inr ⟨j - 7, by omega, by omega⟩)))))))))))
    · omega
  rcases hj' with rfl | rfl | rfl | rfl | rfl | rfl | rfl | rfl | rfl | rfl | rfl | rfl | ⟨i, rfl, h32⟩
  · exact hi i0
  · obtain ⟨s, hs⟩ := i1; exact ⟨_, hs, .inr (.inl ⟨_, rfl⟩)⟩
  · exact hi i2
  · exact hi i3
  · obtain ⟨c, h1, h2⟩ := i4; exact ⟨_, h1, .inr (.inr h2)⟩
  · exact hi i5
  · exact hi i6
  · exact hi i39
  · exact hi i40
  · exact hi i41
  · exact hi i42
  · exact hi i43
  · exact hi (isum i h32)
/-- The records' cell of an act. -/
theorem act_recs (h : DataW.trod enc Tryz.prog w base (fun _ => true) held n 40 cs = some x) :
    cs[45]? = some (.slice none 0 0) ∨ ∃ a len cap, cs[45]? = some (.slice (some a) len cap) ∧ len ≤ cap ∧ cap ≤ maxLen ∧ ∀ i, i < len → ∃ cs', w.cells? base (a.add (i * 44)) 44 = some cs' ∧ RecC cs' := by
  obtain ⟨m, hl, hf⟩ := fields_of Tryz.underlying40 h
  obtain ⟨y, hy⟩ := hf 5 _ rfl
  have hy : DataW.trod enc Tryz.prog w base (fun _ => true) held m 34 ((cs.drop 44).take 7) = some y := by rw [← cells34]; exact hy
  obtain ⟨m2, _, hf2⟩ := fields_of Tryz.underlying34 hy
  obtain ⟨z, hz⟩ := hf2 1 _ rfl
  have hz : DataW.trod enc Tryz.prog w base (fun _ => true) held m2 29 ((((cs.drop 44).take 7).drop 1).take 1) = some z := by rw [← cells29]; exact hz
  rcases Go.Deep.open_slice Tryz.underlying29 hz with ⟨hcs, _⟩ | ⟨a, len, cap, m', n', D, Pl, hcs, _, hl, hm, hmm, _, hx⟩
  · have h1 := head_at hcs
    rw [take_at (by omega)] at h1
    exact .inl h1
  · have h1 := head_at hcs
    rw [take_at (by omega)] at h1
    refine .inr ⟨a, len, cap, h1, hl, hm, fun i hi => ?_⟩
    obtain ⟨cs', h2, h3⟩ := hx i (by rw [hmm]; simp; omega)
    rw [cells81] at h2
    exact ⟨cs', h2, rec_open h3⟩
end
theorem elA_sl (k n c q : Nat) : elA 44 (.sl k 0 n c false) q = .ptr k (q * 44) := by
  show AV.ptr k (0 + q * 44) = _
  rw [Nat.zero_add]
/-- The records, as an argument. -/
theorem arg_recs (k : Nat) {w : World} {a : Option Addr} {len cap : Nat} (h : (a = none ∧ len = 0 ∧ cap = 0) ∨ ∃ x, a = some x ∧ (x.spot = none ∧ ∃ cs e fz, w.heap[x.block]? = some (.cells cs e fz)) ∧ ∀ i, i < len → ∃ cs', w.cells? 0 (x.add (i * 44)) 44 = some cs' ∧ RecC cs') :
    ∃ (ss : Nat → ByteArray) (va : Nat → AV) (na : Nat → Nat) (b : ABlk × EB) (v : AV), Arg w k (.slice a len cap) (fun H v => RecR H v len ss va na) b v := by
  rcases h with ⟨rfl, rfl, rfl⟩ | ⟨x, rfl, ⟨hsp, hblk⟩, hrec⟩
  · exact ⟨fun _ => ByteArray.empty, fun _ => .nilSl, fun _ => 0, _, _, arg_nil w k fun H => ⟨.inl ⟨rfl, rfl⟩, fun k hk => by omega, fun k hk => by omega⟩⟩
  · have hc : ∀ q, q < min len 21 * 44 → ∃ c, w.cell? ⟨x.block, x.off + q, none⟩ = some c ∧ PlainV c ∧ (q % 44 = 1 → ∃ s, c = .string s) ∧ (q % 44 = 4 → SlV c) := fun q hq => by
      obtain ⟨cs', h1, h2⟩ := hrec (q / 44) (by omega)
      obtain ⟨_, h3, h4⟩ := World.cells?_some h1
      have hj : q % 44 < 44 := Nat.mod_lt _ (by decide)
      have h5 := h4 (q % 44) hj
      rw [add_none hsp, add_none rfl] at h5
      have he : x.off + q / 44 * 44 + q % 44 = x.off + q := by omega
      simp only [he] at h5
      obtain ⟨c, h6, h7⟩ := h2.all _ hj
      refine ⟨c, h5.trans h6, h7, fun h => ?_, fun h => ?_⟩
      · obtain ⟨s, hs⟩ := h2.nm
        rw [h, hs] at h6
        cases h6
        exact ⟨s, rfl⟩
      · obtain ⟨c', hs, hv⟩ := h2.ad
        rw [h, hs] at h6
        cases h6
        exact hv
    let G : Nat → Value := fun q => match w.cell? ⟨x.block, x.off + q, none⟩ with | some c => c | none => .slice none 0 0
    have hG : ∀ q, q < min len 21 * 44 → w.cell? ⟨x.block, x.off + q, none⟩ = some (G q) ∧ PlainV (G q) ∧ (q % 44 = 1 → ∃ s, G q = .string s) ∧ (q % 44 = 4 → SlV (G q)) := fun q hq => by
      obtain ⟨c, h1, h2⟩ := hc q hq
      have : G q = c := by show (match w.cell? ⟨x.block, x.off + q, none⟩ with | some c => c | none => .slice none 0 0) = c; rw [h1]
      rw [this]
      exact ⟨h1, h2⟩
    generalize G = G at hG
    let l : List AV := (List.range (min len 21 * 44)).map fun q => ofC (G q)
    have hl : ∀ q, q < min len 21 * 44 → l[q]? = some (ofC (G q)) := fun q hq => by
      show ((List.range (min len 21 * 44)).map fun q => ofC (G q))[q]? = _
      rw [List.getElem?_map, List.getElem?_range hq]; rfl
    have hsl : ∀ q, ∃ n, q < min len 21 → LenA (ofC (G (q * 44 + 4))) n := fun q => by
      by_cases hq : q < min len 21
      · obtain ⟨n, hn⟩ := lenA_ofC ((hG (q * 44 + 4) (by omega)).2.2.2 (by omega))
        exact ⟨n, fun _ => hn⟩
      · exact ⟨0, fun h => absurd h hq⟩
    obtain ⟨na, hna⟩ := Classical.axiomOfChoice hsl
    refine ⟨fun q => match G (q * 44 + 1) with | .string s => s | _ => ByteArray.empty, fun q => ofC (G (q * 44 + 4)), na, _, _, arg_row k (e := 81) (z := 44) (l := l) hsp hblk (fun E j v hj => ?_) (fun H hk hr => ⟨?_, fun q hq h21 => ?_, fun q hq h21 => hna q (by omega)⟩)⟩
    · by_cases hjl : j < min len 21 * 44
      · rw [hl j hjl] at hj
        cases hj
        rw [conc_ofC E (hG j hjl).2.1]
        exact (hG j hjl).1
      · have hn : l[j]? = none := List.getElem?_eq_none (by show ((List.range (min len 21 * 44)).map fun q => ofC (G q)).length ≤ j; rw [List.length_map, List.length_range]; omega)
        rw [hn] at hj; cases hj
    · obtain ⟨c, hg, _⟩ := hr
      exact .inr ⟨k, 0, cap, false, rfl, hk, c, _, _, _, _, hg, Nat.zero_le _⟩
    · obtain ⟨s, hs⟩ := (hG (q * 44 + 1) (by omega)).2.2.1 (by omega)
      have h1 := hl (q * 44 + 1) (by omega)
      have h4 := hl (q * 44 + 4) (by omega)
      rw [hs] at h1
      refine ⟨k, q * 44, hk, elA_sl k len cap q, ?_, hr.rd h4⟩
      have h := hr.rd h1
      simp only [hs]
      exact h
end HS
