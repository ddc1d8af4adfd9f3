import Derived.Test.YtmbnmfclpbdimaaGreatMkC
import Derived.Test.YtmbnmfclpbdimaaGreatEvG
import Derived.KernelRfl
set_option linter.unusedSimpArgs false
set_option linter.unusedVariables false
open Go Go.Ev Go.Proofs Go.RowKit
namespace M1
set_option maxRecDepth 100000
theorem noext2 {f : Nat} (h : (Nat.beq 11 f || (Nat.beq 107 f || Nat.beq 199 f)) = false) : look2.ext f = none := by
  show brec (brec (brec none (some xCompare) (Nat.beq 199 f)) (some xIndexByte) (Nat.beq 107 f)) (some xTrue) (Nat.beq 11 f) = none
  obtain ⟨h1, h2⟩ := Bool.or_eq_false_iff.1 h
  obtain ⟨h2, h3⟩ := Bool.or_eq_false_iff.1 h2
  rw [h1, h2, h3]; rfl
theorem awake_ok (H : AH) : FnE look2 11 [] H fun r H' => r = .bool true ∧ H' = H := fnE_ext (show look2.ext 11 = some xTrue from rfl) rfl
theorem u9 : look2.under 9 = some .string := by kernel_rfl
theorem u26 : look2.under 26 = some (.slice 9) := by kernel_rfl
theorem u27 : look2.under 27 = some (.slice 5) := by kernel_rfl
theorem u38 : look2.under 38 = some (.slice 29) := by kernel_rfl

/-! caulker/caulkerkit.LongOrder: parameters [29], temporaries 44 -/
noncomputable def f32body : Code := bodyN look2 32
/- orders.go:20 -/
noncomputable def f32r0 : K2 :=
  .m1 false (fun v H => alF v.toC 29 7 H) (tO 0) (some (sOf 1)) <|
  .mv (.con (.bool false)) (some (sOf 2)) <|
  .done
/- orders.go:21 -/
noncomputable def f32r1 : K2 :=
  .mv (.con (.int .i64 (0))) (some (sOf 3)) <|
  .done
noncomputable def f32r2_7 : K2 := .ln (fun xs _ => pickF xs) [(tO 9), (tO 11), (.con (.bool false))] (some (sOf 12)) <|
  .done
noncomputable def f32r2_6 : K2 := .gd (sOf 9) true (some (sOf 11)) (.p2 (binF .lss (evBin look2 .lss 3 (.tmp 10) (.const (.int .i64 (31))))) (tO 10) (.con (.int .i64 (31))) (some (sOf 11)) <|
  f32r2_7) f32r2_7
/- orders.go:21 -/
noncomputable def f32r2 : K2 :=
  .mv (tO 3) (some (sOf 4)) <|
  .p1 (fa 5) (tO 1) (some (sOf 5)) <|
  .r1 ld1 (tO 5) (some (sOf 6)) <|
  .ln (fun xs H => fstO (builtinF .len look2 [26] xs H)) [(tO 6)] (some (sOf 7)) <|
  .p2 (binF .lss (evBin look2 .lss 3 (.tmp 4) (.tmp 7))) (tO 4) (tO 7) (some (sOf 8)) <|
  .mv (tO 8) (some (sOf 9)) <|
  .gd (sOf 9) true (some (sOf 10)) (.mv (tO 3) (some (sOf 10)) <|
  f32r2_6) f32r2_6
/- orders.go:22 -/
noncomputable def f32r3 : K2 :=
  .p1 (fa 5) (tO 1) (some (sOf 15)) <|
  .r1 ld1 (tO 15) (some (sOf 16)) <|
  .mv (tO 3) (some (sOf 17)) <|
  .p2 (ixS 1) (tO 16) (tO 17) (some (sOf 18)) <|
  .r1 ld1 (tO 18) (some (sOf 19)) <|
  .ln (fun xs H => fstO (builtinF .len look2 [9] xs H)) [(tO 19)] (some (sOf 20)) <|
  .p2 (binF .gtr (evBin look2 .gtr 3 (.tmp 20) (.const (.int .i64 (100))))) (tO 20) (.con (.int .i64 (100))) (some (sOf 21)) <|
  .done
/- orders.go:23 -/
noncomputable def f32r4 : K2 :=
  .mv (.con (.bool true)) (some (sOf 2)) <|
  .done
/- orders.go:21 -/
noncomputable def f32r5 : K2 :=
  .mv (tO 3) (some (sOf 13)) <|
  .p2 (binF .add (evBin look2 .add 3 (.tmp 13) (.const (.int .i64 (1))))) (tO 13) (.con (.int .i64 (1))) (some (sOf 14)) <|
  .mv (tO 14) (some (sOf 3)) <|
  .done
noncomputable def f32l0 : C2 := (.seq (.seq (.reg f32r2)
  (.cond (tO 12) .skip (.exit 0)))
  (.seq (.block 1 (.seq (.reg f32r3)
  (.cond (tO 21) (.seq (.reg f32r4)
  .ret) .skip)))
  (.reg f32r5)))
noncomputable def f32b0 : Code := lpN f32body 0
theorem f32l0_eq : comp look2 f32b0 = f32l0 := by kernel_rfl
noncomputable def f32r6_20 : K2 := .ln (fun xs _ => pickF xs) [(tO 38), (.con (.bool true)), (tO 42)] (some (sOf 43)) <|
  .mv (tO 43) (some (sOf 2)) <|
  .done
noncomputable def f32r6_19 : K2 := .gd (sOf 38) false (some (sOf 42)) (.p2 (binF .gtr (evBin look2 .gtr 3 (.tmp 41) (.const (.int .i64 (17000))))) (tO 41) (.con (.int .i64 (17000))) (some (sOf 42)) <|
  f32r6_20) f32r6_20
noncomputable def f32r6_18 : K2 := .gd (sOf 38) false (some (sOf 41)) (.ln (fun xs H => fstO (builtinF .len look2 [27] xs H)) [(tO 40)] (some (sOf 41)) <|
  f32r6_19) f32r6_19
noncomputable def f32r6_17 : K2 := .gd (sOf 38) false (some (sOf 40)) (.r1 ld1 (tO 39) (some (sOf 40)) <|
  f32r6_18) f32r6_18
noncomputable def f32r6_14 : K2 := .ln (fun xs _ => pickF xs) [(tO 32), (.con (.bool true)), (tO 36)] (some (sOf 37)) <|
  .mv (tO 37) (some (sOf 38)) <|
  .gd (sOf 38) false (some (sOf 39)) (.p1 (fa 6) (tO 1) (some (sOf 39)) <|
  f32r6_17) f32r6_17
noncomputable def f32r6_13 : K2 := .gd (sOf 32) false (some (sOf 36)) (.p2 (binF .gtr (evBin look2 .gtr 3 (.tmp 35) (.const (.int .i64 (30))))) (tO 35) (.con (.int .i64 (30))) (some (sOf 36)) <|
  f32r6_14) f32r6_14
noncomputable def f32r6_12 : K2 := .gd (sOf 32) false (some (sOf 35)) (.ln (fun xs H => fstO (builtinF .len look2 [26] xs H)) [(tO 34)] (some (sOf 35)) <|
  f32r6_13) f32r6_13
noncomputable def f32r6_11 : K2 := .gd (sOf 32) false (some (sOf 34)) (.r1 ld1 (tO 33) (some (sOf 34)) <|
  f32r6_12) f32r6_12
noncomputable def f32r6_8 : K2 := .ln (fun xs _ => pickF xs) [(tO 26), (.con (.bool true)), (tO 30)] (some (sOf 31)) <|
  .mv (tO 31) (some (sOf 32)) <|
  .gd (sOf 32) false (some (sOf 33)) (.p1 (fa 5) (tO 1) (some (sOf 33)) <|
  f32r6_11) f32r6_11
noncomputable def f32r6_7 : K2 := .gd (sOf 26) false (some (sOf 30)) (.p2 (binF .gtr (evBin look2 .gtr 3 (.tmp 29) (.const (.int .i64 (100))))) (tO 29) (.con (.int .i64 (100))) (some (sOf 30)) <|
  f32r6_8) f32r6_8
noncomputable def f32r6_6 : K2 := .gd (sOf 26) false (some (sOf 29)) (.ln (fun xs H => fstO (builtinF .len look2 [9] xs H)) [(tO 28)] (some (sOf 29)) <|
  f32r6_7) f32r6_7
noncomputable def f32r6_5 : K2 := .gd (sOf 26) false (some (sOf 28)) (.r1 ld1 (tO 27) (some (sOf 28)) <|
  f32r6_6) f32r6_6
/- orders.go:26 -/
noncomputable def f32r6 : K2 :=
  .p1 (fa 1) (tO 1) (some (sOf 22)) <|
  .r1 ld1 (tO 22) (some (sOf 23)) <|
  .ln (fun xs H => fstO (builtinF .len look2 [9] xs H)) [(tO 23)] (some (sOf 24)) <|
  .p2 (binF .gtr (evBin look2 .gtr 3 (.tmp 24) (.const (.int .i64 (100))))) (tO 24) (.con (.int .i64 (100))) (some (sOf 25)) <|
  .mv (tO 25) (some (sOf 26)) <|
  .gd (sOf 26) false (some (sOf 27)) (.p1 (fa 2) (tO 1) (some (sOf 27)) <|
  f32r6_5) f32r6_5
noncomputable def f32c : C2 := (.seq (.reg f32r0)
  (.seq (.seq (.reg f32r1)
  (.block 0 (.loop f32b0)))
  (.seq (.reg f32r6)
  .ret)))
theorem f32_eq : fnF look2 32 = some ⟨44, f32c, [.tmp 2]⟩ := by kernel_rfl

/-! caulker/caulkerlaw30.long: parameters [38], temporaries 27 -/
noncomputable def f14body : Code := bodyN look2 14
/- law.go:12 -/
noncomputable def f14r0 : K2 :=
  .mv (.con (.bool false)) (some (sOf 2)) <|
  .done
/- law.go:13 -/
noncomputable def f14r1 : K2 :=
  .mv (.con (.int .i64 (0))) (some (sOf 3)) <|
  .done
/- law.go:13 -/
noncomputable def f14r2 : K2 :=
  .mv (tO 3) (some (sOf 4)) <|
  .mv (tO 0) (some (sOf 5)) <|
  .ln (fun xs H => fstO (builtinF .len look2 [38] xs H)) [(tO 5)] (some (sOf 6)) <|
  .p2 (binF .lss (evBin look2 .lss 3 (.tmp 4) (.tmp 6))) (tO 4) (tO 6) (some (sOf 7)) <|
  .done
noncomputable def f14r3_12 : K2 := .ln (fun xs _ => pickF xs) [(tO 15), (.con (.bool true)), (tO 22)] (some (sOf 23)) <|
  .done
noncomputable def f14r3_11 : K2 := .gd (sOf 15) false (some (sOf 22)) (.p2 (binF .gtr (evBin look2 .gtr 3 (.tmp 21) (.const (.int .i64 (2000))))) (tO 21) (.con (.int .i64 (2000))) (some (sOf 22)) <|
  f14r3_12) f14r3_12
noncomputable def f14r3_10 : K2 := .gd (sOf 15) false (some (sOf 21)) (.ln (fun xs H => fstO (builtinF .len look2 [27] xs H)) [(tO 20)] (some (sOf 21)) <|
  f14r3_11) f14r3_11
noncomputable def f14r3_9 : K2 := .gd (sOf 15) false (some (sOf 20)) (.r1 ld1 (tO 19) (some (sOf 20)) <|
  f14r3_10) f14r3_10
noncomputable def f14r3_8 : K2 := .gd (sOf 15) false (some (sOf 19)) (.p1 (fa 6) (tO 18) (some (sOf 19)) <|
  f14r3_9) f14r3_9
noncomputable def f14r3_7 : K2 := .gd (sOf 15) false (some (sOf 18)) (.p2 (ixS 7) (tO 16) (tO 17) (some (sOf 18)) <|
  f14r3_8) f14r3_8
noncomputable def f14r3_6 : K2 := .gd (sOf 15) false (some (sOf 17)) (.mv (tO 3) (some (sOf 17)) <|
  f14r3_7) f14r3_7
/- law.go:14 -/
noncomputable def f14r3 : K2 :=
  .mv (tO 0) (some (sOf 10)) <|
  .mv (tO 3) (some (sOf 11)) <|
  .p2 (ixS 7) (tO 10) (tO 11) (some (sOf 12)) <|
  .r1 (ldN 7) (tO 12) (some (sOf 13)) <|
  .cl false 32 [(tO 13)] (some (sOf 14)) <|
  .mv (tO 14) (some (sOf 15)) <|
  .gd (sOf 15) false (some (sOf 16)) (.mv (tO 0) (some (sOf 16)) <|
  f14r3_6) f14r3_6
/- law.go:15 -/
noncomputable def f14r4 : K2 :=
  .mv (.con (.bool true)) (some (sOf 2)) <|
  .done
/- law.go:13 -/
noncomputable def f14r5 : K2 :=
  .mv (tO 3) (some (sOf 8)) <|
  .p2 (binF .add (evBin look2 .add 3 (.tmp 8) (.const (.int .i64 (1))))) (tO 8) (.con (.int .i64 (1))) (some (sOf 9)) <|
  .mv (tO 9) (some (sOf 3)) <|
  .done
noncomputable def f14l0 : C2 := (.seq (.seq (.reg f14r2)
  (.cond (tO 7) .skip (.exit 0)))
  (.seq (.block 1 (.seq (.reg f14r3)
  (.cond (tO 23) (.seq (.reg f14r4)
  .ret) .skip)))
  (.reg f14r5)))
noncomputable def f14b0 : Code := lpN f14body 0
theorem f14l0_eq : comp look2 f14b0 = f14l0 := by kernel_rfl
/- law.go:18 -/
noncomputable def f14r6 : K2 :=
  .mv (tO 0) (some (sOf 24)) <|
  .ln (fun xs H => fstO (builtinF .len look2 [38] xs H)) [(tO 24)] (some (sOf 25)) <|
  .p2 (binF .gtr (evBin look2 .gtr 3 (.tmp 25) (.const (.int .i64 (30))))) (tO 25) (.con (.int .i64 (30))) (some (sOf 26)) <|
  .mv (tO 26) (some (sOf 2)) <|
  .done
noncomputable def f14c : C2 := (.seq (.reg f14r0)
  (.seq (.seq (.reg f14r1)
  (.block 0 (.loop f14b0)))
  (.seq (.reg f14r6)
  .ret)))
theorem f14_eq : fnF look2 14 = some ⟨27, f14c, [.tmp 2]⟩ := by kernel_rfl

/-! caulker/caulkerlaw30.ModelNone: parameters [29], temporaries 84 -/
noncomputable def f6body : Code := bodyN look2 6
/- law.go:107 -/
noncomputable def f6r0 : K2 :=
  .m1 false (fun v H => alF v.toC 29 7 H) (tO 0) (some (sOf 1)) <|
  .mv (.con (.bool false)) (some (sOf 2)) <|
  .done
/- law.go:108 -/
noncomputable def f6r1 : K2 :=
  .r1 (ldN 7) (tO 1) (some (sOf 10)) <|
  .hn false (fun xs H => bsF 7 1 (.agg [(.int .i64 (0)), (.str ⟨#[]⟩), (.str ⟨#[]⟩), (.int .i64 (0)), (.int .i64 (0)), .nilSl, .nilSl]) 29 (zipF [0] xs) H) [(tO 10)] (some (sOf 11)) <|
  .cl false 14 [(tO 11)] (some (sOf 12)) <|
  .done
/- law.go:109 -/
noncomputable def f6r2 : K2 :=
  .cl false 11 [] (some (sOf 13)) <|
  .mv (tO 13) (some (sOf 2)) <|
  .done
/- law.go:111 -/
noncomputable def f6r3 : K2 :=
  .ln (fun xs _ => evBuild look2 65 (zipF [] xs)) [] (some (sOf 14)) <|
  .m1 false (fun v H => alF v.toC 65 8 H) (tO 14) (some (sOf 15)) <|
  .hn false (fun xs H => bsF 1 2 .nilPtr 22 (zipF [0, 1] xs) H) [(.con .nilPtr), (tO 15)] (some (sOf 16)) <|
  .mv (tO 16) (some (sOf 3)) <|
  .done
/- law.go:112 -/
noncomputable def f6r4 : K2 :=
  .mv (.con (.int .i64 (0))) (some (sOf 4)) <|
  .done
noncomputable def f6b0 : Code := lpN f6body 0
/- law.go:123 -/
noncomputable def f6r14 : K2 :=
  .cl false 11 [] (some (sOf 83)) <|
  .mv (tO 83) (some (sOf 2)) <|
  .done
noncomputable def f6c : C2 := (.seq (.reg f6r0)
  (.seq (.seq (.reg f6r1)
  (.cond (tO 12) (.seq (.reg f6r2)
  .ret) .skip))
  (.seq (.reg f6r3)
  (.seq (.seq (.reg f6r4)
  (.block 0 (.loop f6b0)))
  (.seq (.reg f6r14)
  .ret)))))
theorem f6_eq : fnF look2 6 = some ⟨84, f6c, [.tmp 2]⟩ := by kernel_rfl

end M1

set_option linter.unusedSimpArgs false
set_option linter.unusedVariables false
open Go Go.Ev Go.Proofs Go.RowKit
namespace M1
set_option maxRecDepth 100000
open Go.Ev
open Ra Rb Rc Rd Re Rf Rg Rh Ri Rj Rk Rl Rm Rn Ro Rp Rq Rr

theorem len_str {L : Lk} {t : Nat} (ht : L.under t = some .string) (s : ByteArray) (H : AH) : fstO (builtinF .len L [t] [.str s] H) = some (.int .i64 s.size) := by
  show fstO (match evLen L t (.str s) H with | some v => some (v, H) | none => none) = _
  unfold evLen
  rw [ht]
  rfl

noncomputable abbrev ordL (op n m : Int) (name to : ByteArray) (vL vB : AV) : List AV := [.int .i64 op, .str name, .str to, .int .i64 n, .int .i64 m, vL, vB]
noncomputable abbrev ordB (op n m : Int) (name to : ByteArray) (vL vB : AV) : ABlk := .cells (.lst (ordL op n m name to vL vB)) 29 7 false false

set_option maxHeartbeats 4000000 in
theorem longOrder_ok (H : AH) (op n m : Int) (name to : ByteArray) (vL vB : AV) (nL nB : Nat) (ss : Nat → ByteArray) (hL : SlR H vL nL (fun k => .str (ss k))) (hB : IsSl H vB nB) (hl : nL ≤ 9223372036854775807) (hh : H.hide = []) :
    FnE look2 32 [.agg (ordL op n m name to vL vB)] H fun r H' => (∃ b, r = .bool b) ∧ H' = H.new (ordB op n m name to vL vB) := by
  refine fn_intro f32_eq (noext2 rfl) rfl ?_
  unfold f32c
  (repeat' (first | refine Z ?_ | refine Zq ?_ | refine rn_blk_x (by decide) ?_ | ((first | refine' Y ?_ ?_ | refine' X ?_ ?_ ?_); rotate_left; (· (first | (simp (disch := omega) only [evl, Nat.reduceEqDiff, Nat.reduceAdd, reduceIte, reduceCtorEq] <;> exact rfl) | exact rfl)); all_goals try (refine fun (hb : _ = _) => ?_; try simp only [Zu, ne_eq, reduceCtorEq] at hb)) | (apply rk_gd_u; · simp [evl])))
  refine rk_m1 (v := .ptr H.next 0) (H' := H.new (ordB op n m name to vL vB)) (by (simp (disch := omega) only [evl, Nat.reduceEqDiff, Nat.reduceAdd, reduceIte, reduceCtorEq]); exact alF_eq _ _ _ _) ?_
  simp only [hOut_f]
  have hx := HX.new H (ordB op n m name to vL vB)
  have hr : Row (H.new (ordB op n m name to vL vB)) H.next false false 29 7 (ordL op n m name to vL vB) := Row.new hh _ _ _ _ _
  generalize hH1 : H.new (ordB op n m name to vL vB) = H1 at hx hr ⊢
  have hL1 := hL.hx hx
  have hB1 := hB.hx hx
  have r1 := hr.rd (k := 1) rfl
  have r2 := hr.rd (k := 2) rfl
  have r5 := hr.rd (k := 5) rfl
  have r6 := hr.rd (k := 6) rfl
  have hlenL := fun H' => len_el (H' := H') u26 hL1.is
  have hlenB := fun H' => len_el (H' := H') u27 hB1
  have hstr := fun s H' => len_str u9 s H'
  (repeat' (first | refine Z ?_ | refine Zq ?_ | refine rn_blk_x (by decide) ?_ | ((first | refine' Y ?_ ?_ | refine' X ?_ ?_ ?_); rotate_left; (· (first | (simp (disch := omega) only [evl, Nat.reduceEqDiff, Nat.reduceAdd, reduceIte, reduceCtorEq] <;> exact rfl) | exact rfl)); all_goals try (refine fun (hb : _ = _) => ?_; try simp only [Zu, ne_eq, reduceCtorEq] at hb)) | (apply rk_gd_u; · simp [evl])))
  refine rc_loop (R := fun ex T' H' => (ex = .exit 0 ∧ gT T' 1 = .ptr H.next 0 ∧ H' = H1) ∨ (ex = .ret ∧ gT T' 2 = .bool true ∧ H' = H1)) ?_ ?_
  · refine lp_ind f32l0_eq (fun k T H' => ∃ q : Nat, k = nL - q ∧ q ≤ nL ∧ gT T 1 = .ptr H.next 0 ∧ gT T 3 = .int .i64 q ∧ H' = H1) _ ?_ nL _ _ ?_
    · rintro k T H2 ⟨q, hk, hq, h1, h3, rfl⟩
      unfold f32l0
      by_cases hlt : q < nL
      · have hix := @ix_el _ _ _ hL1.is
        have hel := hL1.el q hlt
        by_cases h31 : q < 31
        · (repeat' (first | refine Z ?_ | refine Zq ?_ | refine rn_blk_x (by decide) ?_ | ((first | refine' Y ?_ ?_ | refine' X ?_ ?_ ?_); rotate_left; (· (first | (simp (disch := omega) only [evl, Nat.reduceEqDiff, Nat.reduceAdd, reduceIte, reduceCtorEq, h1, h3, r5, hlenL] <;> exact rfl) | exact rfl)); all_goals try (refine fun (hb : _ = _) => ?_; try simp only [Zu, ne_eq, reduceCtorEq] at hb)) | (apply rk_gd_u; · simp [evl])))
          by_cases hbig : 100 < (ss q).size
          · (repeat' (first | refine Z ?_ | refine Zq ?_ | refine rn_blk_x (by decide) ?_ | ((first | refine' Y ?_ ?_ | refine' X ?_ ?_ ?_); rotate_left; (· (first | (simp (disch := omega) only [evl, Nat.reduceEqDiff, Nat.reduceAdd, reduceIte, reduceCtorEq, h1, h3, r5, hlenL, hix, hel, hstr] <;> exact rfl) | exact rfl)); all_goals try (refine fun (hb : _ = _) => ?_; try simp only [Zu, ne_eq, reduceCtorEq] at hb)) | (apply rk_gd_u; · simp [evl])))
            refine rn_nil ?_
            refine lpq_r (.inr ⟨rfl, ?_, rfl⟩)
            (simp (disch := omega) only [evl, Nat.reduceEqDiff, Nat.reduceAdd, reduceIte, reduceCtorEq])
          · (repeat' (first | refine Z ?_ | refine Zq ?_ | refine rn_blk_x (by decide) ?_ | ((first | refine' Y ?_ ?_ | refine' X ?_ ?_ ?_); rotate_left; (· (first | (simp (disch := omega) only [evl, Nat.reduceEqDiff, Nat.reduceAdd, reduceIte, reduceCtorEq, h1, h3, r5, hlenL, hix, hel, hstr] <;> exact rfl) | exact rfl)); all_goals try (refine fun (hb : _ = _) => ?_; try simp only [Zu, ne_eq, reduceCtorEq] at hb)) | (apply rk_gd_u; · simp [evl])))
            refine rn_nil ?_
            refine lpq_n (nL - (q + 1)) (by omega) ⟨q + 1, rfl, by omega, ?_, ?_, rfl⟩
            · (simp (disch := omega) only [evl, Nat.reduceEqDiff, Nat.reduceAdd, reduceIte, reduceCtorEq, h1])
            · (simp (disch := omega) only [evl, Nat.reduceEqDiff, Nat.reduceAdd, reduceIte, reduceCtorEq, h3]); push_cast; rfl
        · (repeat' (first | refine Z ?_ | refine Zq ?_ | refine rn_blk_x (by decide) ?_ | ((first | refine' Y ?_ ?_ | refine' X ?_ ?_ ?_); rotate_left; (· (first | (simp (disch := omega) only [evl, Nat.reduceEqDiff, Nat.reduceAdd, reduceIte, reduceCtorEq, h1, h3, r5, hlenL] <;> exact rfl) | exact rfl)); all_goals try (refine fun (hb : _ = _) => ?_; try simp only [Zu, ne_eq, reduceCtorEq] at hb)) | (apply rk_gd_u; · simp [evl])))
          refine rn_nil ?_
          refine lpq_e (.inl ⟨rfl, ?_, rfl⟩)
          (simp (disch := omega) only [evl, Nat.reduceEqDiff, Nat.reduceAdd, reduceIte, reduceCtorEq, h1])
      · (repeat' (first | refine Z ?_ | refine Zq ?_ | refine rn_blk_x (by decide) ?_ | ((first | refine' Y ?_ ?_ | refine' X ?_ ?_ ?_); rotate_left; (· (first | (simp (disch := omega) only [evl, Nat.reduceEqDiff, Nat.reduceAdd, reduceIte, reduceCtorEq, h1, h3, r5, hlenL] <;> exact rfl) | exact rfl)); all_goals try (refine fun (hb : _ = _) => ?_; try simp only [Zu, ne_eq, reduceCtorEq] at hb)) | (apply rk_gd_u; · simp [evl])))
        refine rn_nil ?_
        refine lpq_e (.inl ⟨rfl, ?_, rfl⟩)
        (simp (disch := omega) only [evl, Nat.reduceEqDiff, Nat.reduceAdd, reduceIte, reduceCtorEq, h1])
    · refine ⟨0, by omega, Nat.zero_le _, ?_, ?_, rfl⟩
      · (simp (disch := omega) only [evl, Nat.reduceEqDiff, Nat.reduceAdd, reduceIte, reduceCtorEq])
      · (simp (disch := omega) only [evl, Nat.reduceEqDiff, Nat.reduceAdd, reduceIte, reduceCtorEq]); rfl
  · rintro ex T' H' (⟨rfl, h1, rfl⟩ | ⟨rfl, h2, rfl⟩)
    · (repeat' (first | refine Z ?_ | refine Zq ?_ | refine rn_blk_x (by decide) ?_ | ((first | refine' Y ?_ ?_ | refine' X ?_ ?_ ?_); rotate_left; (· (first | (simp (disch := omega) only [evl, Nat.reduceEqDiff, Nat.reduceAdd, reduceIte, reduceCtorEq, h1, r1, r2, r5, r6, hlenL, hlenB, hstr] <;> exact rfl) | exact rfl)); all_goals try (refine fun (hb : _ = _) => ?_; try simp only [Zu, ne_eq, reduceCtorEq] at hb)) | (apply rk_gd_u; · simp [evl])))
      all_goals
        refine rn_nil ?_
        refine fq_ret (resV_1 _ _) ⟨?_, rfl⟩
        (simp (disch := omega) only [evl, Nat.reduceEqDiff, Nat.reduceAdd, reduceIte, reduceCtorEq])
        exact ⟨_, rfl⟩
    · (repeat' (first | refine Z ?_ | refine Zq ?_ | refine rn_blk_x (by decide) ?_ | ((first | refine' Y ?_ ?_ | refine' X ?_ ?_ ?_); rotate_left; (· (first | (simp (disch := omega) only [evl, Nat.reduceEqDiff, Nat.reduceAdd, reduceIte, reduceCtorEq, h2] <;> exact rfl) | exact rfl)); all_goals try (refine fun (hb : _ = _) => ?_; try simp only [Zu, ne_eq, reduceCtorEq] at hb)) | (apply rk_gd_u; · simp [evl])))
      refine rn_nil ?_
      refine fq_ret (resV_1 _ _) ⟨⟨true, ?_⟩, rfl⟩
      (simp (disch := omega) only [evl, Nat.reduceEqDiff, Nat.reduceAdd, reduceIte, reduceCtorEq, h2])

set_option maxHeartbeats 4000000 in
theorem long_ok (H : AH) (i : Nat) (op n m : Int) (name to : ByteArray) (vL vB : AV) (nL nB : Nat) (ss : Nat → ByteArray) (hL : SlR H vL nL (fun k => .str (ss k))) (hB : IsSl H vB nB) (hl : nL ≤ 9223372036854775807) (hh : H.hide = [])
    (hi : i < H.next) (hr : Row H i false false 29 7 (ordL op n m name to vL vB)) (hld : ldN 7 (.ptr i 0) H = some (.agg (ordL op n m name to vL vB))) :
    FnE look2 14 [.sl i 0 1 1 false] H fun r H' => (∃ b, r = .bool b) ∧ H' = H.new (ordB op n m name to vL vB) := by
  refine fn_intro f14_eq (noext2 rfl) rfl ?_
  unfold f14c
  have hs : IsSl H (.sl i 0 1 1 false) 1 := hr.isSl hi (Nat.zero_le _)
  have hx := HX.new H (ordB op n m name to vL vB)
  have hr1 := hr.hx hx hi
  have r6 := hr1.rd (k := 6) rfl
  have hlenB := fun H' => len_el (H' := H') u27 hB
  have hlen := fun H' => len_el (H' := H') u38 hs
  have hix : ixS 7 (.sl i 0 1 1 false) (.int .i64 0) = some (.ptr i 0) := rfl
  have lo := longOrder_ok H op n m name to vL vB nL nB ss hL hB hl hh
  generalize hH1 : H.new (ordB op n m name to vL vB) = H1 at hx hr1 r6 lo ⊢
  (repeat' (first | refine Z ?_ | refine Zq ?_ | refine rn_blk_x (by decide) ?_ | ((first | refine' Y ?_ ?_ | refine' X ?_ ?_ ?_); rotate_left; (· (first | (simp (disch := omega) only [evl, Nat.reduceEqDiff, Nat.reduceAdd, reduceIte, reduceCtorEq] <;> exact rfl) | exact rfl)); all_goals try (refine fun (hb : _ = _) => ?_; try simp only [Zu, ne_eq, reduceCtorEq] at hb)) | (apply rk_gd_u; · simp [evl])))
  refine rc_loop (R := fun ex T' H' => (ex = .exit 0 ∧ gT T' 0 = .sl i 0 1 1 false ∧ H' = H1) ∨ (ex = .ret ∧ gT T' 2 = .bool true ∧ H' = H1)) ?_ ?_
  · refine lp_ind f14l0_eq (fun k T H' => gT T 0 = .sl i 0 1 1 false ∧ ((k = 1 ∧ gT T 3 = .int .i64 0 ∧ H' = H) ∨ (k = 0 ∧ gT T 3 = .int .i64 1 ∧ H' = H1))) _ ?_ 1 _ _ ?_
    · rintro k T H2 ⟨h0, ⟨rfl, h3, rfl⟩ | ⟨rfl, h3, rfl⟩⟩
      · unfold f14l0
        (repeat' (first | refine Z ?_ | refine Zq ?_ | refine rn_blk_x (by decide) ?_ | ((first | refine' Y ?_ ?_ | refine' X ?_ ?_ ?_); rotate_left; (· (first | (simp (disch := omega) only [evl, Nat.reduceEqDiff, Nat.reduceAdd, reduceIte, reduceCtorEq, h0, h3, hlen, hix, hld] <;> exact rfl) | exact rfl)); all_goals try (refine fun (hb : _ = _) => ?_; try simp only [Zu, ne_eq, reduceCtorEq] at hb)) | (apply rk_gd_u; · simp [evl])))
        refine rk_cl (by (simp (disch := omega) only [evl, Nat.reduceEqDiff, Nat.reduceAdd, reduceIte, reduceCtorEq, h0, h3, hld]); exact lo) ?_
        rintro r H3 ⟨⟨b, rfl⟩, rfl⟩
        simp only [hOut_f]
        cases b
        · by_cases hbig : 2000 < nB
          · (repeat' (first | refine Z ?_ | refine Zq ?_ | refine rn_blk_x (by decide) ?_ | ((first | refine' Y ?_ ?_ | refine' X ?_ ?_ ?_); rotate_left; (· (first | (simp (disch := omega) only [evl, Nat.reduceEqDiff, Nat.reduceAdd, reduceIte, reduceCtorEq, h0, h3, hlen, hix, hld, r6, hlenB] <;> exact rfl) | exact rfl)); all_goals try (refine fun (hb : _ = _) => ?_; try simp only [Zu, ne_eq, reduceCtorEq] at hb)) | (apply rk_gd_u; · simp [evl])))
            refine rn_nil ?_
            refine lpq_r (.inr ⟨rfl, ?_, rfl⟩)
            (simp (disch := omega) only [evl, Nat.reduceEqDiff, Nat.reduceAdd, reduceIte, reduceCtorEq])
          · (repeat' (first | refine Z ?_ | refine Zq ?_ | refine rn_blk_x (by decide) ?_ | ((first | refine' Y ?_ ?_ | refine' X ?_ ?_ ?_); rotate_left; (· (first | (simp (disch := omega) only [evl, Nat.reduceEqDiff, Nat.reduceAdd, reduceIte, reduceCtorEq, h0, h3, hlen, hix, hld, r6, hlenB] <;> exact rfl) | exact rfl)); all_goals try (refine fun (hb : _ = _) => ?_; try simp only [Zu, ne_eq, reduceCtorEq] at hb)) | (apply rk_gd_u; · simp [evl])))
            refine rn_nil ?_
            refine lpq_n 0 (by omega) ⟨?_, .inr ⟨rfl, ?_, rfl⟩⟩
            · (simp (disch := omega) only [evl, Nat.reduceEqDiff, Nat.reduceAdd, reduceIte, reduceCtorEq, h0])
            · (simp (disch := omega) only [evl, Nat.reduceEqDiff, Nat.reduceAdd, reduceIte, reduceCtorEq, h3]); rfl
        · (repeat' (first | refine Z ?_ | refine Zq ?_ | refine rn_blk_x (by decide) ?_ | ((first | refine' Y ?_ ?_ | refine' X ?_ ?_ ?_); rotate_left; (· (first | (simp (disch := omega) only [evl, Nat.reduceEqDiff, Nat.reduceAdd, reduceIte, reduceCtorEq, h0, h3, hlen, hix, hld, r6, hlenB] <;> exact rfl) | exact rfl)); all_goals try (refine fun (hb : _ = _) => ?_; try simp only [Zu, ne_eq, reduceCtorEq] at hb)) | (apply rk_gd_u; · simp [evl])))
          refine rn_nil ?_
          refine lpq_r (.inr ⟨rfl, ?_, rfl⟩)
          (simp (disch := omega) only [evl, Nat.reduceEqDiff, Nat.reduceAdd, reduceIte, reduceCtorEq])
      · unfold f14l0
        (repeat' (first | refine Z ?_ | refine Zq ?_ | refine rn_blk_x (by decide) ?_ | ((first | refine' Y ?_ ?_ | refine' X ?_ ?_ ?_); rotate_left; (· (first | (simp (disch := omega) only [evl, Nat.reduceEqDiff, Nat.reduceAdd, reduceIte, reduceCtorEq, h0, h3, hlen] <;> exact rfl) | exact rfl)); all_goals try (refine fun (hb : _ = _) => ?_; try simp only [Zu, ne_eq, reduceCtorEq] at hb)) | (apply rk_gd_u; · simp [evl])))
        refine rn_nil ?_
        refine lpq_e (.inl ⟨rfl, ?_, rfl⟩)
        (simp (disch := omega) only [evl, Nat.reduceEqDiff, Nat.reduceAdd, reduceIte, reduceCtorEq, h0])
    · refine ⟨?_, .inl ⟨rfl, ?_, rfl⟩⟩
      · (simp (disch := omega) only [evl, Nat.reduceEqDiff, Nat.reduceAdd, reduceIte, reduceCtorEq])
      · (simp (disch := omega) only [evl, Nat.reduceEqDiff, Nat.reduceAdd, reduceIte, reduceCtorEq])
  · rintro ex T' H' (⟨rfl, h1, rfl⟩ | ⟨rfl, h2, rfl⟩)
    · (repeat' (first | refine Z ?_ | refine Zq ?_ | refine rn_blk_x (by decide) ?_ | ((first | refine' Y ?_ ?_ | refine' X ?_ ?_ ?_); rotate_left; (· (first | (simp (disch := omega) only [evl, Nat.reduceEqDiff, Nat.reduceAdd, reduceIte, reduceCtorEq, h1, hlen] <;> exact rfl) | exact rfl)); all_goals try (refine fun (hb : _ = _) => ?_; try simp only [Zu, ne_eq, reduceCtorEq] at hb)) | (apply rk_gd_u; · simp [evl])))
      refine rn_nil ?_
      refine fq_ret (resV_1 _ _) ⟨⟨false, ?_⟩, rfl⟩
      (simp (disch := omega) only [evl, Nat.reduceEqDiff, Nat.reduceAdd, reduceIte, reduceCtorEq])
    · (repeat' (first | refine Z ?_ | refine Zq ?_ | refine rn_blk_x (by decide) ?_ | ((first | refine' Y ?_ ?_ | refine' X ?_ ?_ ?_); rotate_left; (· (first | (simp (disch := omega) only [evl, Nat.reduceEqDiff, Nat.reduceAdd, reduceIte, reduceCtorEq, h2] <;> exact rfl) | exact rfl)); all_goals try (refine fun (hb : _ = _) => ?_; try simp only [Zu, ne_eq, reduceCtorEq] at hb)) | (apply rk_gd_u; · simp [evl])))
      refine rn_nil ?_
      refine fq_ret (resV_1 _ _) ⟨⟨true, ?_⟩, rfl⟩
      (simp (disch := omega) only [evl, Nat.reduceEqDiff, Nat.reduceAdd, reduceIte, reduceCtorEq, h2])
end M1

set_option linter.unusedSimpArgs false
set_option linter.unusedVariables false
open Go Go.Ev Go.Proofs Go.RowKit
namespace M1
set_option maxRecDepth 100000
open Go.Ev
open Ra Rb Rc Rd Re Rf Rg Rh Ri Rj Rk Rl Rm Rn Ro Rp Rq Rr

noncomputable def getO : Option Out → Out | some o => o | none => ⟨.normal, .nil, H0⟩
theorem rc_runT {L : Lk} {c : C2} {T : Tr AV} {H : AH} {Q : PostC} (n : Nat) (h : ∀ k, evC' c L (evF L (k + n)) (kOf L (evF L (k + n)) []) T H = some (getO (evC' c L (evF L n) (kOf L (evF L n) []) T H)))
    (hq : Q (getO (evC' c L (evF L n) (kOf L (evF L n) []) T H)).ex (getO (evC' c L (evF L n) (kOf L (evF L n) []) T H)).T (getO (evC' c L (evF L n) (kOf L (evF L n) []) T H)).H) : RC L c [] T H Q :=
  ⟨_, hq, n, fun m hm => by obtain ⟨k, rfl⟩ : ∃ k, m = k + n := ⟨m - n, by omega⟩; exact h k⟩

set_option maxHeartbeats 4000000 in
theorem none_law (op n m : Int) (name to : ByteArray) (vL vB : AV) (nL nB : Nat) (ss : Nat → ByteArray) (b0 b1 : ABlk) (hL : SlR (hA [b0, b1]) vL nL (fun k => .str (ss k))) (hB : IsSl (hA [b0, b1]) vB nB) (hl : nL ≤ 9223372036854775807) :
    FnE look2 6 [.agg (ordL op n m name to vL vB)] (hA [b0, b1]) fun r H' => r = .bool true ∧ H'.fz = false := by
  refine fn_intro f6_eq (noext2 rfl) rfl ?_
  unfold f6c
  (repeat' (first | refine Z ?_ | refine Zq ?_ | refine rn_blk_x (by decide) ?_ | ((first | refine' Y ?_ ?_ | refine' X ?_ ?_ ?_); rotate_left; (· (first | (simp (disch := omega) only [evl, Nat.reduceEqDiff, Nat.reduceAdd, reduceIte, reduceCtorEq] <;> exact rfl) | exact rfl)); all_goals try (refine fun (hb : _ = _) => ?_; try simp only [Zu, ne_eq, reduceCtorEq] at hb)) | (apply rk_gd_u; · simp [evl])))
  refine rk_m1 (v := .ptr 2 0) (H' := (hA [b0, b1]).new (ordB op n m name to vL vB)) (by (simp (disch := omega) only [evl, Nat.reduceEqDiff, Nat.reduceAdd, reduceIte, reduceCtorEq]); exact alF_eq _ _ _ _) ?_
  simp only [hOut_f]
  have hx1 := HX.new (hA [b0, b1]) (ordB op n m name to vL vB)
  have hld : ldN 7 (.ptr 2 0) ((hA [b0, b1]).new (ordB op n m name to vL vB)) = some (.agg (ordL op n m name to vL vB)) := by kernel_rfl
  (repeat' (first | refine Z ?_ | refine Zq ?_ | refine rn_blk_x (by decide) ?_ | ((first | refine' Y ?_ ?_ | refine' X ?_ ?_ ?_); rotate_left; (· (first | (simp (disch := omega) only [evl, Nat.reduceEqDiff, Nat.reduceAdd, reduceIte, reduceCtorEq, hld] <;> exact rfl) | exact rfl)); all_goals try (refine fun (hb : _ = _) => ?_; try simp only [Zu, ne_eq, reduceCtorEq] at hb)) | (apply rk_gd_u; · simp [evl])))
  refine rk_hn (v := .sl 3 0 1 1 false) (H' := ((hA [b0, b1]).new (ordB op n m name to vL vB)).new (ordB op n m name to vL vB)) (by (simp (disch := omega) only [evl, Nat.reduceEqDiff, Nat.reduceAdd, reduceIte, reduceCtorEq, hld]); kernel_rfl) ?_
  simp only [hOut_f]
  have hx2 := hx1.trans (HX.new _ (ordB op n m name to vL vB))
  have hld3 : ldN 7 (.ptr 3 0) (((hA [b0, b1]).new (ordB op n m name to vL vB)).new (ordB op n m name to vL vB)) = some (.agg (ordL op n m name to vL vB)) := by kernel_rfl
  have hr3 : Row (((hA [b0, b1]).new (ordB op n m name to vL vB)).new (ordB op n m name to vL vB)) 3 false false 29 7 (ordL op n m name to vL vB) := Row.new (H := (hA [b0, b1]).new (ordB op n m name to vL vB)) rfl _ _ _ _ _
  (repeat' (first | refine Z ?_ | refine Zq ?_ | refine rn_blk_x (by decide) ?_ | ((first | refine' Y ?_ ?_ | refine' X ?_ ?_ ?_); rotate_left; (· (first | (simp (disch := omega) only [evl, Nat.reduceEqDiff, Nat.reduceAdd, reduceIte, reduceCtorEq] <;> exact rfl) | exact rfl)); all_goals try (refine fun (hb : _ = _) => ?_; try simp only [Zu, ne_eq, reduceCtorEq] at hb)) | (apply rk_gd_u; · simp [evl])))
  refine rk_cl (by (simp (disch := omega) only [evl, Nat.reduceEqDiff, Nat.reduceAdd, reduceIte, reduceCtorEq]); exact long_ok _ 3 op n m name to vL vB nL nB ss (hL.hx hx2) (hB.hx hx2) hl rfl (show 3 < 4 by decide) hr3 hld3) ?_
  rintro r H3 ⟨⟨b, rfl⟩, rfl⟩
  simp only [hOut_f]
  cases b
  · refine rk_done ?_
    refine rn_seq_n ?_
    refine rc_cond_f (by (simp (disch := omega) only [evl, Nat.reduceEqDiff, Nat.reduceAdd, reduceIte, reduceCtorEq])) ?_
    refine rc_skip ?_
    refine rn_seq_n ?_
    clear hx1 hx2 hld hld3 hr3
    have hv : True := trivial
    refine rc_runT 64 (fun k => by kernel_rfl) ?_
    exact ⟨.inr (by kernel_rfl), _, resV_1 _ _, by kernel_rfl, by kernel_rfl⟩
  · (repeat' (first | refine Z ?_ | refine Zq ?_ | refine rn_blk_x (by decide) ?_ | ((first | refine' Y ?_ ?_ | refine' X ?_ ?_ ?_); rotate_left; (· (first | (simp (disch := omega) only [evl, Nat.reduceEqDiff, Nat.reduceAdd, reduceIte, reduceCtorEq] <;> exact rfl) | exact rfl)); all_goals try (refine fun (hb : _ = _) => ?_; try simp only [Zu, ne_eq, reduceCtorEq] at hb)) | (apply rk_gd_u; · simp [evl])))
    refine rk_cl (by (simp (disch := omega) only [evl, Nat.reduceEqDiff, Nat.reduceAdd, reduceIte, reduceCtorEq]); exact awake_ok _) ?_
    rintro r H1 ⟨rfl, rfl⟩
    simp only [hOut_f]
    (repeat' (first | refine Z ?_ | refine Zq ?_ | refine rn_blk_x (by decide) ?_ | ((first | refine' Y ?_ ?_ | refine' X ?_ ?_ ?_); rotate_left; (· (first | (simp (disch := omega) only [evl, Nat.reduceEqDiff, Nat.reduceAdd, reduceIte, reduceCtorEq] <;> exact rfl) | exact rfl)); all_goals try (refine fun (hb : _ = _) => ?_; try simp only [Zu, ne_eq, reduceCtorEq] at hb)) | (apply rk_gd_u; · simp [evl])))
    refine rn_nil ?_; refine fq_ret (resV_1 _ _) ⟨?_, rfl⟩
    (simp (disch := omega) only [evl, Nat.reduceEqDiff, Nat.reduceAdd, reduceIte, reduceCtorEq])
end M1
