import Derived.Test.YtnkomaedmblemaaEvG
import Derived.Test.YtnkomaedmblemaaEvE
import Derived.Test.YtnkomaedmblemaaRows
import Derived.KernelRfl
namespace Go.Proofs.Ytnkomaedmblemaa
open Go.Ev
set_option maxRecDepth 100000
noncomputable def look0 : Go.Ev.Lk := Go.Ev.lkOf Try.prog (Go.Ev.Tr.ofList Try.prog.funcs.toList) (Go.Ev.Tr.ofList Try.prog.types.toList)
theorem look0_ok : Go.Ev.LOk look0 Try.prog := Go.Ev.lkOf_ok (by kernel_rfl) (by kernel_rfl)
theorem says10 : Go.Ev.saysTrue (Go.Ev.evF look0 1000000 (.call 10 [] H0)) = true := by kernel_rfl
theorem says8x : Go.Ev.saysTrue (Go.Ev.evF look0 1000000 (.call 8 [] H0)) = true := by kernel_rfl
noncomputable def look : Go.Ev.Lk := Go.Ev.lkX Try.prog (Go.Ev.Tr.ofList Try.prog.funcs.toList) (Go.Ev.Tr.ofList Try.prog.types.toList) [(10, xTrue), (8, xTrue)]
theorem look_ok : Go.Ev.LOk look Try.prog := Go.Ev.lkX_ok (by kernel_rfl) (by kernel_rfl)
theorem look_ext (B : Nat) : Go.Ev.ExtOk look Try.prog B := extOk_of fun p hp => by
  rcases List.mem_cons.1 hp with rfl | hp
  · exact xTrue_ok look0_ok (Go.Ev.noExt _ _) (by rw [← evF_eq]; exact says10)
  · rw [List.mem_singleton] at hp
    subst hp
    exact xTrue_ok look0_ok (Go.Ev.noExt _ _) (by rw [← evF_eq]; exact says8x)
theorem noext {f : Nat} (h : (Nat.beq 10 f || Nat.beq 8 f) = false) : look.ext f = none := by
  show brec (brec none (some xTrue) (Nat.beq 8 f)) (some xTrue) (Nat.beq 10 f) = none
  obtain ⟨h1, h2⟩ := Bool.or_eq_false_iff.1 h
  rw [h1, h2]; rfl
theorem awake_ok (H : AH) : FnE look 10 [] H fun r H' => r = .bool true ∧ H' = H := fnE_ext (show look.ext 10 = some xTrue from rfl) rfl
theorem u22 : look.under 22 = some (.slice 43) := by kernel_rfl
theorem u32 : look.under 32 = some (.slice 3) := by kernel_rfl
theorem z3 : look.size 3 = some 1 := by kernel_rfl
theorem z4 : look.size 4 = some 1 := by kernel_rfl
theorem z22 : look.size 22 = some 1 := by kernel_rfl
theorem z52 : look.size 52 = some 4096 := by kernel_rfl
theorem a52 : look.isAgg 52 = some true := by kernel_rfl
noncomputable def allF : List AV → Nat → Bool
  | [], 0 => true
  | .bool false :: l, n + 1 => allF l n
  | _, _ => false
theorem allF_eq : ∀ (l : List AV) (n : Nat), allF l n = true → l = List.replicate n (.bool false)
  | [], 0, _ => rfl
  | .bool false :: l, n + 1, h => by rw [List.replicate_succ, ← allF_eq l n h]
theorem zC52a : allF (zC look 52).l 4096 = true := by kernel_rfl
theorem zC52 : (zC look 52).l = List.replicate 4096 (.bool false) := allF_eq _ _ zC52a
theorem build43 (a b : Int) : evBuild look 43 (zipF [0, 1] [.int .i64 a, .int .i64 b]) = some (exV (a, b)) := by kernel_rfl
theorem neq43a (xo yo : Operand) (a b c d : Int) : binF .neq (evBin look .neq 43 xo yo) (exV (a, b)) (exV (c, d)) =
    (match (match (some (a == c) : Option Bool) with | some true => (match (some (b == d) : Option Bool) with | some true => some true | r => r) | r => r) with | some x => some (.bool (!x)) | none => none) := by kernel_rfl
theorem neq43 (xo yo : Operand) (p q : Int × Int) : binF .neq (evBin look .neq 43 xo yo) (exV p) (exV q) = some (.bool (decide (p ≠ q))) := by
  obtain ⟨a, b⟩ := p
  obtain ⟨c, d⟩ := q
  rw [neq43a]
  by_cases h1 : a = c
  · subst h1
    by_cases h2 : b = d
    · subst h2; simp
    · simp [h2]
  · simp [h1]
/- extents.go:18 -/
noncomputable def f11r0 : K2 :=
  .mv (.con .nilSl) (some (sOf 2)) <|
  .done
/- extents.go:18 -/
noncomputable def f11r1 : K2 :=
  .hn false (fun xs H => bsF 2 0 (.agg [(.int .i64 (0)), (.int .i64 (0))]) 43 (zipF [] xs) H) [] (some (sOf 3)) <|
  .mv (tO 0) (some (sOf 4)) <|
  .hn false (appX 43 2 16) [(tO 3), (tO 4)] (some (sOf 5)) <|
  .mv (tO 5) (some (sOf 2)) <|
  .done
noncomputable def f11c : C2 := (.seq (.reg f11r0)
  (.seq (.reg f11r1)
  .ret))
theorem f11_eq : fnF look 11 = some ⟨6, f11c, [.tmp 2]⟩ := by kernel_rfl

/-! caulker/caulkerkit.SameExtents: parameters [22, 22], temporaries 26 -/
noncomputable def f14body : Code := bodyN look 14
/- extents.go:6 -/
noncomputable def f14r0 : K2 :=
  .mv (.con (.bool false)) (some (sOf 4)) <|
  .done
/- extents.go:7 -/
noncomputable def f14r1 : K2 :=
  .mv (tO 0) (some (sOf 6)) <|
  .ln (fun xs H => fstO (builtinF .len look [22] xs H)) [(tO 6)] (some (sOf 7)) <|
  .mv (tO 1) (some (sOf 8)) <|
  .ln (fun xs H => fstO (builtinF .len look [22] xs H)) [(tO 8)] (some (sOf 9)) <|
  .p2 (binF .neq (evBin look .neq 3 (.tmp 7) (.tmp 9))) (tO 7) (tO 9) (some (sOf 10)) <|
  .done
/- extents.go:8 -/
noncomputable def f14r2 : K2 :=
  .mv (.con (.bool false)) (some (sOf 4)) <|
  .done
/- extents.go:10 -/
noncomputable def f14r3 : K2 :=
  .mv (.con (.int .i64 (0))) (some (sOf 5)) <|
  .done
/- extents.go:10 -/
noncomputable def f14r4 : K2 :=
  .mv (tO 5) (some (sOf 11)) <|
  .mv (tO 0) (some (sOf 12)) <|
  .ln (fun xs H => fstO (builtinF .len look [22] xs H)) [(tO 12)] (some (sOf 13)) <|
  .p2 (binF .lss (evBin look .lss 3 (.tmp 11) (.tmp 13))) (tO 11) (tO 13) (some (sOf 14)) <|
  .done
/- extents.go:11 -/
noncomputable def f14r5 : K2 :=
  .mv (tO 0) (some (sOf 17)) <|
  .mv (tO 5) (some (sOf 18)) <|
  .p2 (ixS 2) (tO 17) (tO 18) (some (sOf 19)) <|
  .r1 (ldN 2) (tO 19) (some (sOf 20)) <|
  .mv (tO 1) (some (sOf 21)) <|
  .mv (tO 5) (some (sOf 22)) <|
  .p2 (ixS 2) (tO 21) (tO 22) (some (sOf 23)) <|
  .r1 (ldN 2) (tO 23) (some (sOf 24)) <|
  .p2 (binF .neq (evBin look .neq 43 (.tmp 20) (.tmp 24))) (tO 20) (tO 24) (some (sOf 25)) <|
  .done
/- extents.go:12 -/
noncomputable def f14r6 : K2 :=
  .mv (.con (.bool false)) (some (sOf 4)) <|
  .done
/- extents.go:10 -/
noncomputable def f14r7 : K2 :=
  .mv (tO 5) (some (sOf 15)) <|
  .p2 (binF .add (evBin look .add 3 (.tmp 15) (.const (.int .i64 (1))))) (tO 15) (.con (.int .i64 (1))) (some (sOf 16)) <|
  .mv (tO 16) (some (sOf 5)) <|
  .done
noncomputable def f14l0 : C2 := (.seq (.seq (.reg f14r4)
  (.cond (tO 14) .skip (.exit 0)))
  (.seq (.block 1 (.seq (.reg f14r5)
  (.cond (tO 25) (.seq (.reg f14r6)
  .ret) .skip)))
  (.reg f14r7)))
noncomputable def f14b0 : Code := lpN f14body 0
theorem f14l0_eq : comp look f14b0 = f14l0 := by kernel_rfl
/- extents.go:15 -/
noncomputable def f14r8 : K2 :=
  .mv (.con (.bool true)) (some (sOf 4)) <|
  .done
noncomputable def f14c : C2 := (.seq (.reg f14r0)
  (.seq (.seq (.reg f14r1)
  (.cond (tO 10) (.seq (.reg f14r2)
  .ret) .skip))
  (.seq (.seq (.reg f14r3)
  (.block 0 (.loop f14b0)))
  (.seq (.reg f14r8)
  .ret))))
theorem f14_eq : fnF look 14 = some ⟨26, f14c, [.tmp 4]⟩ := by kernel_rfl

/-! caulker/caulkerkit.OverExtents: parameters [22], temporaries 13 -/
noncomputable def f15body : Code := bodyN look 15
/- extents.go:21 -/
noncomputable def f15r0 : K2 :=
  .mv (.con (.int .i64 (0))) (some (sOf 2)) <|
  .done
/- extents.go:21 -/
noncomputable def f15r1 : K2 :=
  .mv (tO 2) (some (sOf 3)) <|
  .mv (tO 0) (some (sOf 4)) <|
  .ln (fun xs H => fstO (builtinF .len look [22] xs H)) [(tO 4)] (some (sOf 5)) <|
  .p2 (binF .lss (evBin look .lss 3 (.tmp 3) (.tmp 5))) (tO 3) (tO 5) (some (sOf 6)) <|
  .done
/- extents.go:22 -/
noncomputable def f15r2 : K2 :=
  .mv (tO 0) (some (sOf 9)) <|
  .mv (tO 2) (some (sOf 10)) <|
  .ln (fun xs _ => evBuild look 43 (zipF [0, 1] xs)) [(.con (.int .i64 (-7))), (.con (.int .i64 (-7)))] (some (sOf 11)) <|
  .p2 (ixS 2) (tO 9) (tO 10) (some (sOf 12)) <|
  .st false (stN 2) (tO 12) (tO 11) none <|
  .done
/- extents.go:21 -/
noncomputable def f15r3 : K2 :=
  .mv (tO 2) (some (sOf 7)) <|
  .p2 (binF .add (evBin look .add 3 (.tmp 7) (.const (.int .i64 (1))))) (tO 7) (.con (.int .i64 (1))) (some (sOf 8)) <|
  .mv (tO 8) (some (sOf 2)) <|
  .done
noncomputable def f15l0 : C2 := (.seq (.seq (.reg f15r1)
  (.cond (tO 6) .skip (.exit 0)))
  (.seq (.block 1 (.reg f15r2))
  (.reg f15r3)))
noncomputable def f15b0 : Code := lpN f15body 0
theorem f15l0_eq : comp look f15b0 = f15l0 := by kernel_rfl
noncomputable def f15c : C2 := (.seq (.reg f15r0)
  (.block 0 (.loop f15b0)))
theorem f15_eq : fnF look 15 = some ⟨13, f15c, []⟩ := by kernel_rfl

/-! caulker/extent.Check: parameters [22], temporaries 41 -/
noncomputable def f22body : Code := bodyN look 22
/- extent.go:11 -/
noncomputable def f22r0 : K2 :=
  .mv (.con (.int .i64 (0))) (some (sOf 2)) <|
  .done
/- extent.go:12 -/
noncomputable def f22r1 : K2 :=
  .mv (.con (.int .i64 (0))) (some (sOf 3)) <|
  .done
/- extent.go:13 -/
noncomputable def f22r2 : K2 :=
  .mv (tO 0) (some (sOf 6)) <|
  .ln (fun xs H => fstO (builtinF .len look [22] xs H)) [(tO 6)] (some (sOf 7)) <|
  .mv (.con (.int .i64 (0))) (some (sOf 8)) <|
  .done
/- extent.go:13 -/
noncomputable def f22r3 : K2 :=
  .p2 (binF .lss (evBin look .lss 3 (.tmp 8) (.tmp 7))) (tO 8) (tO 7) (some (sOf 9)) <|
  .done
/- extent.go:13 -/
noncomputable def f22r4 : K2 :=
  .p2 (ixS 2) (tO 6) (tO 8) (some (sOf 10)) <|
  .r1 (ldN 2) (tO 10) (some (sOf 11)) <|
  .al false (alF (AV.toC (.agg [(.int .i64 (0)), (.int .i64 (0))])) 43 2) (some (sOf 5)) <|
  .st false (stN 2) (tO 5) (tO 11) none <|
  .done
noncomputable def f22r5_20 : K2 := .ln (fun xs _ => pickF xs) [(tO 26), (.con (.bool true)), (tO 32)] (some (sOf 33)) <|
  .done
noncomputable def f22r5_19 : K2 := .gd (sOf 26) false (some (sOf 32)) (.p2 (binF .gtr (evBin look .gtr 3 (.tmp 28) (.tmp 31))) (tO 28) (tO 31) (some (sOf 32)) <|
  f22r5_20) f22r5_20
noncomputable def f22r5_18 : K2 := .gd (sOf 26) false (some (sOf 31)) (.p2 (binF .sub (evBin look .sub 3 (.const (.int .i64 (4096))) (.tmp 30))) (.con (.int .i64 (4096))) (tO 30) (some (sOf 31)) <|
  f22r5_19) f22r5_19
noncomputable def f22r5_17 : K2 := .gd (sOf 26) false (some (sOf 30)) (.r1 ld1 (tO 29) (some (sOf 30)) <|
  f22r5_18) f22r5_18
noncomputable def f22r5_16 : K2 := .gd (sOf 26) false (some (sOf 29)) (.p1 (fa 0) (tO 5) (some (sOf 29)) <|
  f22r5_17) f22r5_17
noncomputable def f22r5_15 : K2 := .gd (sOf 26) false (some (sOf 28)) (.r1 ld1 (tO 27) (some (sOf 28)) <|
  f22r5_16) f22r5_16
noncomputable def f22r5_12 : K2 := .ln (fun xs _ => pickF xs) [(tO 21), (.con (.bool true)), (tO 24)] (some (sOf 25)) <|
  .mv (tO 25) (some (sOf 26)) <|
  .gd (sOf 26) false (some (sOf 27)) (.p1 (fa 1) (tO 5) (some (sOf 27)) <|
  f22r5_15) f22r5_15
noncomputable def f22r5_11 : K2 := .gd (sOf 21) false (some (sOf 24)) (.p2 (binF .lss (evBin look .lss 3 (.tmp 23) (.const (.int .i64 (1))))) (tO 23) (.con (.int .i64 (1))) (some (sOf 24)) <|
  f22r5_12) f22r5_12
noncomputable def f22r5_10 : K2 := .gd (sOf 21) false (some (sOf 23)) (.r1 ld1 (tO 22) (some (sOf 23)) <|
  f22r5_11) f22r5_11
noncomputable def f22r5_7 : K2 := .ln (fun xs _ => pickF xs) [(tO 16), (.con (.bool true)), (tO 19)] (some (sOf 20)) <|
  .mv (tO 20) (some (sOf 21)) <|
  .gd (sOf 21) false (some (sOf 22)) (.p1 (fa 1) (tO 5) (some (sOf 22)) <|
  f22r5_10) f22r5_10
noncomputable def f22r5_6 : K2 := .gd (sOf 16) false (some (sOf 19)) (.p2 (binF .geq (evBin look .geq 3 (.tmp 18) (.const (.int .i64 (4096))))) (tO 18) (.con (.int .i64 (4096))) (some (sOf 19)) <|
  f22r5_7) f22r5_7
noncomputable def f22r5_5 : K2 := .gd (sOf 16) false (some (sOf 18)) (.r1 ld1 (tO 17) (some (sOf 18)) <|
  f22r5_6) f22r5_6
/- extent.go:14 -/
noncomputable def f22r5 : K2 :=
  .p1 (fa 0) (tO 5) (some (sOf 12)) <|
  .r1 ld1 (tO 12) (some (sOf 13)) <|
  .mv (tO 3) (some (sOf 14)) <|
  .p2 (binF .lss (evBin look .lss 3 (.tmp 13) (.tmp 14))) (tO 13) (tO 14) (some (sOf 15)) <|
  .mv (tO 15) (some (sOf 16)) <|
  .gd (sOf 16) false (some (sOf 17)) (.p1 (fa 0) (tO 5) (some (sOf 17)) <|
  f22r5_5) f22r5_5
/- extent.go:15 -/
noncomputable def f22r6 : K2 :=
  .mv (.con (.int .i64 (2))) (some (sOf 2)) <|
  .done
/- extent.go:17 -/
noncomputable def f22r7 : K2 :=
  .p1 (fa 0) (tO 5) (some (sOf 34)) <|
  .r1 ld1 (tO 34) (some (sOf 35)) <|
  .p1 (fa 1) (tO 5) (some (sOf 36)) <|
  .r1 ld1 (tO 36) (some (sOf 37)) <|
  .p2 (binF .add (evBin look .add 3 (.tmp 35) (.tmp 37))) (tO 35) (tO 37) (some (sOf 38)) <|
  .p2 (binF .add (evBin look .add 3 (.tmp 38) (.const (.int .i64 (1))))) (tO 38) (.con (.int .i64 (1))) (some (sOf 39)) <|
  .mv (tO 39) (some (sOf 3)) <|
  .done
/- extent.go:13 -/
noncomputable def f22r8 : K2 :=
  .p2 (binF .add (evBin look .add 3 (.tmp 8) (.const (.int .i64 (1))))) (tO 8) (.con (.int .i64 (1))) (some (sOf 40)) <|
  .mv (tO 40) (some (sOf 8)) <|
  .done
noncomputable def f22l0 : C2 := (.seq (.reg f22r3)
  (.seq (.cond (tO 9) .skip (.exit 0))
  (.seq (.block 1 (.seq (.reg f22r4)
  (.seq (.seq (.reg f22r5)
  (.cond (tO 33) (.seq (.reg f22r6)
  .ret) .skip))
  (.reg f22r7))))
  (.reg f22r8))))
noncomputable def f22b0 : Code := lpN f22body 0
theorem f22l0_eq : comp look f22b0 = f22l0 := by kernel_rfl
/- extent.go:19 -/
noncomputable def f22r9 : K2 :=
  .mv (.con (.int .i64 (0))) (some (sOf 2)) <|
  .done
noncomputable def f22c : C2 := (.seq (.reg f22r0)
  (.seq (.reg f22r1)
  (.seq (.seq (.reg f22r2)
  (.block 0 (.loop f22b0)))
  (.seq (.reg f22r9)
  .ret))))
theorem f22_eq : fnF look 22 = some ⟨41, f22c, [.tmp 2]⟩ := by kernel_rfl

/-! caulker/caulkerref06.List: parameters [22], temporaries 24 -/
noncomputable def f26body : Code := bodyN look 26
/- ref.go:59 -/
noncomputable def f26r0 : K2 :=
  .mv (.con .nilSl) (some (sOf 2)) <|
  .mv (.con (.int .i64 (0))) (some (sOf 3)) <|
  .done
/- ref.go:60 -/
noncomputable def f26r1 : K2 :=
  .mv (tO 0) (some (sOf 7)) <|
  .cl false 30 [(tO 7)] (some (sOf 8)) <|
  .p2 (binF .neq (evBin look .neq 25 (.tmp 8) (.const (.int .i64 (0))))) (tO 8) (.con (.int .i64 (0))) (some (sOf 9)) <|
  .done
/- ref.go:61 -/
noncomputable def f26r2 : K2 :=
  .mv (.con .nilSl) (some (sOf 2)) <|
  .mv (.con (.int .i64 (2))) (some (sOf 3)) <|
  .done
/- ref.go:63 -/
noncomputable def f26r3 : K2 :=
  .mv (.con .nilSl) (some (sOf 4)) <|
  .done
/- ref.go:64 -/
noncomputable def f26r4 : K2 :=
  .mv (tO 0) (some (sOf 10)) <|
  .cl false 46 [(tO 10)] (some (sOf 11)) <|
  .al false (alF (zC look 52) 52 4096) (some (sOf 5)) <|
  .st false (stN 4096) (tO 5) (tO 11) none <|
  .done
/- ref.go:65 -/
noncomputable def f26r5 : K2 :=
  .mv (.con (.int .i64 (0))) (some (sOf 6)) <|
  .done
/- ref.go:65 -/
noncomputable def f26r6 : K2 :=
  .mv (tO 6) (some (sOf 12)) <|
  .p2 (binF .lss (evBin look .lss 3 (.tmp 12) (.const (.int .i64 (4096))))) (tO 12) (.con (.int .i64 (4096))) (some (sOf 13)) <|
  .done
/- ref.go:66 -/
noncomputable def f26r7 : K2 :=
  .mv (tO 6) (some (sOf 16)) <|
  .p2 (ixA 4096 1) (tO 5) (tO 16) (some (sOf 17)) <|
  .r1 ld1 (tO 17) (some (sOf 18)) <|
  .done
/- ref.go:67 -/
noncomputable def f26r8 : K2 :=
  .mv (tO 4) (some (sOf 19)) <|
  .mv (tO 6) (some (sOf 20)) <|
  .hn false (fun xs H => bsF 1 1 (.int .i64 (0)) 3 (zipF [0] xs) H) [(tO 20)] (some (sOf 21)) <|
  .hn false (appX 3 1 8) [(tO 19), (tO 21)] (some (sOf 22)) <|
  .mv (tO 22) (some (sOf 4)) <|
  .done
/- ref.go:65 -/
noncomputable def f26r9 : K2 :=
  .mv (tO 6) (some (sOf 14)) <|
  .p2 (binF .add (evBin look .add 3 (.tmp 14) (.const (.int .i64 (1))))) (tO 14) (.con (.int .i64 (1))) (some (sOf 15)) <|
  .mv (tO 15) (some (sOf 6)) <|
  .done
noncomputable def f26l0 : C2 := (.seq (.seq (.reg f26r6)
  (.cond (tO 13) .skip (.exit 0)))
  (.seq (.block 1 (.seq (.reg f26r7)
  (.cond (tO 18) (.reg f26r8) .skip)))
  (.reg f26r9)))
noncomputable def f26b0 : Code := lpN f26body 0
theorem f26l0_eq : comp look f26b0 = f26l0 := by kernel_rfl
/- ref.go:70 -/
noncomputable def f26r10 : K2 :=
  .mv (tO 4) (some (sOf 23)) <|
  .mv (tO 23) (some (sOf 2)) <|
  .mv (.con (.int .i64 (0))) (some (sOf 3)) <|
  .done
noncomputable def f26c : C2 := (.seq (.reg f26r0)
  (.seq (.seq (.reg f26r1)
  (.cond (tO 9) (.seq (.reg f26r2)
  .ret) .skip))
  (.seq (.reg f26r3)
  (.seq (.reg f26r4)
  (.seq (.seq (.reg f26r5)
  (.block 0 (.loop f26b0)))
  (.seq (.reg f26r10)
  .ret))))))
theorem f26_eq : fnF look 26 = some ⟨24, f26c, [.tmp 2, .tmp 3]⟩ := by kernel_rfl

/-! caulker/caulkerref06.Of: parameters [32], temporaries 31 -/
noncomputable def f28body : Code := bodyN look 28
/- ref.go:47 -/
noncomputable def f28r0 : K2 :=
  .mv (.con .nilSl) (some (sOf 2)) <|
  .mv (.con (.int .i64 (0))) (some (sOf 3)) <|
  .done
/- ref.go:48 -/
noncomputable def f28r1 : K2 :=
  .al false (alF (zC look 52) 52 4096) (some (sOf 4)) <|
  .done
/- ref.go:49 -/
noncomputable def f28r2 : K2 :=
  .mv (.con (.int .i64 (0))) (some (sOf 5)) <|
  .done
/- ref.go:49 -/
noncomputable def f28r3 : K2 :=
  .mv (tO 5) (some (sOf 6)) <|
  .mv (tO 0) (some (sOf 7)) <|
  .ln (fun xs H => fstO (builtinF .len look [32] xs H)) [(tO 7)] (some (sOf 8)) <|
  .p2 (binF .lss (evBin look .lss 3 (.tmp 6) (.tmp 8))) (tO 6) (tO 8) (some (sOf 9)) <|
  .done
noncomputable def f28r4_10 : K2 := .ln (fun xs _ => pickF xs) [(tO 17), (.con (.bool true)), (tO 22)] (some (sOf 23)) <|
  .done
noncomputable def f28r4_9 : K2 := .gd (sOf 17) false (some (sOf 22)) (.p2 (binF .geq (evBin look .geq 3 (.tmp 21) (.const (.int .i64 (4096))))) (tO 21) (.con (.int .i64 (4096))) (some (sOf 22)) <|
  f28r4_10) f28r4_10
noncomputable def f28r4_8 : K2 := .gd (sOf 17) false (some (sOf 21)) (.r1 ld1 (tO 20) (some (sOf 21)) <|
  f28r4_9) f28r4_9
noncomputable def f28r4_7 : K2 := .gd (sOf 17) false (some (sOf 20)) (.p2 (ixS 1) (tO 18) (tO 19) (some (sOf 20)) <|
  f28r4_8) f28r4_8
noncomputable def f28r4_6 : K2 := .gd (sOf 17) false (some (sOf 19)) (.mv (tO 5) (some (sOf 19)) <|
  f28r4_7) f28r4_7
/- ref.go:50 -/
noncomputable def f28r4 : K2 :=
  .mv (tO 0) (some (sOf 12)) <|
  .mv (tO 5) (some (sOf 13)) <|
  .p2 (ixS 1) (tO 12) (tO 13) (some (sOf 14)) <|
  .r1 ld1 (tO 14) (some (sOf 15)) <|
  .p2 (binF .lss (evBin look .lss 3 (.tmp 15) (.const (.int .i64 (0))))) (tO 15) (.con (.int .i64 (0))) (some (sOf 16)) <|
  .mv (tO 16) (some (sOf 17)) <|
  .gd (sOf 17) false (some (sOf 18)) (.mv (tO 0) (some (sOf 18)) <|
  f28r4_6) f28r4_6
/- ref.go:51 -/
noncomputable def f28r5 : K2 :=
  .mv (.con .nilSl) (some (sOf 2)) <|
  .mv (.con (.int .i64 (2))) (some (sOf 3)) <|
  .done
/- ref.go:53 -/
noncomputable def f28r6 : K2 :=
  .mv (tO 0) (some (sOf 24)) <|
  .mv (tO 5) (some (sOf 25)) <|
  .p2 (ixS 1) (tO 24) (tO 25) (some (sOf 26)) <|
  .r1 ld1 (tO 26) (some (sOf 27)) <|
  .p2 (ixA 4096 1) (tO 4) (tO 27) (some (sOf 28)) <|
  .st false (st1 look 4) (tO 28) (.con (.bool true)) none <|
  .done
/- ref.go:49 -/
noncomputable def f28r7 : K2 :=
  .mv (tO 5) (some (sOf 10)) <|
  .p2 (binF .add (evBin look .add 3 (.tmp 10) (.const (.int .i64 (1))))) (tO 10) (.con (.int .i64 (1))) (some (sOf 11)) <|
  .mv (tO 11) (some (sOf 5)) <|
  .done
noncomputable def f28l0 : C2 := (.seq (.seq (.reg f28r3)
  (.cond (tO 9) .skip (.exit 0)))
  (.seq (.block 1 (.seq (.seq (.reg f28r4)
  (.cond (tO 23) (.seq (.reg f28r5)
  .ret) .skip))
  (.reg f28r6)))
  (.reg f28r7)))
noncomputable def f28b0 : Code := lpN f28body 0
theorem f28l0_eq : comp look f28b0 = f28l0 := by kernel_rfl
/- ref.go:55 -/
noncomputable def f28r8 : K2 :=
  .r1 (ldN 4096) (tO 4) (some (sOf 29)) <|
  .cl false 51 [(tO 29)] (some (sOf 30)) <|
  .mv (tO 30) (some (sOf 2)) <|
  .mv (.con (.int .i64 (0))) (some (sOf 3)) <|
  .done
noncomputable def f28c : C2 := (.seq (.reg f28r0)
  (.seq (.reg f28r1)
  (.seq (.seq (.reg f28r2)
  (.block 0 (.loop f28b0)))
  (.seq (.reg f28r8)
  .ret))))
theorem f28_eq : fnF look 28 = some ⟨31, f28c, [.tmp 2, .tmp 3]⟩ := by kernel_rfl

/-! caulker/caulkerref06.Check: parameters [22], temporaries 44 -/
noncomputable def f30body : Code := bodyN look 30
/- ref.go:7 -/
noncomputable def f30r0 : K2 :=
  .mv (.con (.int .i64 (0))) (some (sOf 2)) <|
  .done
/- ref.go:8 -/
noncomputable def f30r1 : K2 :=
  .mv (.con (.int .i64 (0))) (some (sOf 3)) <|
  .done
/- ref.go:9 -/
noncomputable def f30r2 : K2 :=
  .mv (.con (.int .i64 (0))) (some (sOf 4)) <|
  .done
/- ref.go:9 -/
noncomputable def f30r3 : K2 :=
  .mv (tO 4) (some (sOf 6)) <|
  .mv (tO 0) (some (sOf 7)) <|
  .ln (fun xs H => fstO (builtinF .len look [22] xs H)) [(tO 7)] (some (sOf 8)) <|
  .p2 (binF .lss (evBin look .lss 3 (.tmp 6) (.tmp 8))) (tO 6) (tO 8) (some (sOf 9)) <|
  .done
/- ref.go:10 -/
noncomputable def f30r4 : K2 :=
  .mv (tO 0) (some (sOf 12)) <|
  .mv (tO 4) (some (sOf 13)) <|
  .p2 (ixS 2) (tO 12) (tO 13) (some (sOf 14)) <|
  .r1 (ldN 2) (tO 14) (some (sOf 15)) <|
  .al false (alF (AV.toC (.agg [(.int .i64 (0)), (.int .i64 (0))])) 43 2) (some (sOf 5)) <|
  .st false (stN 2) (tO 5) (tO 15) none <|
  .done
noncomputable def f30r5_20 : K2 := .ln (fun xs _ => pickF xs) [(tO 30), (.con (.bool true)), (tO 36)] (some (sOf 37)) <|
  .done
noncomputable def f30r5_19 : K2 := .gd (sOf 30) false (some (sOf 36)) (.p2 (binF .gtr (evBin look .gtr 3 (.tmp 32) (.tmp 35))) (tO 32) (tO 35) (some (sOf 36)) <|
  f30r5_20) f30r5_20
noncomputable def f30r5_18 : K2 := .gd (sOf 30) false (some (sOf 35)) (.p2 (binF .sub (evBin look .sub 3 (.const (.int .i64 (4096))) (.tmp 34))) (.con (.int .i64 (4096))) (tO 34) (some (sOf 35)) <|
  f30r5_19) f30r5_19
noncomputable def f30r5_17 : K2 := .gd (sOf 30) false (some (sOf 34)) (.r1 ld1 (tO 33) (some (sOf 34)) <|
  f30r5_18) f30r5_18
noncomputable def f30r5_16 : K2 := .gd (sOf 30) false (some (sOf 33)) (.p1 (fa 0) (tO 5) (some (sOf 33)) <|
  f30r5_17) f30r5_17
noncomputable def f30r5_15 : K2 := .gd (sOf 30) false (some (sOf 32)) (.r1 ld1 (tO 31) (some (sOf 32)) <|
  f30r5_16) f30r5_16
noncomputable def f30r5_12 : K2 := .ln (fun xs _ => pickF xs) [(tO 25), (.con (.bool true)), (tO 28)] (some (sOf 29)) <|
  .mv (tO 29) (some (sOf 30)) <|
  .gd (sOf 30) false (some (sOf 31)) (.p1 (fa 1) (tO 5) (some (sOf 31)) <|
  f30r5_15) f30r5_15
noncomputable def f30r5_11 : K2 := .gd (sOf 25) false (some (sOf 28)) (.p2 (binF .lss (evBin look .lss 3 (.tmp 27) (.const (.int .i64 (1))))) (tO 27) (.con (.int .i64 (1))) (some (sOf 28)) <|
  f30r5_12) f30r5_12
noncomputable def f30r5_10 : K2 := .gd (sOf 25) false (some (sOf 27)) (.r1 ld1 (tO 26) (some (sOf 27)) <|
  f30r5_11) f30r5_11
noncomputable def f30r5_7 : K2 := .ln (fun xs _ => pickF xs) [(tO 20), (.con (.bool true)), (tO 23)] (some (sOf 24)) <|
  .mv (tO 24) (some (sOf 25)) <|
  .gd (sOf 25) false (some (sOf 26)) (.p1 (fa 1) (tO 5) (some (sOf 26)) <|
  f30r5_10) f30r5_10
noncomputable def f30r5_6 : K2 := .gd (sOf 20) false (some (sOf 23)) (.p2 (binF .geq (evBin look .geq 3 (.tmp 22) (.const (.int .i64 (4096))))) (tO 22) (.con (.int .i64 (4096))) (some (sOf 23)) <|
  f30r5_7) f30r5_7
noncomputable def f30r5_5 : K2 := .gd (sOf 20) false (some (sOf 22)) (.r1 ld1 (tO 21) (some (sOf 22)) <|
  f30r5_6) f30r5_6
/- ref.go:11 -/
noncomputable def f30r5 : K2 :=
  .p1 (fa 0) (tO 5) (some (sOf 16)) <|
  .r1 ld1 (tO 16) (some (sOf 17)) <|
  .mv (tO 3) (some (sOf 18)) <|
  .p2 (binF .lss (evBin look .lss 3 (.tmp 17) (.tmp 18))) (tO 17) (tO 18) (some (sOf 19)) <|
  .mv (tO 19) (some (sOf 20)) <|
  .gd (sOf 20) false (some (sOf 21)) (.p1 (fa 0) (tO 5) (some (sOf 21)) <|
  f30r5_5) f30r5_5
/- ref.go:12 -/
noncomputable def f30r6 : K2 :=
  .mv (.con (.int .i64 (2))) (some (sOf 2)) <|
  .done
/- ref.go:14 -/
noncomputable def f30r7 : K2 :=
  .p1 (fa 0) (tO 5) (some (sOf 38)) <|
  .r1 ld1 (tO 38) (some (sOf 39)) <|
  .p1 (fa 1) (tO 5) (some (sOf 40)) <|
  .r1 ld1 (tO 40) (some (sOf 41)) <|
  .p2 (binF .add (evBin look .add 3 (.tmp 39) (.tmp 41))) (tO 39) (tO 41) (some (sOf 42)) <|
  .p2 (binF .add (evBin look .add 3 (.tmp 42) (.const (.int .i64 (1))))) (tO 42) (.con (.int .i64 (1))) (some (sOf 43)) <|
  .mv (tO 43) (some (sOf 3)) <|
  .done
/- ref.go:9 -/
noncomputable def f30r8 : K2 :=
  .mv (tO 4) (some (sOf 10)) <|
  .p2 (binF .add (evBin look .add 3 (.tmp 10) (.const (.int .i64 (1))))) (tO 10) (.con (.int .i64 (1))) (some (sOf 11)) <|
  .mv (tO 11) (some (sOf 4)) <|
  .done
noncomputable def f30l0 : C2 := (.seq (.seq (.reg f30r3)
  (.cond (tO 9) .skip (.exit 0)))
  (.seq (.block 1 (.seq (.reg f30r4)
  (.seq (.seq (.reg f30r5)
  (.cond (tO 37) (.seq (.reg f30r6)
  .ret) .skip))
  (.reg f30r7))))
  (.reg f30r8)))
noncomputable def f30b0 : Code := lpN f30body 0
theorem f30l0_eq : comp look f30b0 = f30l0 := by kernel_rfl
/- ref.go:16 -/
noncomputable def f30r9 : K2 :=
  .mv (.con (.int .i64 (0))) (some (sOf 2)) <|
  .done
noncomputable def f30c : C2 := (.seq (.reg f30r0)
  (.seq (.reg f30r1)
  (.seq (.seq (.reg f30r2)
  (.block 0 (.loop f30b0)))
  (.seq (.reg f30r9)
  .ret))))
theorem f30_eq : fnF look 30 = some ⟨44, f30c, [.tmp 2]⟩ := by kernel_rfl

/-! caulker/extent.sum: parameters [22], temporaries 18 -/
noncomputable def f45body : Code := bodyN look 45
/- extent.go:23 -/
noncomputable def f45r0 : K2 :=
  .mv (.con (.int .i64 (0))) (some (sOf 2)) <|
  .done
/- extent.go:24 -/
noncomputable def f45r1 : K2 :=
  .mv (.con (.int .i64 (0))) (some (sOf 3)) <|
  .done
/- extent.go:25 -/
noncomputable def f45r2 : K2 :=
  .mv (tO 0) (some (sOf 6)) <|
  .ln (fun xs H => fstO (builtinF .len look [22] xs H)) [(tO 6)] (some (sOf 7)) <|
  .mv (.con (.int .i64 (0))) (some (sOf 8)) <|
  .done
/- extent.go:25 -/
noncomputable def f45r3 : K2 :=
  .p2 (binF .lss (evBin look .lss 3 (.tmp 8) (.tmp 7))) (tO 8) (tO 7) (some (sOf 9)) <|
  .done
/- extent.go:25 -/
noncomputable def f45r4 : K2 :=
  .p2 (ixS 2) (tO 6) (tO 8) (some (sOf 10)) <|
  .r1 (ldN 2) (tO 10) (some (sOf 11)) <|
  .al false (alF (AV.toC (.agg [(.int .i64 (0)), (.int .i64 (0))])) 43 2) (some (sOf 5)) <|
  .st false (stN 2) (tO 5) (tO 11) none <|
  .done
/- extent.go:26 -/
noncomputable def f45r5 : K2 :=
  .mv (tO 3) (some (sOf 12)) <|
  .p1 (fa 1) (tO 5) (some (sOf 13)) <|
  .r1 ld1 (tO 13) (some (sOf 14)) <|
  .p2 (binF .add (evBin look .add 3 (.tmp 12) (.tmp 14))) (tO 12) (tO 14) (some (sOf 15)) <|
  .mv (tO 15) (some (sOf 3)) <|
  .done
/- extent.go:25 -/
noncomputable def f45r6 : K2 :=
  .p2 (binF .add (evBin look .add 3 (.tmp 8) (.const (.int .i64 (1))))) (tO 8) (.con (.int .i64 (1))) (some (sOf 16)) <|
  .mv (tO 16) (some (sOf 8)) <|
  .done
noncomputable def f45l0 : C2 := (.seq (.reg f45r3)
  (.seq (.cond (tO 9) .skip (.exit 0))
  (.seq (.block 1 (.seq (.reg f45r4)
  (.reg f45r5)))
  (.reg f45r6))))
noncomputable def f45b0 : Code := lpN f45body 0
theorem f45l0_eq : comp look f45b0 = f45l0 := by kernel_rfl
/- extent.go:28 -/
noncomputable def f45r7 : K2 :=
  .mv (tO 3) (some (sOf 17)) <|
  .mv (tO 17) (some (sOf 2)) <|
  .done
noncomputable def f45c : C2 := (.seq (.reg f45r0)
  (.seq (.reg f45r1)
  (.seq (.seq (.reg f45r2)
  (.block 0 (.loop f45b0)))
  (.seq (.reg f45r7)
  .ret))))
theorem f45_eq : fnF look 45 = some ⟨18, f45c, [.tmp 2]⟩ := by kernel_rfl

/-! caulker/caulkerref06.marks: parameters [22], temporaries 30 -/
noncomputable def f46body : Code := bodyN look 46
/- ref.go:20 -/
noncomputable def f46r0 : K2 :=
  .al false (alF (zC look 52) 52 4096) (some (sOf 2)) <|
  .done
/- ref.go:21 -/
noncomputable def f46r1 : K2 :=
  .al false (alF (zC look 52) 52 4096) (some (sOf 3)) <|
  .done
/- ref.go:22 -/
noncomputable def f46r2 : K2 :=
  .mv (.con (.int .i64 (0))) (some (sOf 4)) <|
  .done
/- ref.go:22 -/
noncomputable def f46r3 : K2 :=
  .mv (tO 4) (some (sOf 6)) <|
  .mv (tO 0) (some (sOf 7)) <|
  .ln (fun xs H => fstO (builtinF .len look [22] xs H)) [(tO 7)] (some (sOf 8)) <|
  .p2 (binF .lss (evBin look .lss 3 (.tmp 6) (.tmp 8))) (tO 6) (tO 8) (some (sOf 9)) <|
  .done
/- ref.go:23 -/
noncomputable def f46r4 : K2 :=
  .mv (.con (.int .i64 (0))) (some (sOf 5)) <|
  .done
/- ref.go:23 -/
noncomputable def f46r5 : K2 :=
  .mv (tO 5) (some (sOf 12)) <|
  .mv (tO 0) (some (sOf 13)) <|
  .mv (tO 4) (some (sOf 14)) <|
  .p2 (ixS 2) (tO 13) (tO 14) (some (sOf 15)) <|
  .p1 (fa 1) (tO 15) (some (sOf 16)) <|
  .r1 ld1 (tO 16) (some (sOf 17)) <|
  .p2 (binF .lss (evBin look .lss 3 (.tmp 12) (.tmp 17))) (tO 12) (tO 17) (some (sOf 18)) <|
  .done
/- ref.go:24 -/
noncomputable def f46r6 : K2 :=
  .mv (tO 0) (some (sOf 21)) <|
  .mv (tO 4) (some (sOf 22)) <|
  .p2 (ixS 2) (tO 21) (tO 22) (some (sOf 23)) <|
  .p1 (fa 0) (tO 23) (some (sOf 24)) <|
  .r1 ld1 (tO 24) (some (sOf 25)) <|
  .mv (tO 5) (some (sOf 26)) <|
  .p2 (binF .add (evBin look .add 3 (.tmp 25) (.tmp 26))) (tO 25) (tO 26) (some (sOf 27)) <|
  .p2 (ixA 4096 1) (tO 3) (tO 27) (some (sOf 28)) <|
  .st false (st1 look 4) (tO 28) (.con (.bool true)) none <|
  .done
/- ref.go:23 -/
noncomputable def f46r7 : K2 :=
  .mv (tO 5) (some (sOf 19)) <|
  .p2 (binF .add (evBin look .add 3 (.tmp 19) (.const (.int .i64 (1))))) (tO 19) (.con (.int .i64 (1))) (some (sOf 20)) <|
  .mv (tO 20) (some (sOf 5)) <|
  .done
noncomputable def f46l1 : C2 := (.seq (.seq (.reg f46r5)
  (.cond (tO 18) .skip (.exit 2)))
  (.seq (.block 3 (.reg f46r6))
  (.reg f46r7)))
noncomputable def f46b1 : Code := lpN f46body 1
theorem f46l1_eq : comp look f46b1 = f46l1 := by kernel_rfl
/- ref.go:22 -/
noncomputable def f46r8 : K2 :=
  .mv (tO 4) (some (sOf 10)) <|
  .p2 (binF .add (evBin look .add 3 (.tmp 10) (.const (.int .i64 (1))))) (tO 10) (.con (.int .i64 (1))) (some (sOf 11)) <|
  .mv (tO 11) (some (sOf 4)) <|
  .done
noncomputable def f46l0 : C2 := (.seq (.seq (.reg f46r3)
  (.cond (tO 9) .skip (.exit 0)))
  (.seq (.block 1 (.seq (.reg f46r4)
  (.block 2 (.loop f46b1))))
  (.reg f46r8)))
noncomputable def f46b0 : Code := lpN f46body 0
theorem f46l0_eq : comp look f46b0 = f46l0 := by kernel_rfl
/- ref.go:27 -/
noncomputable def f46r9 : K2 :=
  .r1 (ldN 4096) (tO 3) (some (sOf 29)) <|
  .st false (stN 4096) (tO 2) (tO 29) none <|
  .done
noncomputable def f46c : C2 := (.seq (.reg f46r0)
  (.seq (.reg f46r1)
  (.seq (.seq (.reg f46r2)
  (.block 0 (.loop f46b0)))
  (.seq (.reg f46r9)
  .ret))))
theorem f46_eq : fnF look 46 = some ⟨30, f46c, [.cell 2 52]⟩ := by kernel_rfl

/- extent.go:40 -/
noncomputable def f50r0 : K2 :=
  .mv (.con .nilPtr) (some (sOf 0)) <|
  .mv (.con .nilFn) (some (sOf 1)) <|
  .done
/- extent.go:41 -/
noncomputable def f50r1 : K2 :=
  .al false (alF (AV.toC .nilSl) 22 1) (some (sOf 2)) <|
  .done
/- extent.go:42 -/
noncomputable def f50r2 : K2 :=
  .ln (fun zs _ => some (.fn (.func 56) (firstN 0 zs) (restN 0 zs))) [(tO 2)] (some (sOf 3)) <|
  .mv (tO 2) (some (sOf 0)) <|
  .mv (tO 3) (some (sOf 1)) <|
  .done
noncomputable def f50c : C2 := (.seq (.reg f50r0)
  (.seq (.reg f50r1)
  (.seq (.reg f50r2)
  .ret)))
theorem f50_eq : fnF look 50 = some ⟨4, f50c, [.tmp 0, .tmp 1]⟩ := by kernel_rfl

/-! caulker/caulkerref06.runs: parameters [52], temporaries 37 -/
noncomputable def f51body : Code := bodyN look 51
/- ref.go:31 -/
noncomputable def f51r0 : K2 :=
  .m1 false (fun v H => alF v.toC 52 4096 H) (tO 0) (some (sOf 1)) <|
  .mv (.con .nilSl) (some (sOf 2)) <|
  .done
/- ref.go:32 -/
noncomputable def f51r1 : K2 :=
  .mv (.con .nilSl) (some (sOf 3)) <|
  .done
/- ref.go:33 -/
noncomputable def f51r2 : K2 :=
  .mv (.con (.int .i64 (0))) (some (sOf 4)) <|
  .done
/- ref.go:33 -/
noncomputable def f51r3 : K2 :=
  .mv (tO 4) (some (sOf 5)) <|
  .p2 (binF .lss (evBin look .lss 3 (.tmp 5) (.const (.int .i64 (4096))))) (tO 5) (.con (.int .i64 (4096))) (some (sOf 6)) <|
  .done
/- ref.go:34 -/
noncomputable def f51r4 : K2 :=
  .mv (tO 4) (some (sOf 9)) <|
  .p2 (ixA 4096 1) (tO 1) (tO 9) (some (sOf 10)) <|
  .r1 ld1 (tO 10) (some (sOf 11)) <|
  .p1 notF (tO 11) (some (sOf 12)) <|
  .done
noncomputable def f51r5_6 : K2 := .ln (fun xs _ => pickF xs) [(tO 15), (tO 19), (.con (.bool false))] (some (sOf 20)) <|
  .done
noncomputable def f51r5_5 : K2 := .gd (sOf 15) true (some (sOf 19)) (.r1 ld1 (tO 18) (some (sOf 19)) <|
  f51r5_6) f51r5_6
noncomputable def f51r5_4 : K2 := .gd (sOf 15) true (some (sOf 18)) (.p2 (ixA 4096 1) (tO 1) (tO 17) (some (sOf 18)) <|
  f51r5_5) f51r5_5
noncomputable def f51r5_3 : K2 := .gd (sOf 15) true (some (sOf 17)) (.p2 (binF .sub (evBin look .sub 3 (.tmp 16) (.const (.int .i64 (1))))) (tO 16) (.con (.int .i64 (1))) (some (sOf 17)) <|
  f51r5_4) f51r5_4
/- ref.go:37 -/
noncomputable def f51r5 : K2 :=
  .mv (tO 4) (some (sOf 13)) <|
  .p2 (binF .gtr (evBin look .gtr 3 (.tmp 13) (.const (.int .i64 (0))))) (tO 13) (.con (.int .i64 (0))) (some (sOf 14)) <|
  .mv (tO 14) (some (sOf 15)) <|
  .gd (sOf 15) true (some (sOf 16)) (.mv (tO 4) (some (sOf 16)) <|
  f51r5_3) f51r5_3
/- ref.go:38 -/
noncomputable def f51r6 : K2 :=
  .mv (tO 3) (some (sOf 21)) <|
  .mv (tO 3) (some (sOf 22)) <|
  .ln (fun xs H => fstO (builtinF .len look [22] xs H)) [(tO 22)] (some (sOf 23)) <|
  .p2 (binF .sub (evBin look .sub 3 (.tmp 23) (.const (.int .i64 (1))))) (tO 23) (.con (.int .i64 (1))) (some (sOf 24)) <|
  .p2 (ixS 2) (tO 21) (tO 24) (some (sOf 25)) <|
  .p1 (fa 1) (tO 25) (some (sOf 26)) <|
  .r1 ld1 (tO 26) (some (sOf 27)) <|
  .p2 (binF .add (evBin look .add 3 (.tmp 27) (.const (.int .i64 (1))))) (tO 27) (.con (.int .i64 (1))) (some (sOf 28)) <|
  .p2 (ixS 2) (tO 21) (tO 24) (some (sOf 29)) <|
  .p1 (fa 1) (tO 29) (some (sOf 30)) <|
  .st false (st1 look 3) (tO 30) (tO 28) none <|
  .done
/- ref.go:40 -/
noncomputable def f51r7 : K2 :=
  .mv (tO 3) (some (sOf 31)) <|
  .mv (tO 4) (some (sOf 32)) <|
  .ln (fun xs _ => evBuild look 43 (zipF [0, 1] xs)) [(tO 32), (.con (.int .i64 (1)))] (some (sOf 33)) <|
  .hn false (fun xs H => bsF 2 1 (.agg [(.int .i64 (0)), (.int .i64 (0))]) 43 (zipF [0] xs) H) [(tO 33)] (some (sOf 34)) <|
  .hn false (appX 43 2 16) [(tO 31), (tO 34)] (some (sOf 35)) <|
  .mv (tO 35) (some (sOf 3)) <|
  .done
/- ref.go:33 -/
noncomputable def f51r8 : K2 :=
  .mv (tO 4) (some (sOf 7)) <|
  .p2 (binF .add (evBin look .add 3 (.tmp 7) (.const (.int .i64 (1))))) (tO 7) (.con (.int .i64 (1))) (some (sOf 8)) <|
  .mv (tO 8) (some (sOf 4)) <|
  .done
noncomputable def f51l0 : C2 := (.seq (.seq (.reg f51r3)
  (.cond (tO 6) .skip (.exit 0)))
  (.seq (.block 1 (.seq (.seq (.reg f51r4)
  (.cond (tO 12) (.exit 1) .skip))
  (.seq (.reg f51r5)
  (.cond (tO 20) (.reg f51r6) (.reg f51r7)))))
  (.reg f51r8)))
noncomputable def f51b0 : Code := lpN f51body 0
theorem f51l0_eq : comp look f51b0 = f51l0 := by kernel_rfl
/- ref.go:43 -/
noncomputable def f51r9 : K2 :=
  .mv (tO 3) (some (sOf 36)) <|
  .mv (tO 36) (some (sOf 2)) <|
  .done
noncomputable def f51c : C2 := (.seq (.reg f51r0)
  (.seq (.reg f51r1)
  (.seq (.seq (.reg f51r2)
  (.block 0 (.loop f51b0)))
  (.seq (.reg f51r9)
  .ret))))
theorem f51_eq : fnF look 51 = some ⟨37, f51c, [.tmp 2]⟩ := by kernel_rfl

/- extent.go:43 -/
noncomputable def f56r0 : K2 :=
  .r1 ld1 (tO 2) (some (sOf 6)) <|
  .ln (fun xs H => fstO (builtinF .len look [22] xs H)) [(tO 6)] (some (sOf 7)) <|
  .p2 (binF .sub (evBin look .sub 3 (.tmp 7) (.const (.int .i64 (1))))) (tO 7) (.con (.int .i64 (1))) (some (sOf 8)) <|
  .mv (tO 8) (some (sOf 5)) <|
  .done
noncomputable def f56r1_15 : K2 := .ln (fun xs _ => pickF xs) [(tO 11), (tO 24), (.con (.bool false))] (some (sOf 25)) <|
  .done
noncomputable def f56r1_14 : K2 := .gd (sOf 11) true (some (sOf 24)) (.p2 (binF .eql (evBin look .eql 3 (.tmp 22) (.tmp 23))) (tO 22) (tO 23) (some (sOf 24)) <|
  f56r1_15) f56r1_15
noncomputable def f56r1_13 : K2 := .gd (sOf 11) true (some (sOf 23)) (.mv (tO 0) (some (sOf 23)) <|
  f56r1_14) f56r1_14
noncomputable def f56r1_12 : K2 := .gd (sOf 11) true (some (sOf 22)) (.p2 (binF .add (evBin look .add 3 (.tmp 16) (.tmp 21))) (tO 16) (tO 21) (some (sOf 22)) <|
  f56r1_13) f56r1_13
noncomputable def f56r1_11 : K2 := .gd (sOf 11) true (some (sOf 21)) (.r1 ld1 (tO 20) (some (sOf 21)) <|
  f56r1_12) f56r1_12
noncomputable def f56r1_10 : K2 := .gd (sOf 11) true (some (sOf 20)) (.p1 (fa 1) (tO 19) (some (sOf 20)) <|
  f56r1_11) f56r1_11
noncomputable def f56r1_9 : K2 := .gd (sOf 11) true (some (sOf 19)) (.p2 (ixS 2) (tO 17) (tO 18) (some (sOf 19)) <|
  f56r1_10) f56r1_10
noncomputable def f56r1_8 : K2 := .gd (sOf 11) true (some (sOf 18)) (.mv (tO 5) (some (sOf 18)) <|
  f56r1_9) f56r1_9
noncomputable def f56r1_7 : K2 := .gd (sOf 11) true (some (sOf 17)) (.r1 ld1 (tO 2) (some (sOf 17)) <|
  f56r1_8) f56r1_8
noncomputable def f56r1_6 : K2 := .gd (sOf 11) true (some (sOf 16)) (.r1 ld1 (tO 15) (some (sOf 16)) <|
  f56r1_7) f56r1_7
noncomputable def f56r1_5 : K2 := .gd (sOf 11) true (some (sOf 15)) (.p1 (fa 0) (tO 14) (some (sOf 15)) <|
  f56r1_6) f56r1_6
noncomputable def f56r1_4 : K2 := .gd (sOf 11) true (some (sOf 14)) (.p2 (ixS 2) (tO 12) (tO 13) (some (sOf 14)) <|
  f56r1_5) f56r1_5
noncomputable def f56r1_3 : K2 := .gd (sOf 11) true (some (sOf 13)) (.mv (tO 5) (some (sOf 13)) <|
  f56r1_4) f56r1_4
/- extent.go:43 -/
noncomputable def f56r1 : K2 :=
  .mv (tO 5) (some (sOf 9)) <|
  .p2 (binF .geq (evBin look .geq 3 (.tmp 9) (.const (.int .i64 (0))))) (tO 9) (.con (.int .i64 (0))) (some (sOf 10)) <|
  .mv (tO 10) (some (sOf 11)) <|
  .gd (sOf 11) true (some (sOf 12)) (.r1 ld1 (tO 2) (some (sOf 12)) <|
  f56r1_3) f56r1_3
/- extent.go:44 -/
noncomputable def f56r2 : K2 :=
  .r1 ld1 (tO 2) (some (sOf 26)) <|
  .mv (tO 5) (some (sOf 27)) <|
  .p2 (ixS 2) (tO 26) (tO 27) (some (sOf 28)) <|
  .p1 (fa 1) (tO 28) (some (sOf 29)) <|
  .r1 ld1 (tO 29) (some (sOf 30)) <|
  .mv (tO 1) (some (sOf 31)) <|
  .p2 (binF .add (evBin look .add 3 (.tmp 30) (.tmp 31))) (tO 30) (tO 31) (some (sOf 32)) <|
  .p2 (ixS 2) (tO 26) (tO 27) (some (sOf 33)) <|
  .p1 (fa 1) (tO 33) (some (sOf 34)) <|
  .st false (st1 look 3) (tO 34) (tO 32) none <|
  .done
/- extent.go:47 -/
noncomputable def f56r3 : K2 :=
  .r1 ld1 (tO 2) (some (sOf 35)) <|
  .mv (tO 0) (some (sOf 36)) <|
  .mv (tO 1) (some (sOf 37)) <|
  .ln (fun xs _ => evBuild look 43 (zipF [0, 1] xs)) [(tO 36), (tO 37)] (some (sOf 38)) <|
  .hn false (fun xs H => bsF 2 1 (.agg [(.int .i64 (0)), (.int .i64 (0))]) 43 (zipF [0] xs) H) [(tO 38)] (some (sOf 39)) <|
  .hn false (appX 43 2 16) [(tO 35), (tO 39)] (some (sOf 40)) <|
  .st false (st1 look 22) (tO 2) (tO 40) none <|
  .done
noncomputable def f56c : C2 := (.seq (.seq (.reg f56r0)
  (.seq (.reg f56r1)
  (.cond (tO 25) (.seq (.reg f56r2)
  .ret) .skip)))
  (.reg f56r3))
theorem f56_eq : fnF look 56 = some ⟨41, f56c, []⟩ := by kernel_rfl

end Go.Proofs.Ytnkomaedmblemaa
