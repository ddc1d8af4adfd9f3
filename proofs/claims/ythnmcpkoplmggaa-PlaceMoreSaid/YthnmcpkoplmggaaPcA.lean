import Derived.Test.YthnmcpkoplmggaaEvG
import Derived.Test.YthnmcpkoplmggaaEvE
import Derived.Test.YthnmcpkoplmggaaRows
import Derived.KernelRfl
namespace Go.Proofs.Ythnmcpkoplmggaa
open Go.Ev
set_option maxRecDepth 100000
noncomputable def look0 : Go.Ev.Lk := Go.Ev.lkOf Try.prog (Go.Ev.Tr.ofList Try.prog.funcs.toList) (Go.Ev.Tr.ofList Try.prog.types.toList)
theorem look0_ok : Go.Ev.LOk look0 Try.prog := Go.Ev.lkOf_ok (by kernel_rfl) (by kernel_rfl)
theorem says8 : Go.Ev.saysTrue (Go.Ev.evF look0 1000000 (.call 8 [] H0)) = true := by kernel_rfl
theorem says5 : Go.Ev.saysTrue (Go.Ev.evF look0 1000000 (.call 5 [] H0)) = true := by kernel_rfl
noncomputable def look : Go.Ev.Lk := Go.Ev.lkX Try.prog (Go.Ev.Tr.ofList Try.prog.funcs.toList) (Go.Ev.Tr.ofList Try.prog.types.toList) [(8, xTrue), (5, xTrue)]
theorem look_ok : Go.Ev.LOk look Try.prog := Go.Ev.lkX_ok (by kernel_rfl) (by kernel_rfl)
theorem look_ext (B : Nat) : Go.Ev.ExtOk look Try.prog B := extOk_of fun p hp => by
  rcases List.mem_cons.1 hp with rfl | hp
  · exact xTrue_ok look0_ok (Go.Ev.noExt _ _) (by rw [← evF_eq]; exact says8)
  · rw [List.mem_singleton] at hp
    subst hp
    exact xTrue_ok look0_ok (Go.Ev.noExt _ _) (by rw [← evF_eq]; exact says5)
theorem noext {f : Nat} (h : (Nat.beq 8 f || Nat.beq 5 f) = false) : look.ext f = none := by
  show brec (brec none (some xTrue) (Nat.beq 5 f)) (some xTrue) (Nat.beq 8 f) = none
  obtain ⟨h1, h2⟩ := Bool.or_eq_false_iff.1 h
  rw [h1, h2]; rfl
theorem awake_ok (H : AH) : FnE look 8 [] H fun r H' => r = .bool true ∧ H' = H := fnE_ext (show look.ext 8 = some xTrue from rfl) rfl
theorem known_ok (H : AH) : FnE look 5 [] H fun r H' => r = .bool true ∧ H' = H := fnE_ext (show look.ext 5 = some xTrue from rfl) rfl
/-! caulker/caulkerlaw07.PlaceChooses: parameters [22, 23, 3], temporaries 84 -/
noncomputable def f3body : Code := bodyN look 3
/- law.go:11 -/
noncomputable def f3r0 : K2 :=
  .mv (.con (.bool false)) (some (sOf 6)) <|
  .done
noncomputable def f3r1_6 : K2 := .ln (fun xs _ => pickF xs) [(tO 18), (.con (.bool true)), (tO 21)] (some (sOf 22)) <|
  .done
noncomputable def f3r1_5 : K2 := .gd (sOf 18) false (some (sOf 21)) (.p2 (binF .gtr (evBin look .gtr 3 (.tmp 20) (.const (.int .i64 (12))))) (tO 20) (.con (.int .i64 (12))) (some (sOf 21)) <|
  f3r1_6) f3r1_6
noncomputable def f3r1_4 : K2 := .gd (sOf 18) false (some (sOf 20)) (.ln (fun xs H => fstO (builtinF .len look [23] xs H)) [(tO 19)] (some (sOf 20)) <|
  f3r1_5) f3r1_5
/- law.go:12 -/
noncomputable def f3r1 : K2 :=
  .mv (tO 0) (some (sOf 15)) <|
  .ln (fun xs H => fstO (builtinF .len look [22] xs H)) [(tO 15)] (some (sOf 16)) <|
  .p2 (binF .gtr (evBin look .gtr 3 (.tmp 16) (.const (.int .i64 (12))))) (tO 16) (.con (.int .i64 (12))) (some (sOf 17)) <|
  .mv (tO 17) (some (sOf 18)) <|
  .gd (sOf 18) false (some (sOf 19)) (.mv (tO 1) (some (sOf 19)) <|
  f3r1_4) f3r1_4
/- law.go:13 -/
noncomputable def f3r2 : K2 :=
  .cl false 8 [] (some (sOf 23)) <|
  .mv (tO 23) (some (sOf 6)) <|
  .done
/- law.go:15 -/
noncomputable def f3r3 : K2 :=
  .mv (tO 0) (some (sOf 24)) <|
  .cl false 9 [(tO 24)] (some (sOf 25)) <|
  .mv (tO 1) (some (sOf 26)) <|
  .cl false 10 [(tO 26)] (some (sOf 27)) <|
  .mv (tO 25) (some (sOf 7)) <|
  .mv (tO 27) (some (sOf 8)) <|
  .done
/- law.go:16 -/
noncomputable def f3r4 : K2 :=
  .mv (tO 7) (some (sOf 29)) <|
  .mv (tO 8) (some (sOf 30)) <|
  .mv (tO 2) (some (sOf 31)) <|
  .cl false 11 [(tO 29), (tO 30), (tO 31)] (some (sOf 32)) <|
  .mv (tO 32) (some (sOf 28)) <|
  .p1 (exN 0) (tO 28) (some (sOf 33)) <|
  .p1 (exN 1) (tO 28) (some (sOf 34)) <|
  .mv (tO 33) (some (sOf 9)) <|
  .mv (tO 34) (some (sOf 10)) <|
  .done
/- law.go:17 -/
noncomputable def f3r5 : K2 :=
  .mv (tO 0) (some (sOf 36)) <|
  .mv (tO 1) (some (sOf 37)) <|
  .mv (tO 2) (some (sOf 38)) <|
  .cl false 12 [(tO 36), (tO 37), (tO 38)] (some (sOf 39)) <|
  .mv (tO 39) (some (sOf 35)) <|
  .p1 (exN 0) (tO 35) (some (sOf 40)) <|
  .p1 (exN 1) (tO 35) (some (sOf 41)) <|
  .mv (tO 40) (some (sOf 11)) <|
  .mv (tO 41) (some (sOf 12)) <|
  .done
noncomputable def f3r6_17 : K2 := .ln (fun xs _ => pickF xs) [(tO 50), (tO 59), (.con (.bool false))] (some (sOf 60)) <|
  .mv (tO 60) (some (sOf 13)) <|
  .done
noncomputable def f3r6_16 : K2 := .gd (sOf 50) true (some (sOf 59)) (.p2 (binF .eql (evBin look .eql 27 (.tmp 54) (.tmp 58))) (tO 54) (tO 58) (some (sOf 59)) <|
  f3r6_17) f3r6_17
noncomputable def f3r6_15 : K2 := .gd (sOf 50) true (some (sOf 58)) (.cl false 15 [(tO 55), (tO 56), (tO 57)] (some (sOf 58)) <|
  f3r6_16) f3r6_16
noncomputable def f3r6_14 : K2 := .gd (sOf 50) true (some (sOf 57)) (.mv (tO 2) (some (sOf 57)) <|
  f3r6_15) f3r6_15
noncomputable def f3r6_13 : K2 := .gd (sOf 50) true (some (sOf 56)) (.mv (tO 1) (some (sOf 56)) <|
  f3r6_14) f3r6_14
noncomputable def f3r6_12 : K2 := .gd (sOf 50) true (some (sOf 55)) (.mv (tO 0) (some (sOf 55)) <|
  f3r6_13) f3r6_13
noncomputable def f3r6_11 : K2 := .gd (sOf 50) true (some (sOf 54)) (.cl false 14 [(tO 51), (tO 52), (tO 53)] (some (sOf 54)) <|
  f3r6_12) f3r6_12
noncomputable def f3r6_10 : K2 := .gd (sOf 50) true (some (sOf 53)) (.mv (tO 2) (some (sOf 53)) <|
  f3r6_11) f3r6_11
noncomputable def f3r6_9 : K2 := .gd (sOf 50) true (some (sOf 52)) (.mv (tO 8) (some (sOf 52)) <|
  f3r6_10) f3r6_10
noncomputable def f3r6_6 : K2 := .ln (fun xs _ => pickF xs) [(tO 45), (tO 48), (.con (.bool false))] (some (sOf 49)) <|
  .mv (tO 49) (some (sOf 50)) <|
  .gd (sOf 50) true (some (sOf 51)) (.mv (tO 7) (some (sOf 51)) <|
  f3r6_9) f3r6_9
noncomputable def f3r6_5 : K2 := .gd (sOf 45) true (some (sOf 48)) (.p2 (binF .eql (evBin look .eql 27 (.tmp 46) (.tmp 47))) (tO 46) (tO 47) (some (sOf 48)) <|
  f3r6_6) f3r6_6
noncomputable def f3r6_4 : K2 := .gd (sOf 45) true (some (sOf 47)) (.mv (tO 12) (some (sOf 47)) <|
  f3r6_5) f3r6_5
/- law.go:18 -/
noncomputable def f3r6 : K2 :=
  .mv (tO 9) (some (sOf 42)) <|
  .mv (tO 11) (some (sOf 43)) <|
  .cl false 13 [(tO 42), (tO 43)] (some (sOf 44)) <|
  .mv (tO 44) (some (sOf 45)) <|
  .gd (sOf 45) true (some (sOf 46)) (.mv (tO 10) (some (sOf 46)) <|
  f3r6_4) f3r6_4
/- law.go:19 -/
noncomputable def f3r7 : K2 :=
  .mv (.con (.int .i64 (0))) (some (sOf 14)) <|
  .done
/- law.go:19 -/
noncomputable def f3r8 : K2 :=
  .mv (tO 14) (some (sOf 61)) <|
  .mv (tO 9) (some (sOf 62)) <|
  .ln (fun xs H => fstO (builtinF .len look [22] xs H)) [(tO 62)] (some (sOf 63)) <|
  .p2 (binF .lss (evBin look .lss 3 (.tmp 61) (.tmp 63))) (tO 61) (tO 63) (some (sOf 64)) <|
  .done
/- law.go:20 -/
noncomputable def f3r9 : K2 :=
  .mv (tO 9) (some (sOf 67)) <|
  .mv (tO 14) (some (sOf 68)) <|
  .p2 (ixS 1) (tO 67) (tO 68) (some (sOf 69)) <|
  .st false (st1 look 3) (tO 69) (.con (.int .i64 (-9))) none <|
  .done
/- law.go:19 -/
noncomputable def f3r10 : K2 :=
  .mv (tO 14) (some (sOf 65)) <|
  .p2 (binF .add (evBin look .add 3 (.tmp 65) (.const (.int .i64 (1))))) (tO 65) (.con (.int .i64 (1))) (some (sOf 66)) <|
  .mv (tO 66) (some (sOf 14)) <|
  .done
noncomputable def f3l0 : C2 := (.seq (.seq (.reg f3r8)
  (.cond (tO 64) .skip (.exit 0)))
  (.seq (.block 1 (.reg f3r9))
  (.reg f3r10)))
noncomputable def f3b0 : Code := lpN f3body 0
theorem f3l0_eq : comp look f3b0 = f3l0 := by kernel_rfl
noncomputable def f3r11_12 : K2 := .ln (fun xs _ => pickF xs) [(tO 81), (tO 82), (.con (.bool false))] (some (sOf 83)) <|
  .mv (tO 83) (some (sOf 6)) <|
  .done
noncomputable def f3r11_9 : K2 := .ln (fun xs _ => pickF xs) [(tO 76), (tO 79), (.con (.bool false))] (some (sOf 80)) <|
  .mv (tO 80) (some (sOf 81)) <|
  .gd (sOf 81) true (some (sOf 82)) (.cl false 8 [] (some (sOf 82)) <|
  f3r11_12) f3r11_12
noncomputable def f3r11_8 : K2 := .gd (sOf 76) true (some (sOf 79)) (.cl false 17 [(tO 77), (tO 78)] (some (sOf 79)) <|
  f3r11_9) f3r11_9
noncomputable def f3r11_7 : K2 := .gd (sOf 76) true (some (sOf 78)) (.mv (tO 1) (some (sOf 78)) <|
  f3r11_8) f3r11_8
noncomputable def f3r11_4 : K2 := .ln (fun xs _ => pickF xs) [(tO 71), (tO 74), (.con (.bool false))] (some (sOf 75)) <|
  .mv (tO 75) (some (sOf 76)) <|
  .gd (sOf 76) true (some (sOf 77)) (.mv (tO 8) (some (sOf 77)) <|
  f3r11_7) f3r11_7
noncomputable def f3r11_3 : K2 := .gd (sOf 71) true (some (sOf 74)) (.cl false 16 [(tO 72), (tO 73)] (some (sOf 74)) <|
  f3r11_4) f3r11_4
noncomputable def f3r11_2 : K2 := .gd (sOf 71) true (some (sOf 73)) (.mv (tO 0) (some (sOf 73)) <|
  f3r11_3) f3r11_3
/- law.go:22 -/
noncomputable def f3r11 : K2 :=
  .mv (tO 13) (some (sOf 70)) <|
  .mv (tO 70) (some (sOf 71)) <|
  .gd (sOf 71) true (some (sOf 72)) (.mv (tO 7) (some (sOf 72)) <|
  f3r11_2) f3r11_2
noncomputable def f3c : C2 := (.seq (.reg f3r0)
  (.seq (.seq (.reg f3r1)
  (.cond (tO 22) (.seq (.reg f3r2)
  .ret) .skip))
  (.seq (.reg f3r3)
  (.seq (.reg f3r4)
  (.seq (.reg f3r5)
  (.seq (.reg f3r6)
  (.seq (.seq (.reg f3r7)
  (.block 0 (.loop f3b0)))
  (.seq (.reg f3r11)
  .ret))))))))
theorem f3_eq : fnF look 3 = some ⟨84, f3c, [.tmp 6]⟩ := by kernel_rfl

/-! caulker/caulkerlaw07.PlaceMany: parameters [22, 23, 3], temporaries 61 -/
noncomputable def f4body : Code := bodyN look 4
/- law.go:26 -/
noncomputable def f4r0 : K2 :=
  .mv (.con (.bool false)) (some (sOf 6)) <|
  .done
noncomputable def f4r1_6 : K2 := .ln (fun xs _ => pickF xs) [(tO 16), (.con (.bool true)), (tO 19)] (some (sOf 20)) <|
  .done
noncomputable def f4r1_5 : K2 := .gd (sOf 16) false (some (sOf 19)) (.p2 (binF .gtr (evBin look .gtr 3 (.tmp 18) (.const (.int .i64 (12))))) (tO 18) (.con (.int .i64 (12))) (some (sOf 19)) <|
  f4r1_6) f4r1_6
noncomputable def f4r1_4 : K2 := .gd (sOf 16) false (some (sOf 18)) (.ln (fun xs H => fstO (builtinF .len look [23] xs H)) [(tO 17)] (some (sOf 18)) <|
  f4r1_5) f4r1_5
/- law.go:27 -/
noncomputable def f4r1 : K2 :=
  .mv (tO 0) (some (sOf 13)) <|
  .ln (fun xs H => fstO (builtinF .len look [22] xs H)) [(tO 13)] (some (sOf 14)) <|
  .p2 (binF .gtr (evBin look .gtr 3 (.tmp 14) (.const (.int .i64 (12))))) (tO 14) (.con (.int .i64 (12))) (some (sOf 15)) <|
  .mv (tO 15) (some (sOf 16)) <|
  .gd (sOf 16) false (some (sOf 17)) (.mv (tO 1) (some (sOf 17)) <|
  f4r1_4) f4r1_4
/- law.go:28 -/
noncomputable def f4r2 : K2 :=
  .cl false 8 [] (some (sOf 21)) <|
  .mv (tO 21) (some (sOf 6)) <|
  .done
/- law.go:30 -/
noncomputable def f4r3 : K2 :=
  .mv (tO 0) (some (sOf 22)) <|
  .cl false 9 [(tO 22)] (some (sOf 23)) <|
  .mv (tO 1) (some (sOf 24)) <|
  .cl false 10 [(tO 24)] (some (sOf 25)) <|
  .mv (tO 23) (some (sOf 7)) <|
  .mv (tO 25) (some (sOf 8)) <|
  .done
/- law.go:31 -/
noncomputable def f4r4 : K2 :=
  .mv (tO 7) (some (sOf 27)) <|
  .mv (tO 8) (some (sOf 28)) <|
  .mv (tO 2) (some (sOf 29)) <|
  .cl false 18 [(tO 27), (tO 28), (tO 29)] (some (sOf 30)) <|
  .mv (tO 30) (some (sOf 26)) <|
  .p1 (exN 0) (tO 26) (some (sOf 31)) <|
  .p1 (exN 1) (tO 26) (some (sOf 32)) <|
  .mv (tO 31) (some (sOf 9)) <|
  .mv (tO 32) (some (sOf 10)) <|
  .done
/- law.go:32 -/
noncomputable def f4r5 : K2 :=
  .mv (tO 0) (some (sOf 34)) <|
  .mv (tO 1) (some (sOf 35)) <|
  .mv (tO 2) (some (sOf 36)) <|
  .cl false 19 [(tO 34), (tO 35), (tO 36)] (some (sOf 37)) <|
  .mv (tO 37) (some (sOf 33)) <|
  .p1 (exN 0) (tO 33) (some (sOf 38)) <|
  .p1 (exN 1) (tO 33) (some (sOf 39)) <|
  .mv (tO 38) (some (sOf 11)) <|
  .mv (tO 39) (some (sOf 12)) <|
  .done
noncomputable def f4r6_19 : K2 := .ln (fun xs _ => pickF xs) [(tO 58), (tO 59), (.con (.bool false))] (some (sOf 60)) <|
  .mv (tO 60) (some (sOf 6)) <|
  .done
noncomputable def f4r6_16 : K2 := .ln (fun xs _ => pickF xs) [(tO 53), (tO 56), (.con (.bool false))] (some (sOf 57)) <|
  .mv (tO 57) (some (sOf 58)) <|
  .gd (sOf 58) true (some (sOf 59)) (.cl false 8 [] (some (sOf 59)) <|
  f4r6_19) f4r6_19
noncomputable def f4r6_15 : K2 := .gd (sOf 53) true (some (sOf 56)) (.cl false 17 [(tO 54), (tO 55)] (some (sOf 56)) <|
  f4r6_16) f4r6_16
noncomputable def f4r6_14 : K2 := .gd (sOf 53) true (some (sOf 55)) (.mv (tO 1) (some (sOf 55)) <|
  f4r6_15) f4r6_15
noncomputable def f4r6_11 : K2 := .ln (fun xs _ => pickF xs) [(tO 48), (tO 51), (.con (.bool false))] (some (sOf 52)) <|
  .mv (tO 52) (some (sOf 53)) <|
  .gd (sOf 53) true (some (sOf 54)) (.mv (tO 8) (some (sOf 54)) <|
  f4r6_14) f4r6_14
noncomputable def f4r6_10 : K2 := .gd (sOf 48) true (some (sOf 51)) (.cl false 16 [(tO 49), (tO 50)] (some (sOf 51)) <|
  f4r6_11) f4r6_11
noncomputable def f4r6_9 : K2 := .gd (sOf 48) true (some (sOf 50)) (.mv (tO 0) (some (sOf 50)) <|
  f4r6_10) f4r6_10
noncomputable def f4r6_6 : K2 := .ln (fun xs _ => pickF xs) [(tO 43), (tO 46), (.con (.bool false))] (some (sOf 47)) <|
  .mv (tO 47) (some (sOf 48)) <|
  .gd (sOf 48) true (some (sOf 49)) (.mv (tO 7) (some (sOf 49)) <|
  f4r6_9) f4r6_9
noncomputable def f4r6_5 : K2 := .gd (sOf 43) true (some (sOf 46)) (.p2 (binF .eql (evBin look .eql 27 (.tmp 44) (.tmp 45))) (tO 44) (tO 45) (some (sOf 46)) <|
  f4r6_6) f4r6_6
noncomputable def f4r6_4 : K2 := .gd (sOf 43) true (some (sOf 45)) (.mv (tO 12) (some (sOf 45)) <|
  f4r6_5) f4r6_5
/- law.go:33 -/
noncomputable def f4r6 : K2 :=
  .mv (tO 9) (some (sOf 40)) <|
  .mv (tO 11) (some (sOf 41)) <|
  .p2 (binF .eql (evBin look .eql 3 (.tmp 40) (.tmp 41))) (tO 40) (tO 41) (some (sOf 42)) <|
  .mv (tO 42) (some (sOf 43)) <|
  .gd (sOf 43) true (some (sOf 44)) (.mv (tO 10) (some (sOf 44)) <|
  f4r6_4) f4r6_4
noncomputable def f4c : C2 := (.seq (.reg f4r0)
  (.seq (.seq (.reg f4r1)
  (.cond (tO 20) (.seq (.reg f4r2)
  .ret) .skip))
  (.seq (.reg f4r3)
  (.seq (.reg f4r4)
  (.seq (.reg f4r5)
  (.seq (.reg f4r6)
  .ret))))))
theorem f4_eq : fnF look 4 = some ⟨61, f4c, [.tmp 6]⟩ := by kernel_rfl

/-! caulker/caulkerlaw07.PlaceBest: parameters [3, 22, 23, 3], temporaries 170 -/
noncomputable def f6body : Code := bodyN look 6
/- outright.go:61 -/
noncomputable def f6r0 : K2 :=
  .mv (.con (.bool false)) (some (sOf 8)) <|
  .done
/- outright.go:62 -/
noncomputable def f6r1 : K2 :=
  .cl false 5 [] (some (sOf 23)) <|
  .mv (tO 23) (some (sOf 9)) <|
  .done
/- outright.go:63 -/
noncomputable def f6r2 : K2 :=
  .mv (tO 0) (some (sOf 25)) <|
  .mv (tO 1) (some (sOf 26)) <|
  .mv (tO 2) (some (sOf 27)) <|
  .cl false 23 [(tO 25), (tO 26), (tO 27)] (some (sOf 28)) <|
  .mv (tO 28) (some (sOf 24)) <|
  .p1 (exN 0) (tO 24) (some (sOf 29)) <|
  .p1 (exN 1) (tO 24) (some (sOf 30)) <|
  .mv (tO 29) (some (sOf 10)) <|
  .mv (tO 30) (some (sOf 11)) <|
  .done
/- outright.go:64 -/
noncomputable def f6r3 : K2 :=
  .mv (tO 3) (some (sOf 31)) <|
  .cl false 24 [(tO 31), (.con (.int .i64 (3)))] (some (sOf 32)) <|
  .p2 (binF .add (evBin look .add 3 (.const (.int .i64 (1))) (.tmp 32))) (.con (.int .i64 (1))) (tO 32) (some (sOf 33)) <|
  .mv (tO 33) (some (sOf 3)) <|
  .done
/- outright.go:65 -/
noncomputable def f6r4 : K2 :=
  .mv (.con (.int .i64 (0))) (some (sOf 12)) <|
  .mv (.con (.int .i64 (0))) (some (sOf 13)) <|
  .done
/- outright.go:66 -/
noncomputable def f6r5 : K2 :=
  .mv (.con (.int .i64 (0))) (some (sOf 14)) <|
  .done
/- outright.go:66 -/
noncomputable def f6r6 : K2 :=
  .mv (tO 14) (some (sOf 34)) <|
  .mv (tO 10) (some (sOf 35)) <|
  .ln (fun xs H => fstO (builtinF .len look [22] xs H)) [(tO 35)] (some (sOf 36)) <|
  .p2 (binF .lss (evBin look .lss 3 (.tmp 34) (.tmp 36))) (tO 34) (tO 36) (some (sOf 37)) <|
  .done
/- outright.go:67 -/
noncomputable def f6r7 : K2 :=
  .mv (tO 11) (some (sOf 40)) <|
  .mv (tO 14) (some (sOf 41)) <|
  .p2 (ixS 1) (tO 40) (tO 41) (some (sOf 42)) <|
  .r1 ld1 (tO 42) (some (sOf 43)) <|
  .done
/- outright.go:68 -/
noncomputable def f6r8 : K2 :=
  .mv (tO 12) (some (sOf 44)) <|
  .p2 (binF .add (evBin look .add 3 (.tmp 44) (.const (.int .i64 (1))))) (tO 44) (.con (.int .i64 (1))) (some (sOf 45)) <|
  .mv (tO 45) (some (sOf 12)) <|
  .done
noncomputable def f6r9_9 : K2 := .ln (fun xs _ => pickF xs) [(tO 50), (tO 55), (.con (.bool false))] (some (sOf 56)) <|
  .done
noncomputable def f6r9_8 : K2 := .gd (sOf 50) true (some (sOf 55)) (.p2 (binF .gtr (evBin look .gtr 3 (.tmp 54) (.const (.int .i64 (0))))) (tO 54) (.con (.int .i64 (0))) (some (sOf 55)) <|
  f6r9_9) f6r9_9
noncomputable def f6r9_7 : K2 := .gd (sOf 50) true (some (sOf 54)) (.r1 ld1 (tO 53) (some (sOf 54)) <|
  f6r9_8) f6r9_8
noncomputable def f6r9_6 : K2 := .gd (sOf 50) true (some (sOf 53)) (.p2 (ixS 1) (tO 51) (tO 52) (some (sOf 53)) <|
  f6r9_7) f6r9_7
noncomputable def f6r9_5 : K2 := .gd (sOf 50) true (some (sOf 52)) (.mv (tO 14) (some (sOf 52)) <|
  f6r9_6) f6r9_6
/- outright.go:70 -/
noncomputable def f6r9 : K2 :=
  .mv (tO 11) (some (sOf 46)) <|
  .mv (tO 14) (some (sOf 47)) <|
  .p2 (ixS 1) (tO 46) (tO 47) (some (sOf 48)) <|
  .r1 ld1 (tO 48) (some (sOf 49)) <|
  .mv (tO 49) (some (sOf 50)) <|
  .gd (sOf 50) true (some (sOf 51)) (.mv (tO 10) (some (sOf 51)) <|
  f6r9_5) f6r9_5
/- outright.go:71 -/
noncomputable def f6r10 : K2 :=
  .mv (tO 13) (some (sOf 57)) <|
  .p2 (binF .add (evBin look .add 3 (.tmp 57) (.const (.int .i64 (1))))) (tO 57) (.con (.int .i64 (1))) (some (sOf 58)) <|
  .mv (tO 58) (some (sOf 13)) <|
  .done
/- outright.go:66 -/
noncomputable def f6r11 : K2 :=
  .mv (tO 14) (some (sOf 38)) <|
  .p2 (binF .add (evBin look .add 3 (.tmp 38) (.const (.int .i64 (1))))) (tO 38) (.con (.int .i64 (1))) (some (sOf 39)) <|
  .mv (tO 39) (some (sOf 14)) <|
  .done
noncomputable def f6l0 : C2 := (.seq (.seq (.reg f6r6)
  (.cond (tO 37) .skip (.exit 0)))
  (.seq (.block 1 (.seq (.seq (.reg f6r7)
  (.cond (tO 43) (.reg f6r8) .skip))
  (.seq (.reg f6r9)
  (.cond (tO 56) (.reg f6r10) .skip))))
  (.reg f6r11)))
noncomputable def f6b0 : Code := lpN f6body 0
theorem f6l0_eq : comp look f6b0 = f6l0 := by kernel_rfl
/- outright.go:74 -/
noncomputable def f6r12 : K2 :=
  .mv (tO 3) (some (sOf 59)) <|
  .mv (tO 12) (some (sOf 60)) <|
  .ln (fun xs H => fstO (builtinF .min look [3, 3] xs H)) [(tO 59), (tO 60)] (some (sOf 61)) <|
  .mv (tO 61) (some (sOf 15)) <|
  .done
/- outright.go:75 -/
noncomputable def f6r13 : K2 :=
  .mv (tO 10) (some (sOf 63)) <|
  .mv (tO 11) (some (sOf 64)) <|
  .mv (tO 3) (some (sOf 65)) <|
  .cl false 11 [(tO 63), (tO 64), (tO 65)] (some (sOf 66)) <|
  .mv (tO 66) (some (sOf 62)) <|
  .p1 (exN 0) (tO 62) (some (sOf 67)) <|
  .p1 (exN 1) (tO 62) (some (sOf 68)) <|
  .mv (tO 67) (some (sOf 16)) <|
  .mv (tO 68) (some (sOf 17)) <|
  .done
noncomputable def f6r14_5 : K2 := .ln (fun xs _ => pickF xs) [(tO 71), (.con (.bool true)), (tO 74)] (some (sOf 75)) <|
  .done
noncomputable def f6r14_4 : K2 := .gd (sOf 71) false (some (sOf 74)) (.p2 (binF .lss (evBin look .lss 3 (.tmp 72) (.tmp 73))) (tO 72) (tO 73) (some (sOf 74)) <|
  f6r14_5) f6r14_5
noncomputable def f6r14_3 : K2 := .gd (sOf 71) false (some (sOf 73)) (.mv (tO 15) (some (sOf 73)) <|
  f6r14_4) f6r14_4
/- outright.go:76 -/
noncomputable def f6r14 : K2 :=
  .mv (tO 15) (some (sOf 69)) <|
  .p2 (binF .eql (evBin look .eql 3 (.tmp 69) (.const (.int .i64 (0))))) (tO 69) (.con (.int .i64 (0))) (some (sOf 70)) <|
  .mv (tO 70) (some (sOf 71)) <|
  .gd (sOf 71) false (some (sOf 72)) (.mv (tO 13) (some (sOf 72)) <|
  f6r14_3) f6r14_3
noncomputable def f6r15_8 : K2 := .ln (fun xs _ => pickF xs) [(tO 81), (tO 84), (.con (.bool false))] (some (sOf 85)) <|
  .mv (tO 85) (some (sOf 8)) <|
  .done
noncomputable def f6r15_7 : K2 := .gd (sOf 81) true (some (sOf 84)) (.p2 (binF .eql (evBin look .eql 3 (.tmp 83) (.const (.int .i64 (0))))) (tO 83) (.con (.int .i64 (0))) (some (sOf 84)) <|
  f6r15_8) f6r15_8
noncomputable def f6r15_6 : K2 := .gd (sOf 81) true (some (sOf 83)) (.ln (fun xs H => fstO (builtinF .len look [22] xs H)) [(tO 82)] (some (sOf 83)) <|
  f6r15_7) f6r15_7
noncomputable def f6r15_3 : K2 := .ln (fun xs _ => pickF xs) [(tO 77), (tO 79), (.con (.bool false))] (some (sOf 80)) <|
  .mv (tO 80) (some (sOf 81)) <|
  .gd (sOf 81) true (some (sOf 82)) (.mv (tO 16) (some (sOf 82)) <|
  f6r15_6) f6r15_6
noncomputable def f6r15_2 : K2 := .gd (sOf 77) true (some (sOf 79)) (.p2 (binF .eql (evBin look .eql 27 (.tmp 78) (.const (.int .i64 (15))))) (tO 78) (.con (.int .i64 (15))) (some (sOf 79)) <|
  f6r15_3) f6r15_3
/- outright.go:77 -/
noncomputable def f6r15 : K2 :=
  .mv (tO 9) (some (sOf 76)) <|
  .mv (tO 76) (some (sOf 77)) <|
  .gd (sOf 77) true (some (sOf 78)) (.mv (tO 17) (some (sOf 78)) <|
  f6r15_2) f6r15_2
noncomputable def f6r16_6 : K2 := .ln (fun xs _ => pickF xs) [(tO 88), (.con (.bool true)), (tO 92)] (some (sOf 93)) <|
  .done
noncomputable def f6r16_5 : K2 := .gd (sOf 88) false (some (sOf 92)) (.p2 (binF .neq (evBin look .neq 3 (.tmp 90) (.tmp 91))) (tO 90) (tO 91) (some (sOf 92)) <|
  f6r16_6) f6r16_6
noncomputable def f6r16_4 : K2 := .gd (sOf 88) false (some (sOf 91)) (.mv (tO 15) (some (sOf 91)) <|
  f6r16_5) f6r16_5
noncomputable def f6r16_3 : K2 := .gd (sOf 88) false (some (sOf 90)) (.ln (fun xs H => fstO (builtinF .len look [22] xs H)) [(tO 89)] (some (sOf 90)) <|
  f6r16_4) f6r16_4
/- outright.go:79 -/
noncomputable def f6r16 : K2 :=
  .mv (tO 17) (some (sOf 86)) <|
  .p2 (binF .neq (evBin look .neq 27 (.tmp 86) (.const (.int .i64 (0))))) (tO 86) (.con (.int .i64 (0))) (some (sOf 87)) <|
  .mv (tO 87) (some (sOf 88)) <|
  .gd (sOf 88) false (some (sOf 89)) (.mv (tO 16) (some (sOf 89)) <|
  f6r16_3) f6r16_3
/- outright.go:80 -/
noncomputable def f6r17 : K2 :=
  .mv (.con (.bool false)) (some (sOf 8)) <|
  .done
/- outright.go:82 -/
noncomputable def f6r18 : K2 :=
  .mv (tO 10) (some (sOf 94)) <|
  .ln (fun xs H => fstO (builtinF .len look [22] xs H)) [(tO 94)] (some (sOf 95)) <|
  .hn false (fun xs H => evMakeSlice look 23 (hd xs) (hd (tl xs)) H) [(tO 95), (tO 95)] (some (sOf 96)) <|
  .mv (tO 96) (some (sOf 18)) <|
  .done
/- outright.go:83 -/
noncomputable def f6r19 : K2 :=
  .mv (.con (.int .i64 (4096))) (some (sOf 19)) <|
  .done
/- outright.go:84 -/
noncomputable def f6r20 : K2 :=
  .mv (.con (.int .i64 (0))) (some (sOf 20)) <|
  .done
/- outright.go:84 -/
noncomputable def f6r21 : K2 :=
  .mv (tO 20) (some (sOf 97)) <|
  .mv (tO 16) (some (sOf 98)) <|
  .ln (fun xs H => fstO (builtinF .len look [22] xs H)) [(tO 98)] (some (sOf 99)) <|
  .p2 (binF .lss (evBin look .lss 3 (.tmp 97) (.tmp 99))) (tO 97) (tO 99) (some (sOf 100)) <|
  .done
/- outright.go:85 -/
noncomputable def f6r22 : K2 :=
  .mv (tO 16) (some (sOf 103)) <|
  .mv (tO 20) (some (sOf 104)) <|
  .p2 (ixS 1) (tO 103) (tO 104) (some (sOf 105)) <|
  .r1 ld1 (tO 105) (some (sOf 106)) <|
  .mv (tO 106) (some (sOf 21)) <|
  .done
noncomputable def f6r23_26 : K2 := .ln (fun xs _ => pickF xs) [(tO 129), (.con (.bool true)), (tO 133)] (some (sOf 134)) <|
  .done
noncomputable def f6r23_25 : K2 := .gd (sOf 129) false (some (sOf 133)) (.r1 ld1 (tO 132) (some (sOf 133)) <|
  f6r23_26) f6r23_26
noncomputable def f6r23_24 : K2 := .gd (sOf 129) false (some (sOf 132)) (.p2 (ixS 1) (tO 130) (tO 131) (some (sOf 132)) <|
  f6r23_25) f6r23_25
noncomputable def f6r23_23 : K2 := .gd (sOf 129) false (some (sOf 131)) (.mv (tO 21) (some (sOf 131)) <|
  f6r23_24) f6r23_24
noncomputable def f6r23_20 : K2 := .ln (fun xs _ => pickF xs) [(tO 122), (.con (.bool true)), (tO 127)] (some (sOf 128)) <|
  .mv (tO 128) (some (sOf 129)) <|
  .gd (sOf 129) false (some (sOf 130)) (.mv (tO 18) (some (sOf 130)) <|
  f6r23_23) f6r23_23
noncomputable def f6r23_19 : K2 := .gd (sOf 122) false (some (sOf 127)) (.p2 (binF .lss (evBin look .lss 3 (.tmp 126) (.const (.int .i64 (1))))) (tO 126) (.con (.int .i64 (1))) (some (sOf 127)) <|
  f6r23_20) f6r23_20
noncomputable def f6r23_18 : K2 := .gd (sOf 122) false (some (sOf 126)) (.r1 ld1 (tO 125) (some (sOf 126)) <|
  f6r23_19) f6r23_19
noncomputable def f6r23_17 : K2 := .gd (sOf 122) false (some (sOf 125)) (.p2 (ixS 1) (tO 123) (tO 124) (some (sOf 125)) <|
  f6r23_18) f6r23_18
noncomputable def f6r23_16 : K2 := .gd (sOf 122) false (some (sOf 124)) (.mv (tO 21) (some (sOf 124)) <|
  f6r23_17) f6r23_17
noncomputable def f6r23_13 : K2 := .ln (fun xs _ => pickF xs) [(tO 115), (.con (.bool true)), (tO 120)] (some (sOf 121)) <|
  .mv (tO 121) (some (sOf 122)) <|
  .gd (sOf 122) false (some (sOf 123)) (.mv (tO 10) (some (sOf 123)) <|
  f6r23_16) f6r23_16
noncomputable def f6r23_12 : K2 := .gd (sOf 115) false (some (sOf 120)) (.p1 notF (tO 119) (some (sOf 120)) <|
  f6r23_13) f6r23_13
noncomputable def f6r23_11 : K2 := .gd (sOf 115) false (some (sOf 119)) (.r1 ld1 (tO 118) (some (sOf 119)) <|
  f6r23_12) f6r23_12
noncomputable def f6r23_10 : K2 := .gd (sOf 115) false (some (sOf 118)) (.p2 (ixS 1) (tO 116) (tO 117) (some (sOf 118)) <|
  f6r23_11) f6r23_11
noncomputable def f6r23_9 : K2 := .gd (sOf 115) false (some (sOf 117)) (.mv (tO 21) (some (sOf 117)) <|
  f6r23_10) f6r23_10
noncomputable def f6r23_6 : K2 := .ln (fun xs _ => pickF xs) [(tO 109), (.con (.bool true)), (tO 113)] (some (sOf 114)) <|
  .mv (tO 114) (some (sOf 115)) <|
  .gd (sOf 115) false (some (sOf 116)) (.mv (tO 11) (some (sOf 116)) <|
  f6r23_9) f6r23_9
noncomputable def f6r23_5 : K2 := .gd (sOf 109) false (some (sOf 113)) (.p2 (binF .geq (evBin look .geq 3 (.tmp 110) (.tmp 112))) (tO 110) (tO 112) (some (sOf 113)) <|
  f6r23_6) f6r23_6
noncomputable def f6r23_4 : K2 := .gd (sOf 109) false (some (sOf 112)) (.ln (fun xs H => fstO (builtinF .len look [22] xs H)) [(tO 111)] (some (sOf 112)) <|
  f6r23_5) f6r23_5
noncomputable def f6r23_3 : K2 := .gd (sOf 109) false (some (sOf 111)) (.mv (tO 10) (some (sOf 111)) <|
  f6r23_4) f6r23_4
/- outright.go:86 -/
noncomputable def f6r23 : K2 :=
  .mv (tO 21) (some (sOf 107)) <|
  .p2 (binF .lss (evBin look .lss 3 (.tmp 107) (.const (.int .i64 (0))))) (tO 107) (.con (.int .i64 (0))) (some (sOf 108)) <|
  .mv (tO 108) (some (sOf 109)) <|
  .gd (sOf 109) false (some (sOf 110)) (.mv (tO 21) (some (sOf 110)) <|
  f6r23_3) f6r23_3
/- outright.go:87 -/
noncomputable def f6r24 : K2 :=
  .mv (.con (.bool false)) (some (sOf 8)) <|
  .done
/- outright.go:89 -/
noncomputable def f6r25 : K2 :=
  .mv (tO 18) (some (sOf 135)) <|
  .mv (tO 21) (some (sOf 136)) <|
  .p2 (ixS 1) (tO 135) (tO 136) (some (sOf 137)) <|
  .st false (st1 look 4) (tO 137) (.con (.bool true)) none <|
  .done
/- outright.go:90 -/
noncomputable def f6r26 : K2 :=
  .mv (tO 19) (some (sOf 138)) <|
  .mv (tO 10) (some (sOf 139)) <|
  .mv (tO 21) (some (sOf 140)) <|
  .p2 (ixS 1) (tO 139) (tO 140) (some (sOf 141)) <|
  .r1 ld1 (tO 141) (some (sOf 142)) <|
  .ln (fun xs H => fstO (builtinF .min look [3, 3] xs H)) [(tO 138), (tO 142)] (some (sOf 143)) <|
  .mv (tO 143) (some (sOf 19)) <|
  .done
/- outright.go:84 -/
noncomputable def f6r27 : K2 :=
  .mv (tO 20) (some (sOf 101)) <|
  .p2 (binF .add (evBin look .add 3 (.tmp 101) (.const (.int .i64 (1))))) (tO 101) (.con (.int .i64 (1))) (some (sOf 102)) <|
  .mv (tO 102) (some (sOf 20)) <|
  .done
noncomputable def f6l1 : C2 := (.seq (.seq (.reg f6r21)
  (.cond (tO 100) .skip (.exit 2)))
  (.seq (.block 3 (.seq (.reg f6r22)
  (.seq (.seq (.reg f6r23)
  (.cond (tO 134) (.seq (.reg f6r24)
  .ret) .skip))
  (.seq (.reg f6r25)
  (.reg f6r26)))))
  (.reg f6r27)))
noncomputable def f6b1 : Code := lpN f6body 1
theorem f6l1_eq : comp look f6b1 = f6l1 := by kernel_rfl
/- outright.go:92 -/
noncomputable def f6r28 : K2 :=
  .mv (.con (.int .i64 (0))) (some (sOf 22)) <|
  .done
/- outright.go:92 -/
noncomputable def f6r29 : K2 :=
  .mv (tO 22) (some (sOf 144)) <|
  .mv (tO 10) (some (sOf 145)) <|
  .ln (fun xs H => fstO (builtinF .len look [22] xs H)) [(tO 145)] (some (sOf 146)) <|
  .p2 (binF .lss (evBin look .lss 3 (.tmp 144) (.tmp 146))) (tO 144) (tO 146) (some (sOf 147)) <|
  .done
noncomputable def f6r30_17 : K2 := .ln (fun xs _ => pickF xs) [(tO 161), (tO 167), (.con (.bool false))] (some (sOf 168)) <|
  .done
noncomputable def f6r30_16 : K2 := .gd (sOf 161) true (some (sOf 167)) (.p2 (binF .gtr (evBin look .gtr 3 (.tmp 165) (.tmp 166))) (tO 165) (tO 166) (some (sOf 167)) <|
  f6r30_17) f6r30_17
noncomputable def f6r30_15 : K2 := .gd (sOf 161) true (some (sOf 166)) (.mv (tO 19) (some (sOf 166)) <|
  f6r30_16) f6r30_16
noncomputable def f6r30_14 : K2 := .gd (sOf 161) true (some (sOf 165)) (.r1 ld1 (tO 164) (some (sOf 165)) <|
  f6r30_15) f6r30_15
noncomputable def f6r30_13 : K2 := .gd (sOf 161) true (some (sOf 164)) (.p2 (ixS 1) (tO 162) (tO 163) (some (sOf 164)) <|
  f6r30_14) f6r30_14
noncomputable def f6r30_12 : K2 := .gd (sOf 161) true (some (sOf 163)) (.mv (tO 22) (some (sOf 163)) <|
  f6r30_13) f6r30_13
noncomputable def f6r30_9 : K2 := .ln (fun xs _ => pickF xs) [(tO 154), (tO 159), (.con (.bool false))] (some (sOf 160)) <|
  .mv (tO 160) (some (sOf 161)) <|
  .gd (sOf 161) true (some (sOf 162)) (.mv (tO 10) (some (sOf 162)) <|
  f6r30_12) f6r30_12
noncomputable def f6r30_8 : K2 := .gd (sOf 154) true (some (sOf 159)) (.p1 notF (tO 158) (some (sOf 159)) <|
  f6r30_9) f6r30_9
noncomputable def f6r30_7 : K2 := .gd (sOf 154) true (some (sOf 158)) (.r1 ld1 (tO 157) (some (sOf 158)) <|
  f6r30_8) f6r30_8
noncomputable def f6r30_6 : K2 := .gd (sOf 154) true (some (sOf 157)) (.p2 (ixS 1) (tO 155) (tO 156) (some (sOf 157)) <|
  f6r30_7) f6r30_7
noncomputable def f6r30_5 : K2 := .gd (sOf 154) true (some (sOf 156)) (.mv (tO 22) (some (sOf 156)) <|
  f6r30_6) f6r30_6
/- outright.go:93 -/
noncomputable def f6r30 : K2 :=
  .mv (tO 11) (some (sOf 150)) <|
  .mv (tO 22) (some (sOf 151)) <|
  .p2 (ixS 1) (tO 150) (tO 151) (some (sOf 152)) <|
  .r1 ld1 (tO 152) (some (sOf 153)) <|
  .mv (tO 153) (some (sOf 154)) <|
  .gd (sOf 154) true (some (sOf 155)) (.mv (tO 18) (some (sOf 155)) <|
  f6r30_5) f6r30_5
/- outright.go:94 -/
noncomputable def f6r31 : K2 :=
  .mv (.con (.bool false)) (some (sOf 8)) <|
  .done
/- outright.go:92 -/
noncomputable def f6r32 : K2 :=
  .mv (tO 22) (some (sOf 148)) <|
  .p2 (binF .add (evBin look .add 3 (.tmp 148) (.const (.int .i64 (1))))) (tO 148) (.con (.int .i64 (1))) (some (sOf 149)) <|
  .mv (tO 149) (some (sOf 22)) <|
  .done
noncomputable def f6l2 : C2 := (.seq (.seq (.reg f6r29)
  (.cond (tO 147) .skip (.exit 4)))
  (.seq (.block 5 (.seq (.reg f6r30)
  (.cond (tO 168) (.seq (.reg f6r31)
  .ret) .skip)))
  (.reg f6r32)))
noncomputable def f6b2 : Code := lpN f6body 2
theorem f6l2_eq : comp look f6b2 = f6l2 := by kernel_rfl
/- outright.go:97 -/
noncomputable def f6r33 : K2 :=
  .mv (tO 9) (some (sOf 169)) <|
  .mv (tO 169) (some (sOf 8)) <|
  .done
noncomputable def f6c : C2 := (.seq (.reg f6r0)
  (.seq (.reg f6r1)
  (.seq (.reg f6r2)
  (.seq (.reg f6r3)
  (.seq (.reg f6r4)
  (.seq (.seq (.reg f6r5)
  (.block 0 (.loop f6b0)))
  (.seq (.reg f6r12)
  (.seq (.reg f6r13)
  (.seq (.seq (.reg f6r14)
  (.cond (tO 75) (.seq (.reg f6r15)
  .ret) .skip))
  (.seq (.seq (.reg f6r16)
  (.cond (tO 93) (.seq (.reg f6r17)
  .ret) .skip))
  (.seq (.reg f6r18)
  (.seq (.reg f6r19)
  (.seq (.seq (.reg f6r20)
  (.block 2 (.loop f6b1)))
  (.seq (.seq (.reg f6r28)
  (.block 4 (.loop f6b2)))
  (.seq (.reg f6r33)
  .ret)))))))))))))))
theorem f6_eq : fnF look 6 = some ⟨170, f6c, [.tmp 8]⟩ := by kernel_rfl

/-! caulker/caulkerlaw07.PlaceMore: parameters [3, 22, 23, 3, 3, 3], temporaries 182 -/
noncomputable def f7body : Code := bodyN look 7
/- outright.go:101 -/
noncomputable def f7r0 : K2 :=
  .mv (.con (.bool false)) (some (sOf 12)) <|
  .done
/- outright.go:102 -/
noncomputable def f7r1 : K2 :=
  .cl false 8 [] (some (sOf 29)) <|
  .mv (tO 29) (some (sOf 13)) <|
  .done
/- outright.go:103 -/
noncomputable def f7r2 : K2 :=
  .mv (tO 0) (some (sOf 31)) <|
  .mv (tO 1) (some (sOf 32)) <|
  .mv (tO 2) (some (sOf 33)) <|
  .cl false 23 [(tO 31), (tO 32), (tO 33)] (some (sOf 34)) <|
  .mv (tO 34) (some (sOf 30)) <|
  .p1 (exN 0) (tO 30) (some (sOf 35)) <|
  .p1 (exN 1) (tO 30) (some (sOf 36)) <|
  .mv (tO 35) (some (sOf 14)) <|
  .mv (tO 36) (some (sOf 15)) <|
  .done
/- outright.go:104 -/
noncomputable def f7r3 : K2 :=
  .mv (tO 3) (some (sOf 37)) <|
  .cl false 24 [(tO 37), (.con (.int .i64 (3)))] (some (sOf 38)) <|
  .p2 (binF .add (evBin look .add 3 (.const (.int .i64 (1))) (.tmp 38))) (.con (.int .i64 (1))) (tO 38) (some (sOf 39)) <|
  .mv (tO 39) (some (sOf 3)) <|
  .done
/- outright.go:105 -/
noncomputable def f7r4 : K2 :=
  .mv (.con (.int .i64 (0))) (some (sOf 16)) <|
  .mv (.con (.int .i64 (0))) (some (sOf 17)) <|
  .done
/- outright.go:106 -/
noncomputable def f7r5 : K2 :=
  .mv (.con (.int .i64 (0))) (some (sOf 18)) <|
  .done
/- outright.go:106 -/
noncomputable def f7r6 : K2 :=
  .mv (tO 18) (some (sOf 40)) <|
  .mv (tO 14) (some (sOf 41)) <|
  .ln (fun xs H => fstO (builtinF .len look [22] xs H)) [(tO 41)] (some (sOf 42)) <|
  .p2 (binF .lss (evBin look .lss 3 (.tmp 40) (.tmp 42))) (tO 40) (tO 42) (some (sOf 43)) <|
  .done
/- outright.go:107 -/
noncomputable def f7r7 : K2 :=
  .mv (tO 14) (some (sOf 46)) <|
  .mv (tO 18) (some (sOf 47)) <|
  .mv (tO 14) (some (sOf 48)) <|
  .mv (tO 18) (some (sOf 49)) <|
  .p2 (ixS 1) (tO 48) (tO 49) (some (sOf 50)) <|
  .r1 ld1 (tO 50) (some (sOf 51)) <|
  .p2 (binF .rem (evBin look .rem 3 (.tmp 51) (.const (.int .i64 (201))))) (tO 51) (.con (.int .i64 (201))) (some (sOf 52)) <|
  .p2 (ixS 1) (tO 46) (tO 47) (some (sOf 53)) <|
  .st false (st1 look 3) (tO 53) (tO 52) none <|
  .done
/- outright.go:108 -/
noncomputable def f7r8 : K2 :=
  .mv (tO 15) (some (sOf 54)) <|
  .mv (tO 18) (some (sOf 55)) <|
  .p2 (ixS 1) (tO 54) (tO 55) (some (sOf 56)) <|
  .r1 ld1 (tO 56) (some (sOf 57)) <|
  .done
/- outright.go:109 -/
noncomputable def f7r9 : K2 :=
  .mv (tO 16) (some (sOf 58)) <|
  .mv (tO 14) (some (sOf 59)) <|
  .mv (tO 18) (some (sOf 60)) <|
  .p2 (ixS 1) (tO 59) (tO 60) (some (sOf 61)) <|
  .r1 ld1 (tO 61) (some (sOf 62)) <|
  .p2 (binF .add (evBin look .add 3 (.tmp 58) (.tmp 62))) (tO 58) (tO 62) (some (sOf 63)) <|
  .mv (tO 63) (some (sOf 16)) <|
  .done
/- outright.go:110 -/
noncomputable def f7r10 : K2 :=
  .mv (tO 17) (some (sOf 64)) <|
  .p2 (binF .add (evBin look .add 3 (.tmp 64) (.const (.int .i64 (1))))) (tO 64) (.con (.int .i64 (1))) (some (sOf 65)) <|
  .mv (tO 65) (some (sOf 17)) <|
  .done
/- outright.go:106 -/
noncomputable def f7r11 : K2 :=
  .mv (tO 18) (some (sOf 44)) <|
  .p2 (binF .add (evBin look .add 3 (.tmp 44) (.const (.int .i64 (1))))) (tO 44) (.con (.int .i64 (1))) (some (sOf 45)) <|
  .mv (tO 45) (some (sOf 18)) <|
  .done
noncomputable def f7l0 : C2 := (.seq (.seq (.reg f7r6)
  (.cond (tO 43) .skip (.exit 0)))
  (.seq (.block 1 (.seq (.reg f7r7)
  (.seq (.reg f7r8)
  (.cond (tO 57) (.seq (.reg f7r9)
  (.reg f7r10)) .skip))))
  (.reg f7r11)))
noncomputable def f7b0 : Code := lpN f7body 0
theorem f7l0_eq : comp look f7b0 = f7l0 := by kernel_rfl
/- outright.go:113 -/
noncomputable def f7r12 : K2 :=
  .mv (tO 14) (some (sOf 67)) <|
  .mv (tO 15) (some (sOf 68)) <|
  .mv (tO 3) (some (sOf 69)) <|
  .cl false 18 [(tO 67), (tO 68), (tO 69)] (some (sOf 70)) <|
  .mv (tO 70) (some (sOf 66)) <|
  .p1 (exN 0) (tO 66) (some (sOf 71)) <|
  .p1 (exN 1) (tO 66) (some (sOf 72)) <|
  .mv (tO 71) (some (sOf 19)) <|
  .mv (tO 72) (some (sOf 20)) <|
  .done
/- outright.go:114 -/
noncomputable def f7r13 : K2 :=
  .mv (tO 14) (some (sOf 74)) <|
  .mv (tO 15) (some (sOf 75)) <|
  .mv (tO 3) (some (sOf 76)) <|
  .cl false 11 [(tO 74), (tO 75), (tO 76)] (some (sOf 77)) <|
  .mv (tO 77) (some (sOf 73)) <|
  .p1 (exN 0) (tO 73) (some (sOf 78)) <|
  .p1 (exN 1) (tO 73) (some (sOf 79)) <|
  .mv (tO 78) (some (sOf 21)) <|
  .mv (tO 79) (some (sOf 22)) <|
  .done
noncomputable def f7r14_20 : K2 := .ln (fun xs _ => pickF xs) [(tO 98), (.con (.bool true)), (tO 100)] (some (sOf 101)) <|
  .done
noncomputable def f7r14_19 : K2 := .gd (sOf 98) false (some (sOf 100)) (.p2 (binF .lss (evBin look .lss 3 (.tmp 99) (.const (.int .i64 (0))))) (tO 99) (.con (.int .i64 (0))) (some (sOf 100)) <|
  f7r14_20) f7r14_20
noncomputable def f7r14_16 : K2 := .ln (fun xs _ => pickF xs) [(tO 89), (.con (.bool true)), (tO 96)] (some (sOf 97)) <|
  .mv (tO 97) (some (sOf 98)) <|
  .gd (sOf 98) false (some (sOf 99)) (.mv (tO 19) (some (sOf 99)) <|
  f7r14_19) f7r14_19
noncomputable def f7r14_15 : K2 := .gd (sOf 89) false (some (sOf 96)) (.p2 (binF .gtr (evBin look .gtr 3 (.tmp 94) (.tmp 95))) (tO 94) (tO 95) (some (sOf 96)) <|
  f7r14_16) f7r14_16
noncomputable def f7r14_14 : K2 := .gd (sOf 89) false (some (sOf 95)) (.mv (tO 16) (some (sOf 95)) <|
  f7r14_15) f7r14_15
noncomputable def f7r14_13 : K2 := .gd (sOf 89) false (some (sOf 94)) (.p2 (binF .mul (evBin look .mul 3 (.tmp 90) (.tmp 93))) (tO 90) (tO 93) (some (sOf 94)) <|
  f7r14_14) f7r14_14
noncomputable def f7r14_12 : K2 := .gd (sOf 89) false (some (sOf 93)) (.ln (fun xs H => fstO (builtinF .min look [3, 3] xs H)) [(tO 91), (tO 92)] (some (sOf 93)) <|
  f7r14_13) f7r14_13
noncomputable def f7r14_11 : K2 := .gd (sOf 89) false (some (sOf 92)) (.mv (tO 17) (some (sOf 92)) <|
  f7r14_12) f7r14_12
noncomputable def f7r14_10 : K2 := .gd (sOf 89) false (some (sOf 91)) (.mv (tO 3) (some (sOf 91)) <|
  f7r14_11) f7r14_11
noncomputable def f7r14_7 : K2 := .ln (fun xs _ => pickF xs) [(tO 82), (.con (.bool true)), (tO 87)] (some (sOf 88)) <|
  .mv (tO 88) (some (sOf 89)) <|
  .gd (sOf 89) false (some (sOf 90)) (.mv (tO 19) (some (sOf 90)) <|
  f7r14_10) f7r14_10
noncomputable def f7r14_6 : K2 := .gd (sOf 82) false (some (sOf 87)) (.p2 (binF .neq (evBin look .neq 4 (.tmp 84) (.tmp 86))) (tO 84) (tO 86) (some (sOf 87)) <|
  f7r14_7) f7r14_7
noncomputable def f7r14_5 : K2 := .gd (sOf 82) false (some (sOf 86)) (.p2 (binF .eql (evBin look .eql 27 (.tmp 85) (.const (.int .i64 (0))))) (tO 85) (.con (.int .i64 (0))) (some (sOf 86)) <|
  f7r14_6) f7r14_6
noncomputable def f7r14_4 : K2 := .gd (sOf 82) false (some (sOf 85)) (.mv (tO 22) (some (sOf 85)) <|
  f7r14_5) f7r14_5
noncomputable def f7r14_3 : K2 := .gd (sOf 82) false (some (sOf 84)) (.p2 (binF .gtr (evBin look .gtr 3 (.tmp 83) (.const (.int .i64 (0))))) (tO 83) (.con (.int .i64 (0))) (some (sOf 84)) <|
  f7r14_4) f7r14_4
/- outright.go:115 -/
noncomputable def f7r14 : K2 :=
  .mv (tO 20) (some (sOf 80)) <|
  .p2 (binF .neq (evBin look .neq 27 (.tmp 80) (.const (.int .i64 (0))))) (tO 80) (.con (.int .i64 (0))) (some (sOf 81)) <|
  .mv (tO 81) (some (sOf 82)) <|
  .gd (sOf 82) false (some (sOf 83)) (.mv (tO 19) (some (sOf 83)) <|
  f7r14_3) f7r14_3
/- outright.go:116 -/
noncomputable def f7r15 : K2 :=
  .mv (.con (.bool false)) (some (sOf 12)) <|
  .done
/- outright.go:118 -/
noncomputable def f7r16 : K2 :=
  .mv (tO 22) (some (sOf 102)) <|
  .p2 (binF .eql (evBin look .eql 27 (.tmp 102) (.const (.int .i64 (0))))) (tO 102) (.con (.int .i64 (0))) (some (sOf 103)) <|
  .done
/- outright.go:119 -/
noncomputable def f7r17 : K2 :=
  .hn false (fun xs H => bsF 1 0 (.int .i64 (0)) 3 (zipF [] xs) H) [] (some (sOf 104)) <|
  .mv (tO 14) (some (sOf 105)) <|
  .hn false (appX 3 1 8) [(tO 104), (tO 105)] (some (sOf 106)) <|
  .mv (tO 106) (some (sOf 23)) <|
  .done
/- outright.go:120 -/
noncomputable def f7r18 : K2 :=
  .mv (.con (.int .i64 (0))) (some (sOf 24)) <|
  .done
/- outright.go:120 -/
noncomputable def f7r19 : K2 :=
  .mv (tO 24) (some (sOf 107)) <|
  .mv (tO 21) (some (sOf 108)) <|
  .ln (fun xs H => fstO (builtinF .len look [22] xs H)) [(tO 108)] (some (sOf 109)) <|
  .p2 (binF .lss (evBin look .lss 3 (.tmp 107) (.tmp 109))) (tO 107) (tO 109) (some (sOf 110)) <|
  .done
noncomputable def f7r20_12 : K2 := .ln (fun xs _ => pickF xs) [(tO 118), (.con (.bool true)), (tO 125)] (some (sOf 126)) <|
  .done
noncomputable def f7r20_11 : K2 := .gd (sOf 118) false (some (sOf 125)) (.p2 (binF .geq (evBin look .geq 3 (.tmp 122) (.tmp 124))) (tO 122) (tO 124) (some (sOf 125)) <|
  f7r20_12) f7r20_12
noncomputable def f7r20_10 : K2 := .gd (sOf 118) false (some (sOf 124)) (.ln (fun xs H => fstO (builtinF .len look [22] xs H)) [(tO 123)] (some (sOf 124)) <|
  f7r20_11) f7r20_11
noncomputable def f7r20_9 : K2 := .gd (sOf 118) false (some (sOf 123)) (.mv (tO 23) (some (sOf 123)) <|
  f7r20_10) f7r20_10
noncomputable def f7r20_8 : K2 := .gd (sOf 118) false (some (sOf 122)) (.r1 ld1 (tO 121) (some (sOf 122)) <|
  f7r20_9) f7r20_9
noncomputable def f7r20_7 : K2 := .gd (sOf 118) false (some (sOf 121)) (.p2 (ixS 1) (tO 119) (tO 120) (some (sOf 121)) <|
  f7r20_8) f7r20_8
noncomputable def f7r20_6 : K2 := .gd (sOf 118) false (some (sOf 120)) (.mv (tO 24) (some (sOf 120)) <|
  f7r20_7) f7r20_7
/- outright.go:121 -/
noncomputable def f7r20 : K2 :=
  .mv (tO 21) (some (sOf 113)) <|
  .mv (tO 24) (some (sOf 114)) <|
  .p2 (ixS 1) (tO 113) (tO 114) (some (sOf 115)) <|
  .r1 ld1 (tO 115) (some (sOf 116)) <|
  .p2 (binF .lss (evBin look .lss 3 (.tmp 116) (.const (.int .i64 (0))))) (tO 116) (.con (.int .i64 (0))) (some (sOf 117)) <|
  .mv (tO 117) (some (sOf 118)) <|
  .gd (sOf 118) false (some (sOf 119)) (.mv (tO 21) (some (sOf 119)) <|
  f7r20_6) f7r20_6
/- outright.go:122 -/
noncomputable def f7r21 : K2 :=
  .mv (.con (.bool false)) (some (sOf 12)) <|
  .done
/- outright.go:124 -/
noncomputable def f7r22 : K2 :=
  .mv (tO 23) (some (sOf 127)) <|
  .mv (tO 21) (some (sOf 128)) <|
  .mv (tO 24) (some (sOf 129)) <|
  .p2 (ixS 1) (tO 128) (tO 129) (some (sOf 130)) <|
  .r1 ld1 (tO 130) (some (sOf 131)) <|
  .p2 (ixS 1) (tO 127) (tO 131) (some (sOf 132)) <|
  .r1 ld1 (tO 132) (some (sOf 133)) <|
  .p2 (binF .sub (evBin look .sub 3 (.tmp 133) (.const (.int .i64 (1))))) (tO 133) (.con (.int .i64 (1))) (some (sOf 134)) <|
  .p2 (ixS 1) (tO 127) (tO 131) (some (sOf 135)) <|
  .st false (st1 look 3) (tO 135) (tO 134) none <|
  .done
/- outright.go:120 -/
noncomputable def f7r23 : K2 :=
  .mv (tO 24) (some (sOf 111)) <|
  .p2 (binF .add (evBin look .add 3 (.tmp 111) (.const (.int .i64 (1))))) (tO 111) (.con (.int .i64 (1))) (some (sOf 112)) <|
  .mv (tO 112) (some (sOf 24)) <|
  .done
noncomputable def f7l1 : C2 := (.seq (.seq (.reg f7r19)
  (.cond (tO 110) .skip (.exit 2)))
  (.seq (.block 3 (.seq (.seq (.reg f7r20)
  (.cond (tO 126) (.seq (.reg f7r21)
  .ret) .skip))
  (.reg f7r22)))
  (.reg f7r23)))
noncomputable def f7b1 : Code := lpN f7body 1
theorem f7l1_eq : comp look f7b1 = f7l1 := by kernel_rfl
/- outright.go:126 -/
noncomputable def f7r24 : K2 :=
  .mv (tO 23) (some (sOf 137)) <|
  .mv (tO 15) (some (sOf 138)) <|
  .mv (tO 3) (some (sOf 139)) <|
  .cl false 18 [(tO 137), (tO 138), (tO 139)] (some (sOf 140)) <|
  .mv (tO 140) (some (sOf 136)) <|
  .p1 (exN 0) (tO 136) (some (sOf 141)) <|
  .p1 (exN 1) (tO 136) (some (sOf 142)) <|
  .mv (tO 141) (some (sOf 25)) <|
  .mv (tO 142) (some (sOf 26)) <|
  .done
noncomputable def f7r25_6 : K2 := .ln (fun xs _ => pickF xs) [(tO 145), (.con (.bool true)), (tO 149)] (some (sOf 150)) <|
  .done
noncomputable def f7r25_5 : K2 := .gd (sOf 145) false (some (sOf 149)) (.p2 (binF .neq (evBin look .neq 3 (.tmp 146) (.tmp 148))) (tO 146) (tO 148) (some (sOf 149)) <|
  f7r25_6) f7r25_6
noncomputable def f7r25_4 : K2 := .gd (sOf 145) false (some (sOf 148)) (.p2 (binF .sub (evBin look .sub 3 (.tmp 147) (.const (.int .i64 (1))))) (tO 147) (.con (.int .i64 (1))) (some (sOf 148)) <|
  f7r25_5) f7r25_5
noncomputable def f7r25_3 : K2 := .gd (sOf 145) false (some (sOf 147)) (.mv (tO 19) (some (sOf 147)) <|
  f7r25_4) f7r25_4
/- outright.go:127 -/
noncomputable def f7r25 : K2 :=
  .mv (tO 26) (some (sOf 143)) <|
  .p2 (binF .neq (evBin look .neq 27 (.tmp 143) (.const (.int .i64 (0))))) (tO 143) (.con (.int .i64 (0))) (some (sOf 144)) <|
  .mv (tO 144) (some (sOf 145)) <|
  .gd (sOf 145) false (some (sOf 146)) (.mv (tO 25) (some (sOf 146)) <|
  f7r25_3) f7r25_3
/- outright.go:128 -/
noncomputable def f7r26 : K2 :=
  .mv (.con (.bool false)) (some (sOf 12)) <|
  .done
/- outright.go:131 -/
noncomputable def f7r27 : K2 :=
  .mv (tO 4) (some (sOf 151)) <|
  .mv (tO 14) (some (sOf 152)) <|
  .ln (fun xs H => fstO (builtinF .len look [22] xs H)) [(tO 152)] (some (sOf 153)) <|
  .cl false 24 [(tO 151), (tO 153)] (some (sOf 154)) <|
  .mv (tO 154) (some (sOf 4)) <|
  .done
/- outright.go:132 -/
noncomputable def f7r28 : K2 :=
  .mv (tO 14) (some (sOf 155)) <|
  .mv (tO 4) (some (sOf 156)) <|
  .mv (tO 14) (some (sOf 157)) <|
  .mv (tO 4) (some (sOf 158)) <|
  .p2 (ixS 1) (tO 157) (tO 158) (some (sOf 159)) <|
  .r1 ld1 (tO 159) (some (sOf 160)) <|
  .mv (tO 5) (some (sOf 161)) <|
  .cl true 24 [(tO 161), (.con (.int .i64 (100)))] (some (sOf 162)) <|
  .p2 (binF .add (evBin look .add 3 (.tmp 160) (.tmp 162))) (tO 160) (tO 162) (some (sOf 163)) <|
  .p2 (ixS 1) (tO 155) (tO 156) (some (sOf 164)) <|
  .st false (st1 look 3) (tO 164) (tO 163) none <|
  .done
/- outright.go:133 -/
noncomputable def f7r29 : K2 :=
  .mv (tO 14) (some (sOf 166)) <|
  .mv (tO 15) (some (sOf 167)) <|
  .mv (tO 3) (some (sOf 168)) <|
  .cl false 18 [(tO 166), (tO 167), (tO 168)] (some (sOf 169)) <|
  .mv (tO 169) (some (sOf 165)) <|
  .p1 (exN 0) (tO 165) (some (sOf 170)) <|
  .p1 (exN 1) (tO 165) (some (sOf 171)) <|
  .mv (tO 170) (some (sOf 27)) <|
  .mv (tO 171) (some (sOf 28)) <|
  .done
noncomputable def f7r30_8 : K2 := .ln (fun xs _ => pickF xs) [(tO 177), (tO 180), (.con (.bool false))] (some (sOf 181)) <|
  .mv (tO 181) (some (sOf 12)) <|
  .done
noncomputable def f7r30_7 : K2 := .gd (sOf 177) true (some (sOf 180)) (.p2 (binF .geq (evBin look .geq 3 (.tmp 178) (.tmp 179))) (tO 178) (tO 179) (some (sOf 180)) <|
  f7r30_8) f7r30_8
noncomputable def f7r30_6 : K2 := .gd (sOf 177) true (some (sOf 179)) (.mv (tO 19) (some (sOf 179)) <|
  f7r30_7) f7r30_7
noncomputable def f7r30_3 : K2 := .ln (fun xs _ => pickF xs) [(tO 173), (tO 175), (.con (.bool false))] (some (sOf 176)) <|
  .mv (tO 176) (some (sOf 177)) <|
  .gd (sOf 177) true (some (sOf 178)) (.mv (tO 27) (some (sOf 178)) <|
  f7r30_6) f7r30_6
noncomputable def f7r30_2 : K2 := .gd (sOf 173) true (some (sOf 175)) (.p2 (binF .eql (evBin look .eql 27 (.tmp 174) (.const (.int .i64 (0))))) (tO 174) (.con (.int .i64 (0))) (some (sOf 175)) <|
  f7r30_3) f7r30_3
/- outright.go:134 -/
noncomputable def f7r30 : K2 :=
  .mv (tO 13) (some (sOf 172)) <|
  .mv (tO 172) (some (sOf 173)) <|
  .gd (sOf 173) true (some (sOf 174)) (.mv (tO 28) (some (sOf 174)) <|
  f7r30_2) f7r30_2
noncomputable def f7c : C2 := (.seq (.reg f7r0)
  (.seq (.reg f7r1)
  (.seq (.reg f7r2)
  (.seq (.reg f7r3)
  (.seq (.reg f7r4)
  (.seq (.seq (.reg f7r5)
  (.block 0 (.loop f7b0)))
  (.seq (.reg f7r12)
  (.seq (.reg f7r13)
  (.seq (.seq (.reg f7r14)
  (.cond (tO 101) (.seq (.reg f7r15)
  .ret) .skip))
  (.seq (.seq (.reg f7r16)
  (.cond (tO 103) (.seq (.reg f7r17)
  (.seq (.seq (.reg f7r18)
  (.block 2 (.loop f7b1)))
  (.seq (.reg f7r24)
  (.seq (.reg f7r25)
  (.cond (tO 150) (.seq (.reg f7r26)
  .ret) .skip))))) .skip))
  (.seq (.reg f7r27)
  (.seq (.reg f7r28)
  (.seq (.reg f7r29)
  (.seq (.reg f7r30)
  .ret))))))))))))))
theorem f7_eq : fnF look 7 = some ⟨182, f7c, [.tmp 12]⟩ := by kernel_rfl

/-! caulker/caulkerkit.LentInts: parameters [22], temporaries 29 -/
noncomputable def f9body : Code := bodyN look 9
/- lists.go:33 -/
noncomputable def f9r0 : K2 :=
  .mv (.con .nilSl) (some (sOf 2)) <|
  .done
/- lists.go:34 -/
noncomputable def f9r1 : K2 :=
  .mv (tO 0) (some (sOf 5)) <|
  .ln (fun xs H => fstO (builtinF .len look [22] xs H)) [(tO 5)] (some (sOf 6)) <|
  .p2 (binF .add (evBin look .add 3 (.tmp 6) (.const (.int .i64 (3))))) (tO 6) (.con (.int .i64 (3))) (some (sOf 7)) <|
  .hn false (fun xs H => evMakeSlice look 22 (hd xs) (hd (tl xs)) H) [(tO 7), (tO 7)] (some (sOf 8)) <|
  .mv (tO 8) (some (sOf 3)) <|
  .done
/- lists.go:35 -/
noncomputable def f9r2 : K2 :=
  .mv (tO 3) (some (sOf 9)) <|
  .mv (tO 0) (some (sOf 10)) <|
  .hn false (builtinF .copy look [22, 22]) [(tO 9), (tO 10)] (some (sOf 11)) <|
  .done
/- lists.go:36 -/
noncomputable def f9r3 : K2 :=
  .mv (tO 0) (some (sOf 12)) <|
  .ln (fun xs H => fstO (builtinF .len look [22] xs H)) [(tO 12)] (some (sOf 13)) <|
  .mv (tO 13) (some (sOf 4)) <|
  .done
/- lists.go:36 -/
noncomputable def f9r4 : K2 :=
  .mv (tO 4) (some (sOf 14)) <|
  .mv (tO 3) (some (sOf 15)) <|
  .ln (fun xs H => fstO (builtinF .len look [22] xs H)) [(tO 15)] (some (sOf 16)) <|
  .p2 (binF .lss (evBin look .lss 3 (.tmp 14) (.tmp 16))) (tO 14) (tO 16) (some (sOf 17)) <|
  .done
/- lists.go:37 -/
noncomputable def f9r5 : K2 :=
  .mv (tO 3) (some (sOf 20)) <|
  .mv (tO 4) (some (sOf 21)) <|
  .mv (tO 4) (some (sOf 22)) <|
  .p2 (binF .sub (evBin look .sub 3 (.const (.int .i64 (-77))) (.tmp 22))) (.con (.int .i64 (-77))) (tO 22) (some (sOf 23)) <|
  .p2 (ixS 1) (tO 20) (tO 21) (some (sOf 24)) <|
  .st false (st1 look 3) (tO 24) (tO 23) none <|
  .done
/- lists.go:36 -/
noncomputable def f9r6 : K2 :=
  .mv (tO 4) (some (sOf 18)) <|
  .p2 (binF .add (evBin look .add 3 (.tmp 18) (.const (.int .i64 (1))))) (tO 18) (.con (.int .i64 (1))) (some (sOf 19)) <|
  .mv (tO 19) (some (sOf 4)) <|
  .done
noncomputable def f9l0 : C2 := (.seq (.seq (.reg f9r4)
  (.cond (tO 17) .skip (.exit 0)))
  (.seq (.block 1 (.reg f9r5))
  (.reg f9r6)))
noncomputable def f9b0 : Code := lpN f9body 0
theorem f9l0_eq : comp look f9b0 = f9l0 := by kernel_rfl
/- lists.go:39 -/
noncomputable def f9r7 : K2 :=
  .mv (tO 3) (some (sOf 25)) <|
  .mv (tO 0) (some (sOf 26)) <|
  .ln (fun xs H => fstO (builtinF .len look [22] xs H)) [(tO 26)] (some (sOf 27)) <|
  .ls (fun xs _ => sliceF look 22 false true false xs) [(tO 25), (tO 27)] (opN f9body 7 3) (some (sOf 28)) <|
  .mv (tO 28) (some (sOf 2)) <|
  .done
noncomputable def f9c : C2 := (.seq (.reg f9r0)
  (.seq (.reg f9r1)
  (.seq (.reg f9r2)
  (.seq (.seq (.reg f9r3)
  (.block 0 (.loop f9b0)))
  (.seq (.reg f9r7)
  .ret)))))
theorem f9_eq : fnF look 9 = some ⟨29, f9c, [.tmp 2]⟩ := by kernel_rfl

/-! caulker/caulkerkit.LentBools: parameters [23], temporaries 30 -/
noncomputable def f10body : Code := bodyN look 10
/- bools.go:16 -/
noncomputable def f10r0 : K2 :=
  .mv (.con .nilSl) (some (sOf 2)) <|
  .done
/- bools.go:17 -/
noncomputable def f10r1 : K2 :=
  .mv (tO 0) (some (sOf 5)) <|
  .ln (fun xs H => fstO (builtinF .len look [23] xs H)) [(tO 5)] (some (sOf 6)) <|
  .p2 (binF .add (evBin look .add 3 (.tmp 6) (.const (.int .i64 (3))))) (tO 6) (.con (.int .i64 (3))) (some (sOf 7)) <|
  .hn false (fun xs H => evMakeSlice look 23 (hd xs) (hd (tl xs)) H) [(tO 7), (tO 7)] (some (sOf 8)) <|
  .mv (tO 8) (some (sOf 3)) <|
  .done
/- bools.go:18 -/
noncomputable def f10r2 : K2 :=
  .mv (tO 3) (some (sOf 9)) <|
  .mv (tO 0) (some (sOf 10)) <|
  .hn false (builtinF .copy look [23, 23]) [(tO 9), (tO 10)] (some (sOf 11)) <|
  .done
/- bools.go:19 -/
noncomputable def f10r3 : K2 :=
  .mv (tO 0) (some (sOf 12)) <|
  .ln (fun xs H => fstO (builtinF .len look [23] xs H)) [(tO 12)] (some (sOf 13)) <|
  .mv (tO 13) (some (sOf 4)) <|
  .done
/- bools.go:19 -/
noncomputable def f10r4 : K2 :=
  .mv (tO 4) (some (sOf 14)) <|
  .mv (tO 3) (some (sOf 15)) <|
  .ln (fun xs H => fstO (builtinF .len look [23] xs H)) [(tO 15)] (some (sOf 16)) <|
  .p2 (binF .lss (evBin look .lss 3 (.tmp 14) (.tmp 16))) (tO 14) (tO 16) (some (sOf 17)) <|
  .done
/- bools.go:20 -/
noncomputable def f10r5 : K2 :=
  .mv (tO 3) (some (sOf 20)) <|
  .mv (tO 4) (some (sOf 21)) <|
  .mv (tO 4) (some (sOf 22)) <|
  .p2 (binF .rem (evBin look .rem 3 (.tmp 22) (.const (.int .i64 (2))))) (tO 22) (.con (.int .i64 (2))) (some (sOf 23)) <|
  .p2 (binF .eql (evBin look .eql 3 (.tmp 23) (.const (.int .i64 (0))))) (tO 23) (.con (.int .i64 (0))) (some (sOf 24)) <|
  .p2 (ixS 1) (tO 20) (tO 21) (some (sOf 25)) <|
  .st false (st1 look 4) (tO 25) (tO 24) none <|
  .done
/- bools.go:19 -/
noncomputable def f10r6 : K2 :=
  .mv (tO 4) (some (sOf 18)) <|
  .p2 (binF .add (evBin look .add 3 (.tmp 18) (.const (.int .i64 (1))))) (tO 18) (.con (.int .i64 (1))) (some (sOf 19)) <|
  .mv (tO 19) (some (sOf 4)) <|
  .done
noncomputable def f10l0 : C2 := (.seq (.seq (.reg f10r4)
  (.cond (tO 17) .skip (.exit 0)))
  (.seq (.block 1 (.reg f10r5))
  (.reg f10r6)))
noncomputable def f10b0 : Code := lpN f10body 0
theorem f10l0_eq : comp look f10b0 = f10l0 := by kernel_rfl
/- bools.go:22 -/
noncomputable def f10r7 : K2 :=
  .mv (tO 3) (some (sOf 26)) <|
  .mv (tO 0) (some (sOf 27)) <|
  .ln (fun xs H => fstO (builtinF .len look [23] xs H)) [(tO 27)] (some (sOf 28)) <|
  .ls (fun xs _ => sliceF look 23 false true false xs) [(tO 26), (tO 28)] (opN f10body 7 3) (some (sOf 29)) <|
  .mv (tO 29) (some (sOf 2)) <|
  .done
noncomputable def f10c : C2 := (.seq (.reg f10r0)
  (.seq (.reg f10r1)
  (.seq (.reg f10r2)
  (.seq (.seq (.reg f10r3)
  (.block 0 (.loop f10b0)))
  (.seq (.reg f10r7)
  .ret)))))
theorem f10_eq : fnF look 10 = some ⟨30, f10c, [.tmp 2]⟩ := by kernel_rfl

/-! caulker/place.Choose: parameters [22, 23, 3], temporaries 28 -/
noncomputable def f11body : Code := bodyN look 11
/- place.go:46 -/
noncomputable def f11r0 : K2 :=
  .mv (.con .nilSl) (some (sOf 6)) <|
  .mv (.con (.int .i64 (0))) (some (sOf 7)) <|
  .done
/- place.go:47 -/
noncomputable def f11r1 : K2 :=
  .mv (tO 0) (some (sOf 11)) <|
  .mv (tO 1) (some (sOf 12)) <|
  .mv (tO 2) (some (sOf 13)) <|
  .cl false 14 [(tO 11), (tO 12), (tO 13)] (some (sOf 14)) <|
  .mv (tO 14) (some (sOf 8)) <|
  .done
/- place.go:47 -/
noncomputable def f11r2 : K2 :=
  .mv (tO 8) (some (sOf 15)) <|
  .p2 (binF .neq (evBin look .neq 27 (.tmp 15) (.const (.int .i64 (0))))) (tO 15) (.con (.int .i64 (0))) (some (sOf 16)) <|
  .done
/- place.go:48 -/
noncomputable def f11r3 : K2 :=
  .mv (tO 8) (some (sOf 17)) <|
  .mv (.con .nilSl) (some (sOf 6)) <|
  .mv (tO 17) (some (sOf 7)) <|
  .done
/- place.go:50 -/
noncomputable def f11r4 : K2 :=
  .mv (tO 0) (some (sOf 19)) <|
  .mv (tO 1) (some (sOf 20)) <|
  .mv (tO 2) (some (sOf 21)) <|
  .cl false 25 [(tO 19), (tO 20), (tO 21)] (some (sOf 22)) <|
  .mv (tO 22) (some (sOf 18)) <|
  .p1 (exN 0) (tO 18) (some (sOf 23)) <|
  .p1 (exN 1) (tO 18) (some (sOf 24)) <|
  .mv (tO 23) (some (sOf 9)) <|
  .mv (tO 24) (some (sOf 10)) <|
  .done
/- place.go:51 -/
noncomputable def f11r5 : K2 :=
  .mv (tO 10) (some (sOf 25)) <|
  .p1 notF (tO 25) (some (sOf 26)) <|
  .done
/- place.go:52 -/
noncomputable def f11r6 : K2 :=
  .mv (.con .nilSl) (some (sOf 6)) <|
  .mv (.con (.int .i64 (15))) (some (sOf 7)) <|
  .done
/- place.go:54 -/
noncomputable def f11r7 : K2 :=
  .mv (tO 9) (some (sOf 27)) <|
  .mv (tO 27) (some (sOf 6)) <|
  .mv (.con (.int .i64 (0))) (some (sOf 7)) <|
  .done
noncomputable def f11c : C2 := (.seq (.reg f11r0)
  (.seq (.seq (.reg f11r1)
  (.seq (.reg f11r2)
  (.cond (tO 16) (.seq (.reg f11r3)
  .ret) .skip)))
  (.seq (.reg f11r4)
  (.seq (.seq (.reg f11r5)
  (.cond (tO 26) (.seq (.reg f11r6)
  .ret) .skip))
  (.seq (.reg f11r7)
  .ret)))))
theorem f11_eq : fnF look 11 = some ⟨28, f11c, [.tmp 6, .tmp 7]⟩ := by kernel_rfl

/-! caulker/caulkerref07.Choose: parameters [22, 23, 3], temporaries 53 -/
noncomputable def f12body : Code := bodyN look 12
/- ref.go:41 -/
noncomputable def f12r0 : K2 :=
  .mv (.con .nilSl) (some (sOf 6)) <|
  .mv (.con (.int .i64 (0))) (some (sOf 7)) <|
  .done
/- ref.go:42 -/
noncomputable def f12r1 : K2 :=
  .mv (tO 0) (some (sOf 14)) <|
  .mv (tO 1) (some (sOf 15)) <|
  .mv (tO 2) (some (sOf 16)) <|
  .cl false 15 [(tO 14), (tO 15), (tO 16)] (some (sOf 17)) <|
  .mv (tO 17) (some (sOf 8)) <|
  .done
/- ref.go:43 -/
noncomputable def f12r2 : K2 :=
  .mv (tO 8) (some (sOf 18)) <|
  .p2 (binF .neq (evBin look .neq 27 (.tmp 18) (.const (.int .i64 (0))))) (tO 18) (.con (.int .i64 (0))) (some (sOf 19)) <|
  .done
/- ref.go:44 -/
noncomputable def f12r3 : K2 :=
  .mv (tO 8) (some (sOf 20)) <|
  .mv (.con .nilSl) (some (sOf 6)) <|
  .mv (tO 20) (some (sOf 7)) <|
  .done
/- ref.go:46 -/
noncomputable def f12r4 : K2 :=
  .mv (.con (.int .i64 (0))) (some (sOf 9)) <|
  .done
/- ref.go:47 -/
noncomputable def f12r5 : K2 :=
  .mv (.con (.int .i64 (0))) (some (sOf 10)) <|
  .done
/- ref.go:47 -/
noncomputable def f12r6 : K2 :=
  .mv (tO 10) (some (sOf 21)) <|
  .mv (tO 1) (some (sOf 22)) <|
  .ln (fun xs H => fstO (builtinF .len look [23] xs H)) [(tO 22)] (some (sOf 23)) <|
  .p2 (binF .lss (evBin look .lss 3 (.tmp 21) (.tmp 23))) (tO 21) (tO 23) (some (sOf 24)) <|
  .done
/- ref.go:48 -/
noncomputable def f12r7 : K2 :=
  .mv (tO 1) (some (sOf 27)) <|
  .mv (tO 10) (some (sOf 28)) <|
  .p2 (ixS 1) (tO 27) (tO 28) (some (sOf 29)) <|
  .r1 ld1 (tO 29) (some (sOf 30)) <|
  .done
/- ref.go:49 -/
noncomputable def f12r8 : K2 :=
  .mv (tO 9) (some (sOf 31)) <|
  .p2 (binF .add (evBin look .add 3 (.tmp 31) (.const (.int .i64 (1))))) (tO 31) (.con (.int .i64 (1))) (some (sOf 32)) <|
  .mv (tO 32) (some (sOf 9)) <|
  .done
/- ref.go:47 -/
noncomputable def f12r9 : K2 :=
  .mv (tO 10) (some (sOf 25)) <|
  .p2 (binF .add (evBin look .add 3 (.tmp 25) (.const (.int .i64 (1))))) (tO 25) (.con (.int .i64 (1))) (some (sOf 26)) <|
  .mv (tO 26) (some (sOf 10)) <|
  .done
noncomputable def f12l0 : C2 := (.seq (.seq (.reg f12r6)
  (.cond (tO 24) .skip (.exit 0)))
  (.seq (.block 1 (.seq (.reg f12r7)
  (.cond (tO 30) (.reg f12r8) .skip)))
  (.reg f12r9)))
noncomputable def f12b0 : Code := lpN f12body 0
theorem f12l0_eq : comp look f12b0 = f12l0 := by kernel_rfl
/- ref.go:52 -/
noncomputable def f12r10 : K2 :=
  .mv (tO 2) (some (sOf 33)) <|
  .mv (tO 9) (some (sOf 34)) <|
  .ln (fun xs H => fstO (builtinF .min look [3, 3] xs H)) [(tO 33), (tO 34)] (some (sOf 35)) <|
  .mv (tO 35) (some (sOf 11)) <|
  .done
/- ref.go:53 -/
noncomputable def f12r11 : K2 :=
  .mv (tO 11) (some (sOf 36)) <|
  .p2 (binF .eql (evBin look .eql 3 (.tmp 36) (.const (.int .i64 (0))))) (tO 36) (.con (.int .i64 (0))) (some (sOf 37)) <|
  .done
/- ref.go:54 -/
noncomputable def f12r12 : K2 :=
  .mv (.con .nilSl) (some (sOf 6)) <|
  .mv (.con (.int .i64 (15))) (some (sOf 7)) <|
  .done
/- ref.go:56 -/
noncomputable def f12r13 : K2 :=
  .mv (.con .nilSl) (some (sOf 12)) <|
  .done
/- ref.go:57 -/
noncomputable def f12r14 : K2 :=
  .mv (tO 12) (some (sOf 38)) <|
  .ln (fun xs H => fstO (builtinF .len look [22] xs H)) [(tO 38)] (some (sOf 39)) <|
  .mv (tO 11) (some (sOf 40)) <|
  .p2 (binF .lss (evBin look .lss 3 (.tmp 39) (.tmp 40))) (tO 39) (tO 40) (some (sOf 41)) <|
  .done
/- ref.go:58 -/
noncomputable def f12r15 : K2 :=
  .mv (tO 0) (some (sOf 42)) <|
  .mv (tO 1) (some (sOf 43)) <|
  .mv (tO 12) (some (sOf 44)) <|
  .cl false 26 [(tO 42), (tO 43), (tO 44)] (some (sOf 45)) <|
  .mv (tO 45) (some (sOf 13)) <|
  .done
/- ref.go:59 -/
noncomputable def f12r16 : K2 :=
  .mv (tO 13) (some (sOf 46)) <|
  .p2 (binF .lss (evBin look .lss 3 (.tmp 46) (.const (.int .i64 (0))))) (tO 46) (.con (.int .i64 (0))) (some (sOf 47)) <|
  .done
/- ref.go:60 -/
noncomputable def f12r17 : K2 :=
  .mv (.con .nilSl) (some (sOf 6)) <|
  .mv (.con (.int .i64 (15))) (some (sOf 7)) <|
  .done
/- ref.go:62 -/
noncomputable def f12r18 : K2 :=
  .mv (tO 12) (some (sOf 48)) <|
  .mv (tO 13) (some (sOf 49)) <|
  .hn false (fun xs H => bsF 1 1 (.int .i64 (0)) 3 (zipF [0] xs) H) [(tO 49)] (some (sOf 50)) <|
  .hn false (appX 3 1 8) [(tO 48), (tO 50)] (some (sOf 51)) <|
  .mv (tO 51) (some (sOf 12)) <|
  .done
noncomputable def f12l1 : C2 := (.seq (.seq (.reg f12r14)
  (.cond (tO 41) .skip (.exit 2)))
  (.block 3 (.seq (.reg f12r15)
  (.seq (.seq (.reg f12r16)
  (.cond (tO 47) (.seq (.reg f12r17)
  .ret) .skip))
  (.reg f12r18)))))
noncomputable def f12b1 : Code := lpN f12body 1
theorem f12l1_eq : comp look f12b1 = f12l1 := by kernel_rfl
/- ref.go:64 -/
noncomputable def f12r19 : K2 :=
  .mv (tO 12) (some (sOf 52)) <|
  .mv (tO 52) (some (sOf 6)) <|
  .mv (.con (.int .i64 (0))) (some (sOf 7)) <|
  .done
noncomputable def f12c : C2 := (.seq (.reg f12r0)
  (.seq (.reg f12r1)
  (.seq (.seq (.reg f12r2)
  (.cond (tO 19) (.seq (.reg f12r3)
  .ret) .skip))
  (.seq (.reg f12r4)
  (.seq (.seq (.reg f12r5)
  (.block 0 (.loop f12b0)))
  (.seq (.reg f12r10)
  (.seq (.seq (.reg f12r11)
  (.cond (tO 37) (.seq (.reg f12r12)
  .ret) .skip))
  (.seq (.reg f12r13)
  (.seq (.block 2 (.loop f12b1))
  (.seq (.reg f12r19)
  .ret))))))))))
theorem f12_eq : fnF look 12 = some ⟨53, f12c, [.tmp 6, .tmp 7]⟩ := by kernel_rfl

/-! caulker/caulkerkit.SameInts: parameters [22, 22], temporaries 26 -/
noncomputable def f13body : Code := bodyN look 13
/- kit.go:96 -/
noncomputable def f13r0 : K2 :=
  .mv (.con (.bool false)) (some (sOf 4)) <|
  .done
/- kit.go:97 -/
noncomputable def f13r1 : K2 :=
  .mv (tO 0) (some (sOf 6)) <|
  .ln (fun xs H => fstO (builtinF .len look [22] xs H)) [(tO 6)] (some (sOf 7)) <|
  .mv (tO 1) (some (sOf 8)) <|
  .ln (fun xs H => fstO (builtinF .len look [22] xs H)) [(tO 8)] (some (sOf 9)) <|
  .p2 (binF .neq (evBin look .neq 3 (.tmp 7) (.tmp 9))) (tO 7) (tO 9) (some (sOf 10)) <|
  .done
/- kit.go:98 -/
noncomputable def f13r2 : K2 :=
  .mv (.con (.bool false)) (some (sOf 4)) <|
  .done
/- kit.go:100 -/
noncomputable def f13r3 : K2 :=
  .mv (.con (.int .i64 (0))) (some (sOf 5)) <|
  .done
/- kit.go:100 -/
noncomputable def f13r4 : K2 :=
  .mv (tO 5) (some (sOf 11)) <|
  .mv (tO 0) (some (sOf 12)) <|
  .ln (fun xs H => fstO (builtinF .len look [22] xs H)) [(tO 12)] (some (sOf 13)) <|
  .p2 (binF .lss (evBin look .lss 3 (.tmp 11) (.tmp 13))) (tO 11) (tO 13) (some (sOf 14)) <|
  .done
/- kit.go:101 -/
noncomputable def f13r5 : K2 :=
  .mv (tO 0) (some (sOf 17)) <|
  .mv (tO 5) (some (sOf 18)) <|
  .p2 (ixS 1) (tO 17) (tO 18) (some (sOf 19)) <|
  .r1 ld1 (tO 19) (some (sOf 20)) <|
  .mv (tO 1) (some (sOf 21)) <|
  .mv (tO 5) (some (sOf 22)) <|
  .p2 (ixS 1) (tO 21) (tO 22) (some (sOf 23)) <|
  .r1 ld1 (tO 23) (some (sOf 24)) <|
  .p2 (binF .neq (evBin look .neq 3 (.tmp 20) (.tmp 24))) (tO 20) (tO 24) (some (sOf 25)) <|
  .done
/- kit.go:102 -/
noncomputable def f13r6 : K2 :=
  .mv (.con (.bool false)) (some (sOf 4)) <|
  .done
/- kit.go:100 -/
noncomputable def f13r7 : K2 :=
  .mv (tO 5) (some (sOf 15)) <|
  .p2 (binF .add (evBin look .add 3 (.tmp 15) (.const (.int .i64 (1))))) (tO 15) (.con (.int .i64 (1))) (some (sOf 16)) <|
  .mv (tO 16) (some (sOf 5)) <|
  .done
noncomputable def f13l0 : C2 := (.seq (.seq (.reg f13r4)
  (.cond (tO 14) .skip (.exit 0)))
  (.seq (.block 1 (.seq (.reg f13r5)
  (.cond (tO 25) (.seq (.reg f13r6)
  .ret) .skip)))
  (.reg f13r7)))
noncomputable def f13b0 : Code := lpN f13body 0
theorem f13l0_eq : comp look f13b0 = f13l0 := by kernel_rfl
/- kit.go:105 -/
noncomputable def f13r8 : K2 :=
  .mv (.con (.bool true)) (some (sOf 4)) <|
  .done
noncomputable def f13c : C2 := (.seq (.reg f13r0)
  (.seq (.seq (.reg f13r1)
  (.cond (tO 10) (.seq (.reg f13r2)
  .ret) .skip))
  (.seq (.seq (.reg f13r3)
  (.block 0 (.loop f13b0)))
  (.seq (.reg f13r8)
  .ret))))
theorem f13_eq : fnF look 13 = some ⟨26, f13c, [.tmp 4]⟩ := by kernel_rfl

/-! caulker/place.Check: parameters [22, 23, 3], temporaries 36 -/
noncomputable def f14body : Code := bodyN look 14
/- place.go:12 -/
noncomputable def f14r0 : K2 :=
  .mv (.con (.int .i64 (0))) (some (sOf 6)) <|
  .done
/- place.go:13 -/
noncomputable def f14r1 : K2 :=
  .mv (.con (.fn (.func 27) [] [])) (some (sOf 7)) <|
  .done
noncomputable def f14r2_13 : K2 := .ln (fun xs _ => pickF xs) [(tO 17), (.con (.bool true)), (tO 22)] (some (sOf 23)) <|
  .mv (tO 23) (some (sOf 8)) <|
  .done
noncomputable def f14r2_12 : K2 := .gd (sOf 17) false (some (sOf 22)) (.p2 (binF .neq (evBin look .neq 3 (.tmp 19) (.tmp 21))) (tO 19) (tO 21) (some (sOf 22)) <|
  f14r2_13) f14r2_13
noncomputable def f14r2_11 : K2 := .gd (sOf 17) false (some (sOf 21)) (.ln (fun xs H => fstO (builtinF .len look [22] xs H)) [(tO 20)] (some (sOf 21)) <|
  f14r2_12) f14r2_12
noncomputable def f14r2_10 : K2 := .gd (sOf 17) false (some (sOf 20)) (.mv (tO 0) (some (sOf 20)) <|
  f14r2_11) f14r2_11
noncomputable def f14r2_9 : K2 := .gd (sOf 17) false (some (sOf 19)) (.ln (fun xs H => fstO (builtinF .len look [23] xs H)) [(tO 18)] (some (sOf 19)) <|
  f14r2_10) f14r2_10
noncomputable def f14r2_6 : K2 := .ln (fun xs _ => pickF xs) [(tO 12), (.con (.bool true)), (tO 15)] (some (sOf 16)) <|
  .mv (tO 16) (some (sOf 17)) <|
  .gd (sOf 17) false (some (sOf 18)) (.mv (tO 1) (some (sOf 18)) <|
  f14r2_9) f14r2_9
noncomputable def f14r2_5 : K2 := .gd (sOf 12) false (some (sOf 15)) (.p2 (binF .gtr (evBin look .gtr 3 (.tmp 14) (.const (.int .i64 (8))))) (tO 14) (.con (.int .i64 (8))) (some (sOf 15)) <|
  f14r2_6) f14r2_6
noncomputable def f14r2_4 : K2 := .gd (sOf 12) false (some (sOf 14)) (.ln (fun xs H => fstO (builtinF .len look [22] xs H)) [(tO 13)] (some (sOf 14)) <|
  f14r2_5) f14r2_5
/- place.go:15 -/
noncomputable def f14r2 : K2 :=
  .mv (tO 0) (some (sOf 9)) <|
  .ln (fun xs H => fstO (builtinF .len look [22] xs H)) [(tO 9)] (some (sOf 10)) <|
  .p2 (binF .lss (evBin look .lss 3 (.tmp 10) (.const (.int .i64 (2))))) (tO 10) (.con (.int .i64 (2))) (some (sOf 11)) <|
  .mv (tO 11) (some (sOf 12)) <|
  .gd (sOf 12) false (some (sOf 13)) (.mv (tO 0) (some (sOf 13)) <|
  f14r2_4) f14r2_4
/- place.go:16 -/
noncomputable def f14r3 : K2 :=
  .mv (.con (.int .i64 (2))) (some (sOf 6)) <|
  .done
noncomputable def f14r4_9 : K2 := .ln (fun xs _ => pickF xs) [(tO 31), (.con (.bool true)), (tO 34)] (some (sOf 35)) <|
  .mv (tO 35) (some (sOf 24)) <|
  .done
noncomputable def f14r4_8 : K2 := .gd (sOf 31) false (some (sOf 34)) (.cl false 28 [(tO 32), (tO 33)] (some (sOf 34)) <|
  f14r4_9) f14r4_9
noncomputable def f14r4_7 : K2 := .gd (sOf 31) false (some (sOf 33)) (.mv (tO 7) (some (sOf 33)) <|
  f14r4_8) f14r4_8
noncomputable def f14r4_4 : K2 := .ln (fun xs _ => pickF xs) [(tO 27), (.con (.bool true)), (tO 29)] (some (sOf 30)) <|
  .mv (tO 30) (some (sOf 31)) <|
  .gd (sOf 31) false (some (sOf 32)) (.mv (tO 0) (some (sOf 32)) <|
  f14r4_7) f14r4_7
noncomputable def f14r4_3 : K2 := .gd (sOf 27) false (some (sOf 29)) (.p2 (binF .gtr (evBin look .gtr 3 (.tmp 28) (.const (.int .i64 (3))))) (tO 28) (.con (.int .i64 (3))) (some (sOf 29)) <|
  f14r4_4) f14r4_4
/- place.go:17 -/
noncomputable def f14r4 : K2 :=
  .mv (tO 2) (some (sOf 25)) <|
  .p2 (binF .lss (evBin look .lss 3 (.tmp 25) (.const (.int .i64 (1))))) (tO 25) (.con (.int .i64 (1))) (some (sOf 26)) <|
  .mv (tO 26) (some (sOf 27)) <|
  .gd (sOf 27) false (some (sOf 28)) (.mv (tO 2) (some (sOf 28)) <|
  f14r4_3) f14r4_3
/- place.go:18 -/
noncomputable def f14r5 : K2 :=
  .mv (.con (.int .i64 (2))) (some (sOf 6)) <|
  .done
/- place.go:20 -/
noncomputable def f14r6 : K2 :=
  .mv (.con (.int .i64 (0))) (some (sOf 6)) <|
  .done
noncomputable def f14c : C2 := (.seq (.reg f14r0)
  (.seq (.reg f14r1)
  (.seq (.block 0 (.seq (.reg f14r2)
  (.cond (tO 8) (.seq (.reg f14r3)
  .ret) (.seq (.reg f14r4)
  (.cond (tO 24) (.seq (.reg f14r5)
  .ret) .skip)))))
  (.seq (.reg f14r6)
  .ret))))
theorem f14_eq : fnF look 14 = some ⟨36, f14c, [.tmp 6]⟩ := by kernel_rfl

/-! caulker/caulkerref07.Check: parameters [22, 23, 3], temporaries 49 -/
noncomputable def f15body : Code := bodyN look 15
/- ref.go:7 -/
noncomputable def f15r0 : K2 :=
  .mv (.con (.int .i64 (0))) (some (sOf 6)) <|
  .done
noncomputable def f15r1_21 : K2 := .ln (fun xs _ => pickF xs) [(tO 27), (.con (.bool true)), (tO 29)] (some (sOf 30)) <|
  .done
noncomputable def f15r1_20 : K2 := .gd (sOf 27) false (some (sOf 29)) (.p2 (binF .gtr (evBin look .gtr 3 (.tmp 28) (.const (.int .i64 (3))))) (tO 28) (.con (.int .i64 (3))) (some (sOf 29)) <|
  f15r1_21) f15r1_21
noncomputable def f15r1_17 : K2 := .ln (fun xs _ => pickF xs) [(tO 23), (.con (.bool true)), (tO 25)] (some (sOf 26)) <|
  .mv (tO 26) (some (sOf 27)) <|
  .gd (sOf 27) false (some (sOf 28)) (.mv (tO 2) (some (sOf 28)) <|
  f15r1_20) f15r1_20
noncomputable def f15r1_16 : K2 := .gd (sOf 23) false (some (sOf 25)) (.p2 (binF .lss (evBin look .lss 3 (.tmp 24) (.const (.int .i64 (1))))) (tO 24) (.con (.int .i64 (1))) (some (sOf 25)) <|
  f15r1_17) f15r1_17
noncomputable def f15r1_13 : K2 := .ln (fun xs _ => pickF xs) [(tO 16), (.con (.bool true)), (tO 21)] (some (sOf 22)) <|
  .mv (tO 22) (some (sOf 23)) <|
  .gd (sOf 23) false (some (sOf 24)) (.mv (tO 2) (some (sOf 24)) <|
  f15r1_16) f15r1_16
noncomputable def f15r1_12 : K2 := .gd (sOf 16) false (some (sOf 21)) (.p2 (binF .neq (evBin look .neq 3 (.tmp 18) (.tmp 20))) (tO 18) (tO 20) (some (sOf 21)) <|
  f15r1_13) f15r1_13
noncomputable def f15r1_11 : K2 := .gd (sOf 16) false (some (sOf 20)) (.ln (fun xs H => fstO (builtinF .len look [22] xs H)) [(tO 19)] (some (sOf 20)) <|
  f15r1_12) f15r1_12
noncomputable def f15r1_10 : K2 := .gd (sOf 16) false (some (sOf 19)) (.mv (tO 0) (some (sOf 19)) <|
  f15r1_11) f15r1_11
noncomputable def f15r1_9 : K2 := .gd (sOf 16) false (some (sOf 18)) (.ln (fun xs H => fstO (builtinF .len look [23] xs H)) [(tO 17)] (some (sOf 18)) <|
  f15r1_10) f15r1_10
noncomputable def f15r1_6 : K2 := .ln (fun xs _ => pickF xs) [(tO 11), (.con (.bool true)), (tO 14)] (some (sOf 15)) <|
  .mv (tO 15) (some (sOf 16)) <|
  .gd (sOf 16) false (some (sOf 17)) (.mv (tO 1) (some (sOf 17)) <|
  f15r1_9) f15r1_9
noncomputable def f15r1_5 : K2 := .gd (sOf 11) false (some (sOf 14)) (.p2 (binF .gtr (evBin look .gtr 3 (.tmp 13) (.const (.int .i64 (8))))) (tO 13) (.con (.int .i64 (8))) (some (sOf 14)) <|
  f15r1_6) f15r1_6
noncomputable def f15r1_4 : K2 := .gd (sOf 11) false (some (sOf 13)) (.ln (fun xs H => fstO (builtinF .len look [22] xs H)) [(tO 12)] (some (sOf 13)) <|
  f15r1_5) f15r1_5
/- ref.go:8 -/
noncomputable def f15r1 : K2 :=
  .mv (tO 0) (some (sOf 8)) <|
  .ln (fun xs H => fstO (builtinF .len look [22] xs H)) [(tO 8)] (some (sOf 9)) <|
  .p2 (binF .lss (evBin look .lss 3 (.tmp 9) (.const (.int .i64 (2))))) (tO 9) (.con (.int .i64 (2))) (some (sOf 10)) <|
  .mv (tO 10) (some (sOf 11)) <|
  .gd (sOf 11) false (some (sOf 12)) (.mv (tO 0) (some (sOf 12)) <|
  f15r1_4) f15r1_4
/- ref.go:9 -/
noncomputable def f15r2 : K2 :=
  .mv (.con (.int .i64 (2))) (some (sOf 6)) <|
  .done
/- ref.go:11 -/
noncomputable def f15r3 : K2 :=
  .mv (.con (.int .i64 (0))) (some (sOf 7)) <|
  .done
/- ref.go:11 -/
noncomputable def f15r4 : K2 :=
  .mv (tO 7) (some (sOf 31)) <|
  .mv (tO 0) (some (sOf 32)) <|
  .ln (fun xs H => fstO (builtinF .len look [22] xs H)) [(tO 32)] (some (sOf 33)) <|
  .p2 (binF .lss (evBin look .lss 3 (.tmp 31) (.tmp 33))) (tO 31) (tO 33) (some (sOf 34)) <|
  .done
noncomputable def f15r5_10 : K2 := .ln (fun xs _ => pickF xs) [(tO 42), (.con (.bool true)), (tO 47)] (some (sOf 48)) <|
  .done
noncomputable def f15r5_9 : K2 := .gd (sOf 42) false (some (sOf 47)) (.p2 (binF .gtr (evBin look .gtr 3 (.tmp 46) (.const (.int .i64 (4096))))) (tO 46) (.con (.int .i64 (4096))) (some (sOf 47)) <|
  f15r5_10) f15r5_10
noncomputable def f15r5_8 : K2 := .gd (sOf 42) false (some (sOf 46)) (.r1 ld1 (tO 45) (some (sOf 46)) <|
  f15r5_9) f15r5_9
noncomputable def f15r5_7 : K2 := .gd (sOf 42) false (some (sOf 45)) (.p2 (ixS 1) (tO 43) (tO 44) (some (sOf 45)) <|
  f15r5_8) f15r5_8
noncomputable def f15r5_6 : K2 := .gd (sOf 42) false (some (sOf 44)) (.mv (tO 7) (some (sOf 44)) <|
  f15r5_7) f15r5_7
/- ref.go:12 -/
noncomputable def f15r5 : K2 :=
  .mv (tO 0) (some (sOf 37)) <|
  .mv (tO 7) (some (sOf 38)) <|
  .p2 (ixS 1) (tO 37) (tO 38) (some (sOf 39)) <|
  .r1 ld1 (tO 39) (some (sOf 40)) <|
  .p2 (binF .lss (evBin look .lss 3 (.tmp 40) (.const (.int .i64 (0))))) (tO 40) (.con (.int .i64 (0))) (some (sOf 41)) <|
  .mv (tO 41) (some (sOf 42)) <|
  .gd (sOf 42) false (some (sOf 43)) (.mv (tO 0) (some (sOf 43)) <|
  f15r5_6) f15r5_6
/- ref.go:13 -/
noncomputable def f15r6 : K2 :=
  .mv (.con (.int .i64 (2))) (some (sOf 6)) <|
  .done
/- ref.go:11 -/
noncomputable def f15r7 : K2 :=
  .mv (tO 7) (some (sOf 35)) <|
  .p2 (binF .add (evBin look .add 3 (.tmp 35) (.const (.int .i64 (1))))) (tO 35) (.con (.int .i64 (1))) (some (sOf 36)) <|
  .mv (tO 36) (some (sOf 7)) <|
  .done
noncomputable def f15l0 : C2 := (.seq (.seq (.reg f15r4)
  (.cond (tO 34) .skip (.exit 0)))
  (.seq (.block 1 (.seq (.reg f15r5)
  (.cond (tO 48) (.seq (.reg f15r6)
  .ret) .skip)))
  (.reg f15r7)))
noncomputable def f15b0 : Code := lpN f15body 0
theorem f15l0_eq : comp look f15b0 = f15l0 := by kernel_rfl
/- ref.go:16 -/
noncomputable def f15r8 : K2 :=
  .mv (.con (.int .i64 (0))) (some (sOf 6)) <|
  .done
noncomputable def f15c : C2 := (.seq (.reg f15r0)
  (.seq (.seq (.reg f15r1)
  (.cond (tO 30) (.seq (.reg f15r2)
  .ret) .skip))
  (.seq (.seq (.reg f15r3)
  (.block 0 (.loop f15b0)))
  (.seq (.reg f15r8)
  .ret))))
theorem f15_eq : fnF look 15 = some ⟨49, f15c, [.tmp 6]⟩ := by kernel_rfl

/-! caulker/caulkerkit.KeptInts: parameters [22, 22], temporaries 23 -/
noncomputable def f16body : Code := bodyN look 16
/- lists.go:42 -/
noncomputable def f16r0 : K2 :=
  .mv (.con (.bool false)) (some (sOf 4)) <|
  .done
noncomputable def f16r1_16 : K2 := .ln (fun xs _ => pickF xs) [(tO 10), (tO 21), (.con (.bool false))] (some (sOf 22)) <|
  .mv (tO 22) (some (sOf 4)) <|
  .done
noncomputable def f16r1_15 : K2 := .gd (sOf 10) true (some (sOf 21)) (.cl false 13 [(tO 14), (tO 20)] (some (sOf 21)) <|
  f16r1_16) f16r1_16
noncomputable def f16r1_11 : K2 := .gd (sOf 10) true (some (sOf 20)) (.ln (fun xs _ => sliceF look 22 false true false xs) [(tO 16), (tO 19)] (some (sOf 20)) <|
  f16r1_15) f16r1_15
noncomputable def f16r1_14 : K2 := .gd (sOf 10) true (some (sOf 16)) (.cl false 9 [(tO 15)] (some (sOf 16)) <|
  f16r1_11) f16r1_11
noncomputable def f16r1_13 : K2 := .gd (sOf 10) true (some (sOf 19)) (.p2 (binF .add (evBin look .add 3 (.tmp 18) (.const (.int .i64 (3))))) (tO 18) (.con (.int .i64 (3))) (some (sOf 19)) <|
  f16r1_14) f16r1_14
noncomputable def f16r1_12 : K2 := .gd (sOf 10) true (some (sOf 18)) (.ln (fun xs H => fstO (builtinF .len look [22] xs H)) [(tO 17)] (some (sOf 18)) <|
  f16r1_13) f16r1_13
noncomputable def f16r1_10 : K2 := .gd (sOf 10) true (some (sOf 17)) (.mv (tO 1) (some (sOf 17)) <|
  f16r1_12) f16r1_12
noncomputable def f16r1_9 : K2 := .gd (sOf 10) true (some (sOf 15)) (.mv (tO 1) (some (sOf 15)) <|
  f16r1_10) f16r1_10
noncomputable def f16r1_8 : K2 := .gd (sOf 10) true (some (sOf 14)) (.ln (fun xs _ => sliceF look 22 false true false xs) [(tO 11), (tO 13)] (some (sOf 14)) <|
  f16r1_9) f16r1_9
noncomputable def f16r1_7 : K2 := .gd (sOf 10) true (some (sOf 13)) (.ln (fun xs H => fstO (builtinF .cap look [22] xs H)) [(tO 12)] (some (sOf 13)) <|
  f16r1_8) f16r1_8
noncomputable def f16r1_6 : K2 := .gd (sOf 10) true (some (sOf 12)) (.mv (tO 0) (some (sOf 12)) <|
  f16r1_7) f16r1_7
/- lists.go:43 -/
noncomputable def f16r1 : K2 :=
  .mv (tO 0) (some (sOf 5)) <|
  .ln (fun xs H => fstO (builtinF .len look [22] xs H)) [(tO 5)] (some (sOf 6)) <|
  .mv (tO 1) (some (sOf 7)) <|
  .ln (fun xs H => fstO (builtinF .len look [22] xs H)) [(tO 7)] (some (sOf 8)) <|
  .p2 (binF .eql (evBin look .eql 3 (.tmp 6) (.tmp 8))) (tO 6) (tO 8) (some (sOf 9)) <|
  .mv (tO 9) (some (sOf 10)) <|
  .gd (sOf 10) true (some (sOf 11)) (.mv (tO 0) (some (sOf 11)) <|
  f16r1_6) f16r1_6
noncomputable def f16c : C2 := (.seq (.reg f16r0)
  (.seq (.reg f16r1)
  .ret))
theorem f16_eq : fnF look 16 = some ⟨23, f16c, [.tmp 4]⟩ := by kernel_rfl

/-! caulker/caulkerkit.KeptBools: parameters [23, 23], temporaries 23 -/
noncomputable def f17body : Code := bodyN look 17
/- bools.go:25 -/
noncomputable def f17r0 : K2 :=
  .mv (.con (.bool false)) (some (sOf 4)) <|
  .done
noncomputable def f17r1_16 : K2 := .ln (fun xs _ => pickF xs) [(tO 10), (tO 21), (.con (.bool false))] (some (sOf 22)) <|
  .mv (tO 22) (some (sOf 4)) <|
  .done
noncomputable def f17r1_15 : K2 := .gd (sOf 10) true (some (sOf 21)) (.cl false 29 [(tO 14), (tO 20)] (some (sOf 21)) <|
  f17r1_16) f17r1_16
noncomputable def f17r1_11 : K2 := .gd (sOf 10) true (some (sOf 20)) (.ln (fun xs _ => sliceF look 23 false true false xs) [(tO 16), (tO 19)] (some (sOf 20)) <|
  f17r1_15) f17r1_15
noncomputable def f17r1_14 : K2 := .gd (sOf 10) true (some (sOf 16)) (.cl false 10 [(tO 15)] (some (sOf 16)) <|
  f17r1_11) f17r1_11
noncomputable def f17r1_13 : K2 := .gd (sOf 10) true (some (sOf 19)) (.p2 (binF .add (evBin look .add 3 (.tmp 18) (.const (.int .i64 (3))))) (tO 18) (.con (.int .i64 (3))) (some (sOf 19)) <|
  f17r1_14) f17r1_14
noncomputable def f17r1_12 : K2 := .gd (sOf 10) true (some (sOf 18)) (.ln (fun xs H => fstO (builtinF .len look [23] xs H)) [(tO 17)] (some (sOf 18)) <|
  f17r1_13) f17r1_13
noncomputable def f17r1_10 : K2 := .gd (sOf 10) true (some (sOf 17)) (.mv (tO 1) (some (sOf 17)) <|
  f17r1_12) f17r1_12
noncomputable def f17r1_9 : K2 := .gd (sOf 10) true (some (sOf 15)) (.mv (tO 1) (some (sOf 15)) <|
  f17r1_10) f17r1_10
noncomputable def f17r1_8 : K2 := .gd (sOf 10) true (some (sOf 14)) (.ln (fun xs _ => sliceF look 23 false true false xs) [(tO 11), (tO 13)] (some (sOf 14)) <|
  f17r1_9) f17r1_9
noncomputable def f17r1_7 : K2 := .gd (sOf 10) true (some (sOf 13)) (.ln (fun xs H => fstO (builtinF .cap look [23] xs H)) [(tO 12)] (some (sOf 13)) <|
  f17r1_8) f17r1_8
noncomputable def f17r1_6 : K2 := .gd (sOf 10) true (some (sOf 12)) (.mv (tO 0) (some (sOf 12)) <|
  f17r1_7) f17r1_7
/- bools.go:26 -/
noncomputable def f17r1 : K2 :=
  .mv (tO 0) (some (sOf 5)) <|
  .ln (fun xs H => fstO (builtinF .len look [23] xs H)) [(tO 5)] (some (sOf 6)) <|
  .mv (tO 1) (some (sOf 7)) <|
  .ln (fun xs H => fstO (builtinF .len look [23] xs H)) [(tO 7)] (some (sOf 8)) <|
  .p2 (binF .eql (evBin look .eql 3 (.tmp 6) (.tmp 8))) (tO 6) (tO 8) (some (sOf 9)) <|
  .mv (tO 9) (some (sOf 10)) <|
  .gd (sOf 10) true (some (sOf 11)) (.mv (tO 0) (some (sOf 11)) <|
  f17r1_6) f17r1_6
noncomputable def f17c : C2 := (.seq (.reg f17r0)
  (.seq (.reg f17r1)
  .ret))
theorem f17_eq : fnF look 17 = some ⟨23, f17c, [.tmp 4]⟩ := by kernel_rfl

/-! caulker/place.Many: parameters [22, 23, 3], temporaries 49 -/
noncomputable def f18body : Code := bodyN look 18
/- place.go:58 -/
noncomputable def f18r0 : K2 :=
  .mv (.con (.int .i64 (0))) (some (sOf 6)) <|
  .mv (.con (.int .i64 (0))) (some (sOf 7)) <|
  .done
/- place.go:59 -/
noncomputable def f18r1 : K2 :=
  .mv (tO 0) (some (sOf 15)) <|
  .mv (tO 1) (some (sOf 16)) <|
  .mv (tO 2) (some (sOf 17)) <|
  .cl false 14 [(tO 15), (tO 16), (tO 17)] (some (sOf 18)) <|
  .mv (tO 18) (some (sOf 8)) <|
  .done
/- place.go:59 -/
noncomputable def f18r2 : K2 :=
  .mv (tO 8) (some (sOf 19)) <|
  .p2 (binF .neq (evBin look .neq 27 (.tmp 19) (.const (.int .i64 (0))))) (tO 19) (.con (.int .i64 (0))) (some (sOf 20)) <|
  .done
/- place.go:60 -/
noncomputable def f18r3 : K2 :=
  .mv (tO 8) (some (sOf 21)) <|
  .mv (.con (.int .i64 (0))) (some (sOf 6)) <|
  .mv (tO 21) (some (sOf 7)) <|
  .done
/- place.go:62 -/
noncomputable def f18r4 : K2 :=
  .mv (tO 0) (some (sOf 22)) <|
  .cl false 30 [(tO 22)] (some (sOf 23)) <|
  .mv (tO 23) (some (sOf 9)) <|
  .done
/- place.go:63 -/
noncomputable def f18r5 : K2 :=
  .mv (.con (.int .i64 (0))) (some (sOf 10)) <|
  .done
/- place.go:64 -/
noncomputable def f18r6 : K2 :=
  .mv (tO 9) (some (sOf 27)) <|
  .mv (tO 1) (some (sOf 28)) <|
  .mv (tO 2) (some (sOf 29)) <|
  .cl false 25 [(tO 27), (tO 28), (tO 29)] (some (sOf 30)) <|
  .mv (tO 30) (some (sOf 26)) <|
  .p1 (exN 0) (tO 26) (some (sOf 31)) <|
  .p1 (exN 1) (tO 26) (some (sOf 32)) <|
  .mv (tO 31) (some (sOf 11)) <|
  .mv (tO 32) (some (sOf 12)) <|
  .done
/- place.go:65 -/
noncomputable def f18r7 : K2 :=
  .mv (tO 12) (some (sOf 33)) <|
  .p1 notF (tO 33) (some (sOf 34)) <|
  .done
/- place.go:66 -/
noncomputable def f18r8 : K2 :=
  .mv (tO 10) (some (sOf 35)) <|
  .mv (tO 35) (some (sOf 6)) <|
  .mv (.con (.int .i64 (0))) (some (sOf 7)) <|
  .done
/- place.go:68 -/
noncomputable def f18r9 : K2 :=
  .mv (tO 11) (some (sOf 36)) <|
  .ln (fun xs H => fstO (builtinF .len look [22] xs H)) [(tO 36)] (some (sOf 37)) <|
  .mv (.con (.int .i64 (0))) (some (sOf 38)) <|
  .done
/- place.go:68 -/
noncomputable def f18r10 : K2 :=
  .p2 (binF .lss (evBin look .lss 3 (.tmp 38) (.tmp 37))) (tO 38) (tO 37) (some (sOf 39)) <|
  .done
/- place.go:68 -/
noncomputable def f18r11 : K2 :=
  .p2 (ixS 1) (tO 36) (tO 38) (some (sOf 40)) <|
  .r1 ld1 (tO 40) (some (sOf 41)) <|
  .mv (tO 41) (some (sOf 14)) <|
  .done
/- place.go:69 -/
noncomputable def f18r12 : K2 :=
  .mv (tO 9) (some (sOf 42)) <|
  .mv (tO 14) (some (sOf 43)) <|
  .p2 (ixS 1) (tO 42) (tO 43) (some (sOf 44)) <|
  .r1 ld1 (tO 44) (some (sOf 45)) <|
  .p2 (binF .sub (evBin look .sub 3 (.tmp 45) (.const (.int .i64 (1))))) (tO 45) (.con (.int .i64 (1))) (some (sOf 46)) <|
  .p2 (ixS 1) (tO 42) (tO 43) (some (sOf 47)) <|
  .st false (st1 look 3) (tO 47) (tO 46) none <|
  .done
/- place.go:68 -/
noncomputable def f18r13 : K2 :=
  .p2 (binF .add (evBin look .add 3 (.tmp 38) (.const (.int .i64 (1))))) (tO 38) (.con (.int .i64 (1))) (some (sOf 48)) <|
  .mv (tO 48) (some (sOf 38)) <|
  .done
noncomputable def f18l1 : C2 := (.seq (.reg f18r10)
  (.seq (.cond (tO 39) .skip (.exit 2))
  (.seq (.block 3 (.seq (.reg f18r11)
  (.reg f18r12)))
  (.reg f18r13))))
noncomputable def f18b1 : Code := lpN f18body 1
theorem f18l1_eq : comp look f18b1 = f18l1 := by kernel_rfl
/- place.go:63 -/
noncomputable def f18r14 : K2 :=
  .mv (tO 10) (some (sOf 24)) <|
  .p2 (binF .add (evBin look .add 3 (.tmp 24) (.const (.int .i64 (1))))) (tO 24) (.con (.int .i64 (1))) (some (sOf 25)) <|
  .mv (tO 25) (some (sOf 10)) <|
  .done
noncomputable def f18l0 : C2 := (.seq (.block 1 (.seq (.reg f18r6)
  (.seq (.seq (.reg f18r7)
  (.cond (tO 34) (.seq (.reg f18r8)
  .ret) .skip))
  (.seq (.reg f18r9)
  (.block 2 (.loop f18b1))))))
  (.reg f18r14))
noncomputable def f18b0 : Code := lpN f18body 0
theorem f18l0_eq : comp look f18b0 = f18l0 := by kernel_rfl
noncomputable def f18c : C2 := (.seq (.reg f18r0)
  (.seq (.seq (.reg f18r1)
  (.seq (.reg f18r2)
  (.cond (tO 20) (.seq (.reg f18r3)
  .ret) .skip)))
  (.seq (.reg f18r4)
  (.seq (.reg f18r5)
  (.block 0 (.loop f18b0))))))
theorem f18_eq : fnF look 18 = some ⟨49, f18c, [.tmp 6, .tmp 7]⟩ := by kernel_rfl

/-! caulker/caulkerref07.Many: parameters [22, 23, 3], temporaries 51 -/
noncomputable def f19body : Code := bodyN look 19
/- ref.go:68 -/
noncomputable def f19r0 : K2 :=
  .mv (.con (.int .i64 (0))) (some (sOf 6)) <|
  .mv (.con (.int .i64 (0))) (some (sOf 7)) <|
  .done
/- ref.go:69 -/
noncomputable def f19r1 : K2 :=
  .mv (tO 0) (some (sOf 14)) <|
  .mv (tO 1) (some (sOf 15)) <|
  .mv (tO 2) (some (sOf 16)) <|
  .cl false 15 [(tO 14), (tO 15), (tO 16)] (some (sOf 17)) <|
  .mv (tO 17) (some (sOf 8)) <|
  .done
/- ref.go:70 -/
noncomputable def f19r2 : K2 :=
  .mv (tO 8) (some (sOf 18)) <|
  .p2 (binF .neq (evBin look .neq 27 (.tmp 18) (.const (.int .i64 (0))))) (tO 18) (.con (.int .i64 (0))) (some (sOf 19)) <|
  .done
/- ref.go:71 -/
noncomputable def f19r3 : K2 :=
  .mv (tO 8) (some (sOf 20)) <|
  .mv (.con (.int .i64 (0))) (some (sOf 6)) <|
  .mv (tO 20) (some (sOf 7)) <|
  .done
/- ref.go:73 -/
noncomputable def f19r4 : K2 :=
  .hn false (fun xs H => bsF 1 0 (.int .i64 (0)) 3 (zipF [] xs) H) [] (some (sOf 21)) <|
  .mv (tO 0) (some (sOf 22)) <|
  .hn false (appX 3 1 8) [(tO 21), (tO 22)] (some (sOf 23)) <|
  .mv (tO 23) (some (sOf 9)) <|
  .done
/- ref.go:74 -/
noncomputable def f19r5 : K2 :=
  .mv (.con (.int .i64 (0))) (some (sOf 10)) <|
  .done
/- ref.go:76 -/
noncomputable def f19r6 : K2 :=
  .mv (tO 9) (some (sOf 25)) <|
  .mv (tO 1) (some (sOf 26)) <|
  .mv (tO 2) (some (sOf 27)) <|
  .cl false 12 [(tO 25), (tO 26), (tO 27)] (some (sOf 28)) <|
  .mv (tO 28) (some (sOf 24)) <|
  .p1 (exN 0) (tO 24) (some (sOf 29)) <|
  .p1 (exN 1) (tO 24) (some (sOf 30)) <|
  .mv (tO 29) (some (sOf 11)) <|
  .mv (tO 30) (some (sOf 12)) <|
  .done
/- ref.go:77 -/
noncomputable def f19r7 : K2 :=
  .mv (tO 12) (some (sOf 31)) <|
  .p2 (binF .neq (evBin look .neq 27 (.tmp 31) (.const (.int .i64 (0))))) (tO 31) (.con (.int .i64 (0))) (some (sOf 32)) <|
  .done
/- ref.go:78 -/
noncomputable def f19r8 : K2 :=
  .mv (tO 10) (some (sOf 33)) <|
  .mv (tO 33) (some (sOf 6)) <|
  .mv (.con (.int .i64 (0))) (some (sOf 7)) <|
  .done
/- ref.go:80 -/
noncomputable def f19r9 : K2 :=
  .mv (.con (.int .i64 (0))) (some (sOf 13)) <|
  .done
/- ref.go:80 -/
noncomputable def f19r10 : K2 :=
  .mv (tO 13) (some (sOf 34)) <|
  .mv (tO 11) (some (sOf 35)) <|
  .ln (fun xs H => fstO (builtinF .len look [22] xs H)) [(tO 35)] (some (sOf 36)) <|
  .p2 (binF .lss (evBin look .lss 3 (.tmp 34) (.tmp 36))) (tO 34) (tO 36) (some (sOf 37)) <|
  .done
/- ref.go:81 -/
noncomputable def f19r11 : K2 :=
  .mv (tO 9) (some (sOf 40)) <|
  .mv (tO 11) (some (sOf 41)) <|
  .mv (tO 13) (some (sOf 42)) <|
  .p2 (ixS 1) (tO 41) (tO 42) (some (sOf 43)) <|
  .r1 ld1 (tO 43) (some (sOf 44)) <|
  .p2 (ixS 1) (tO 40) (tO 44) (some (sOf 45)) <|
  .r1 ld1 (tO 45) (some (sOf 46)) <|
  .p2 (binF .sub (evBin look .sub 3 (.tmp 46) (.const (.int .i64 (1))))) (tO 46) (.con (.int .i64 (1))) (some (sOf 47)) <|
  .p2 (ixS 1) (tO 40) (tO 44) (some (sOf 48)) <|
  .st false (st1 look 3) (tO 48) (tO 47) none <|
  .done
/- ref.go:80 -/
noncomputable def f19r12 : K2 :=
  .mv (tO 13) (some (sOf 38)) <|
  .p2 (binF .add (evBin look .add 3 (.tmp 38) (.const (.int .i64 (1))))) (tO 38) (.con (.int .i64 (1))) (some (sOf 39)) <|
  .mv (tO 39) (some (sOf 13)) <|
  .done
noncomputable def f19l1 : C2 := (.seq (.seq (.reg f19r10)
  (.cond (tO 37) .skip (.exit 2)))
  (.seq (.block 3 (.reg f19r11))
  (.reg f19r12)))
noncomputable def f19b1 : Code := lpN f19body 1
theorem f19l1_eq : comp look f19b1 = f19l1 := by kernel_rfl
/- ref.go:83 -/
noncomputable def f19r13 : K2 :=
  .mv (tO 10) (some (sOf 49)) <|
  .p2 (binF .add (evBin look .add 3 (.tmp 49) (.const (.int .i64 (1))))) (tO 49) (.con (.int .i64 (1))) (some (sOf 50)) <|
  .mv (tO 50) (some (sOf 10)) <|
  .done
noncomputable def f19l0 : C2 := (.block 1 (.seq (.reg f19r6)
  (.seq (.seq (.reg f19r7)
  (.cond (tO 32) (.seq (.reg f19r8)
  .ret) .skip))
  (.seq (.seq (.reg f19r9)
  (.block 2 (.loop f19b1)))
  (.reg f19r13)))))
noncomputable def f19b0 : Code := lpN f19body 0
theorem f19l0_eq : comp look f19b0 = f19l0 := by kernel_rfl
noncomputable def f19c : C2 := (.seq (.reg f19r0)
  (.seq (.reg f19r1)
  (.seq (.seq (.reg f19r2)
  (.cond (tO 19) (.seq (.reg f19r3)
  .ret) .skip))
  (.seq (.reg f19r4)
  (.seq (.reg f19r5)
  (.block 0 (.loop f19b0)))))))
theorem f19_eq : fnF look 19 = some ⟨51, f19c, [.tmp 6, .tmp 7]⟩ := by kernel_rfl

/-! caulker/caulkerlaw07.room: parameters [3, 22, 23], temporaries 48 -/
noncomputable def f23body : Code := bodyN look 23
/- outright.go:45 -/
noncomputable def f23r0 : K2 :=
  .mv (.con .nilSl) (some (sOf 6)) <|
  .mv (.con .nilSl) (some (sOf 7)) <|
  .done
/- outright.go:46 -/
noncomputable def f23r1 : K2 :=
  .mv (tO 0) (some (sOf 12)) <|
  .cl false 24 [(tO 12), (.con (.int .i64 (7)))] (some (sOf 13)) <|
  .p2 (binF .add (evBin look .add 3 (.const (.int .i64 (2))) (.tmp 13))) (.con (.int .i64 (2))) (tO 13) (some (sOf 14)) <|
  .mv (tO 14) (some (sOf 0)) <|
  .done
/- outright.go:47 -/
noncomputable def f23r2 : K2 :=
  .mv (.con .nilSl) (some (sOf 8)) <|
  .done
/- outright.go:48 -/
noncomputable def f23r3 : K2 :=
  .mv (.con .nilSl) (some (sOf 9)) <|
  .done
/- outright.go:49 -/
noncomputable def f23r4 : K2 :=
  .mv (.con (.int .i64 (0))) (some (sOf 10)) <|
  .done
/- outright.go:49 -/
noncomputable def f23r5 : K2 :=
  .mv (tO 10) (some (sOf 15)) <|
  .mv (tO 0) (some (sOf 16)) <|
  .p2 (binF .lss (evBin look .lss 3 (.tmp 15) (.tmp 16))) (tO 15) (tO 16) (some (sOf 17)) <|
  .done
/- outright.go:50 -/
noncomputable def f23r6 : K2 :=
  .mv (.con (.int .i64 (0))) (some (sOf 11)) <|
  .done
/- outright.go:51 -/
noncomputable def f23r7 : K2 :=
  .mv (tO 10) (some (sOf 20)) <|
  .mv (tO 1) (some (sOf 21)) <|
  .ln (fun xs H => fstO (builtinF .len look [22] xs H)) [(tO 21)] (some (sOf 22)) <|
  .p2 (binF .lss (evBin look .lss 3 (.tmp 20) (.tmp 22))) (tO 20) (tO 22) (some (sOf 23)) <|
  .done
/- outright.go:52 -/
noncomputable def f23r8 : K2 :=
  .mv (tO 1) (some (sOf 24)) <|
  .mv (tO 10) (some (sOf 25)) <|
  .p2 (ixS 1) (tO 24) (tO 25) (some (sOf 26)) <|
  .r1 ld1 (tO 26) (some (sOf 27)) <|
  .cl false 24 [(tO 27), (.con (.int .i64 (4097)))] (some (sOf 28)) <|
  .mv (tO 28) (some (sOf 11)) <|
  .done
/- outright.go:54 -/
noncomputable def f23r9 : K2 :=
  .mv (tO 8) (some (sOf 29)) <|
  .mv (tO 11) (some (sOf 30)) <|
  .hn false (fun xs H => bsF 1 1 (.int .i64 (0)) 3 (zipF [0] xs) H) [(tO 30)] (some (sOf 31)) <|
  .hn false (appX 3 1 8) [(tO 29), (tO 31)] (some (sOf 32)) <|
  .mv (tO 32) (some (sOf 8)) <|
  .done
noncomputable def f23r10_9 : K2 := .ln (fun xs _ => pickF xs) [(tO 38), (.con (.bool true)), (tO 42)] (some (sOf 43)) <|
  .hn false (fun xs H => bsF 1 1 (.bool false) 4 (zipF [0] xs) H) [(tO 43)] (some (sOf 44)) <|
  .hn false (appX 4 1 1) [(tO 33), (tO 44)] (some (sOf 45)) <|
  .mv (tO 45) (some (sOf 9)) <|
  .done
noncomputable def f23r10_8 : K2 := .gd (sOf 38) false (some (sOf 42)) (.r1 ld1 (tO 41) (some (sOf 42)) <|
  f23r10_9) f23r10_9
noncomputable def f23r10_7 : K2 := .gd (sOf 38) false (some (sOf 41)) (.p2 (ixS 1) (tO 39) (tO 40) (some (sOf 41)) <|
  f23r10_8) f23r10_8
noncomputable def f23r10_6 : K2 := .gd (sOf 38) false (some (sOf 40)) (.mv (tO 10) (some (sOf 40)) <|
  f23r10_7) f23r10_7
/- outright.go:55 -/
noncomputable def f23r10 : K2 :=
  .mv (tO 9) (some (sOf 33)) <|
  .mv (tO 10) (some (sOf 34)) <|
  .mv (tO 2) (some (sOf 35)) <|
  .ln (fun xs H => fstO (builtinF .len look [23] xs H)) [(tO 35)] (some (sOf 36)) <|
  .p2 (binF .geq (evBin look .geq 3 (.tmp 34) (.tmp 36))) (tO 34) (tO 36) (some (sOf 37)) <|
  .mv (tO 37) (some (sOf 38)) <|
  .gd (sOf 38) false (some (sOf 39)) (.mv (tO 2) (some (sOf 39)) <|
  f23r10_6) f23r10_6
/- outright.go:49 -/
noncomputable def f23r11 : K2 :=
  .mv (tO 10) (some (sOf 18)) <|
  .p2 (binF .add (evBin look .add 3 (.tmp 18) (.const (.int .i64 (1))))) (tO 18) (.con (.int .i64 (1))) (some (sOf 19)) <|
  .mv (tO 19) (some (sOf 10)) <|
  .done
noncomputable def f23l0 : C2 := (.seq (.seq (.reg f23r5)
  (.cond (tO 17) .skip (.exit 0)))
  (.seq (.block 1 (.seq (.reg f23r6)
  (.seq (.seq (.reg f23r7)
  (.cond (tO 23) (.reg f23r8) .skip))
  (.seq (.reg f23r9)
  (.reg f23r10)))))
  (.reg f23r11)))
noncomputable def f23b0 : Code := lpN f23body 0
theorem f23l0_eq : comp look f23b0 = f23l0 := by kernel_rfl
/- outright.go:57 -/
noncomputable def f23r12 : K2 :=
  .mv (tO 8) (some (sOf 46)) <|
  .mv (tO 9) (some (sOf 47)) <|
  .mv (tO 46) (some (sOf 6)) <|
  .mv (tO 47) (some (sOf 7)) <|
  .done
noncomputable def f23c : C2 := (.seq (.reg f23r0)
  (.seq (.reg f23r1)
  (.seq (.reg f23r2)
  (.seq (.reg f23r3)
  (.seq (.seq (.reg f23r4)
  (.block 0 (.loop f23b0)))
  (.seq (.reg f23r12)
  .ret))))))
theorem f23_eq : fnF look 23 = some ⟨48, f23c, [.tmp 6, .tmp 7]⟩ := by kernel_rfl

/-! caulker/caulkerkit.Pick: parameters [3, 3], temporaries 16 -/
noncomputable def f24body : Code := bodyN look 24
/- kit.go:8 -/
noncomputable def f24r0 : K2 :=
  .mv (.con (.int .i64 (0))) (some (sOf 4)) <|
  .done
/- kit.go:9 -/
noncomputable def f24r1 : K2 :=
  .mv (tO 1) (some (sOf 5)) <|
  .p2 (binF .lss (evBin look .lss 3 (.tmp 5) (.const (.int .i64 (1))))) (tO 5) (.con (.int .i64 (1))) (some (sOf 6)) <|
  .done
/- kit.go:10 -/
noncomputable def f24r2 : K2 :=
  .mv (.con (.int .i64 (0))) (some (sOf 4)) <|
  .done
/- kit.go:12 -/
noncomputable def f24r3 : K2 :=
  .mv (tO 0) (some (sOf 7)) <|
  .mv (tO 1) (some (sOf 8)) <|
  .p2 (binF .rem (evBin look .rem 3 (.tmp 7) (.tmp 8))) (tO 7) (tO 8) (some (sOf 9)) <|
  .mv (tO 9) (some (sOf 0)) <|
  .done
/- kit.go:13 -/
noncomputable def f24r4 : K2 :=
  .mv (tO 0) (some (sOf 10)) <|
  .p2 (binF .lss (evBin look .lss 3 (.tmp 10) (.const (.int .i64 (0))))) (tO 10) (.con (.int .i64 (0))) (some (sOf 11)) <|
  .done
/- kit.go:14 -/
noncomputable def f24r5 : K2 :=
  .mv (tO 0) (some (sOf 12)) <|
  .mv (tO 1) (some (sOf 13)) <|
  .p2 (binF .add (evBin look .add 3 (.tmp 12) (.tmp 13))) (tO 12) (tO 13) (some (sOf 14)) <|
  .mv (tO 14) (some (sOf 0)) <|
  .done
/- kit.go:16 -/
noncomputable def f24r6 : K2 :=
  .mv (tO 0) (some (sOf 15)) <|
  .mv (tO 15) (some (sOf 4)) <|
  .done
noncomputable def f24c : C2 := (.seq (.reg f24r0)
  (.seq (.seq (.reg f24r1)
  (.cond (tO 6) (.seq (.reg f24r2)
  .ret) .skip))
  (.seq (.reg f24r3)
  (.seq (.seq (.reg f24r4)
  (.cond (tO 11) (.reg f24r5) .skip))
  (.seq (.reg f24r6)
  .ret)))))
theorem f24_eq : fnF look 24 = some ⟨16, f24c, [.tmp 4]⟩ := by kernel_rfl

/-! caulker/place.choose: parameters [22, 23, 3], temporaries 53 -/
noncomputable def f25body : Code := bodyN look 25
/- place.go:24 -/
noncomputable def f25r0 : K2 :=
  .m1 false (fun v H => alF v.toC 22 1 H) (tO 0) (some (sOf 3)) <|
  .mv (.con .nilSl) (some (sOf 6)) <|
  .mv (.con (.bool false)) (some (sOf 7)) <|
  .done
/- place.go:25 -/
noncomputable def f25r1 : K2 :=
  .mv (.con .nilSl) (some (sOf 8)) <|
  .done
/- place.go:26 -/
noncomputable def f25r2 : K2 :=
  .mv (.con (.int .i64 (0))) (some (sOf 9)) <|
  .done
/- place.go:28 -/
noncomputable def f25r3 : K2 :=
  .r1 ld1 (tO 3) (some (sOf 12)) <|
  .ln (fun xs H => fstO (builtinF .len look [22] xs H)) [(tO 12)] (some (sOf 13)) <|
  .mv (.con (.int .i64 (0))) (some (sOf 14)) <|
  .done
/- place.go:28 -/
noncomputable def f25r4 : K2 :=
  .p2 (binF .lss (evBin look .lss 3 (.tmp 14) (.tmp 13))) (tO 14) (tO 13) (some (sOf 15)) <|
  .done
/- place.go:28 -/
noncomputable def f25r5 : K2 :=
  .mv (tO 14) (some (sOf 16)) <|
  .mv (tO 16) (some (sOf 10)) <|
  .done
/- place.go:29 -/
noncomputable def f25r6 : K2 :=
  .mv (tO 1) (some (sOf 17)) <|
  .mv (tO 10) (some (sOf 18)) <|
  .p2 (ixS 1) (tO 17) (tO 18) (some (sOf 19)) <|
  .r1 ld1 (tO 19) (some (sOf 20)) <|
  .p1 notF (tO 20) (some (sOf 21)) <|
  .done
/- place.go:32 -/
noncomputable def f25r7 : K2 :=
  .mv (tO 9) (some (sOf 22)) <|
  .p2 (binF .add (evBin look .add 3 (.tmp 22) (.const (.int .i64 (1))))) (tO 22) (.con (.int .i64 (1))) (some (sOf 23)) <|
  .mv (tO 23) (some (sOf 9)) <|
  .done
/- place.go:33 -/
noncomputable def f25r8 : K2 :=
  .r1 ld1 (tO 3) (some (sOf 24)) <|
  .mv (tO 10) (some (sOf 25)) <|
  .p2 (ixS 1) (tO 24) (tO 25) (some (sOf 26)) <|
  .r1 ld1 (tO 26) (some (sOf 27)) <|
  .p2 (binF .gtr (evBin look .gtr 3 (.tmp 27) (.const (.int .i64 (0))))) (tO 27) (.con (.int .i64 (0))) (some (sOf 28)) <|
  .done
/- place.go:34 -/
noncomputable def f25r9 : K2 :=
  .mv (tO 8) (some (sOf 29)) <|
  .mv (tO 10) (some (sOf 30)) <|
  .hn false (fun xs H => bsF 1 1 (.int .i64 (0)) 3 (zipF [0] xs) H) [(tO 30)] (some (sOf 31)) <|
  .hn false (appX 3 1 8) [(tO 29), (tO 31)] (some (sOf 32)) <|
  .mv (tO 32) (some (sOf 8)) <|
  .done
/- place.go:28 -/
noncomputable def f25r10 : K2 :=
  .p2 (binF .add (evBin look .add 3 (.tmp 14) (.const (.int .i64 (1))))) (tO 14) (.con (.int .i64 (1))) (some (sOf 33)) <|
  .mv (tO 33) (some (sOf 14)) <|
  .done
noncomputable def f25l0 : C2 := (.seq (.reg f25r4)
  (.seq (.cond (tO 15) .skip (.exit 0))
  (.seq (.block 1 (.seq (.reg f25r5)
  (.seq (.seq (.reg f25r6)
  (.cond (tO 21) (.exit 1) .skip))
  (.seq (.reg f25r7)
  (.seq (.reg f25r8)
  (.cond (tO 28) (.reg f25r9) .skip))))))
  (.reg f25r10))))
noncomputable def f25b0 : Code := lpN f25body 0
theorem f25l0_eq : comp look f25b0 = f25l0 := by kernel_rfl
/- place.go:37 -/
noncomputable def f25r11 : K2 :=
  .mv (tO 2) (some (sOf 34)) <|
  .mv (tO 9) (some (sOf 35)) <|
  .ln (fun xs H => fstO (builtinF .min look [3, 3] xs H)) [(tO 34), (tO 35)] (some (sOf 36)) <|
  .mv (tO 36) (some (sOf 11)) <|
  .done
noncomputable def f25r12_7 : K2 := .ln (fun xs _ => pickF xs) [(tO 40), (.con (.bool true)), (tO 44)] (some (sOf 45)) <|
  .done
noncomputable def f25r12_6 : K2 := .gd (sOf 40) false (some (sOf 44)) (.p2 (binF .lss (evBin look .lss 3 (.tmp 42) (.tmp 43))) (tO 42) (tO 43) (some (sOf 44)) <|
  f25r12_7) f25r12_7
noncomputable def f25r12_5 : K2 := .gd (sOf 40) false (some (sOf 43)) (.mv (tO 11) (some (sOf 43)) <|
  f25r12_6) f25r12_6
noncomputable def f25r12_4 : K2 := .gd (sOf 40) false (some (sOf 42)) (.ln (fun xs H => fstO (builtinF .len look [22] xs H)) [(tO 41)] (some (sOf 42)) <|
  f25r12_5) f25r12_5
/- place.go:38 -/
noncomputable def f25r12 : K2 :=
  .mv (tO 8) (some (sOf 37)) <|
  .ln (fun xs H => fstO (builtinF .len look [22] xs H)) [(tO 37)] (some (sOf 38)) <|
  .p2 (binF .eql (evBin look .eql 3 (.tmp 38) (.const (.int .i64 (0))))) (tO 38) (.con (.int .i64 (0))) (some (sOf 39)) <|
  .mv (tO 39) (some (sOf 40)) <|
  .gd (sOf 40) false (some (sOf 41)) (.mv (tO 8) (some (sOf 41)) <|
  f25r12_4) f25r12_4
/- place.go:39 -/
noncomputable def f25r13 : K2 :=
  .mv (.con .nilSl) (some (sOf 6)) <|
  .mv (.con (.bool false)) (some (sOf 7)) <|
  .done
/- place.go:41 -/
noncomputable def f25r14 : K2 :=
  .mv (tO 8) (some (sOf 46)) <|
  .ln (fun zs _ => some (.fn (.func 32) (firstN 0 zs) (restN 0 zs))) [(tO 3)] (some (sOf 47)) <|
  .cl false 31 [(tO 46), (tO 47)] (some (sOf 48)) <|
  .done
/- place.go:42 -/
noncomputable def f25r15 : K2 :=
  .mv (tO 8) (some (sOf 49)) <|
  .mv (tO 11) (some (sOf 50)) <|
  .mv (tO 11) (some (sOf 51)) <|
  .ln (fun xs _ => sliceF look 22 false true true xs) [(tO 49), (tO 50), (tO 51)] (some (sOf 52)) <|
  .mv (tO 52) (some (sOf 6)) <|
  .mv (.con (.bool true)) (some (sOf 7)) <|
  .done
noncomputable def f25c : C2 := (.seq (.reg f25r0)
  (.scope (.seq (.reg f25r1)
  (.seq (.reg f25r2)
  (.seq .skip
  (.seq (.seq (.reg f25r3)
  (.block 0 (.loop f25b0)))
  (.seq (.reg f25r11)
  (.seq (.seq (.reg f25r12)
  (.cond (tO 45) (.seq (.reg f25r13)
  .ret) .skip))
  (.seq (.reg f25r14)
  (.seq (.reg f25r15)
  .ret))))))))))
theorem f25_eq : fnF look 25 = some ⟨53, f25c, [.tmp 6, .tmp 7]⟩ := by kernel_rfl

/-! caulker/caulkerref07.best: parameters [22, 23, 22], temporaries 49 -/
noncomputable def f26body : Code := bodyN look 26
/- ref.go:30 -/
noncomputable def f26r0 : K2 :=
  .mv (.con (.int .i64 (0))) (some (sOf 6)) <|
  .done
/- ref.go:31 -/
noncomputable def f26r1 : K2 :=
  .mv (.con (.int .i64 (-1))) (some (sOf 7)) <|
  .done
/- ref.go:32 -/
noncomputable def f26r2 : K2 :=
  .mv (.con (.int .i64 (0))) (some (sOf 8)) <|
  .done
/- ref.go:32 -/
noncomputable def f26r3 : K2 :=
  .mv (tO 8) (some (sOf 9)) <|
  .mv (tO 0) (some (sOf 10)) <|
  .ln (fun xs H => fstO (builtinF .len look [22] xs H)) [(tO 10)] (some (sOf 11)) <|
  .p2 (binF .lss (evBin look .lss 3 (.tmp 9) (.tmp 11))) (tO 9) (tO 11) (some (sOf 12)) <|
  .done
noncomputable def f26r4_30 : K2 := .ln (fun xs _ => pickF xs) [(tO 32), (tO 45), (.con (.bool false))] (some (sOf 46)) <|
  .done
noncomputable def f26r4_29 : K2 := .gd (sOf 32) true (some (sOf 45)) (.ln (fun xs _ => pickF xs) [(tO 35), (.con (.bool true)), (tO 44)] (some (sOf 45)) <|
  f26r4_30) f26r4_30
noncomputable def f26r4_28 : K2 := .gd (sOf 35) false (some (sOf 44)) (.p2 (binF .gtr (evBin look .gtr 3 (.tmp 39) (.tmp 43))) (tO 39) (tO 43) (some (sOf 44)) <|
  f26r4_29) f26r4_29
noncomputable def f26r4_27 : K2 := .gd (sOf 35) false (some (sOf 43)) (.r1 ld1 (tO 42) (some (sOf 43)) <|
  f26r4_28) f26r4_28
noncomputable def f26r4_26 : K2 := .gd (sOf 35) false (some (sOf 42)) (.p2 (ixS 1) (tO 40) (tO 41) (some (sOf 42)) <|
  f26r4_27) f26r4_27
noncomputable def f26r4_25 : K2 := .gd (sOf 35) false (some (sOf 41)) (.mv (tO 7) (some (sOf 41)) <|
  f26r4_26) f26r4_26
noncomputable def f26r4_24 : K2 := .gd (sOf 35) false (some (sOf 40)) (.mv (tO 0) (some (sOf 40)) <|
  f26r4_25) f26r4_25
noncomputable def f26r4_23 : K2 := .gd (sOf 35) false (some (sOf 39)) (.r1 ld1 (tO 38) (some (sOf 39)) <|
  f26r4_24) f26r4_24
noncomputable def f26r4_22 : K2 := .gd (sOf 35) false (some (sOf 38)) (.p2 (ixS 1) (tO 36) (tO 37) (some (sOf 38)) <|
  f26r4_23) f26r4_23
noncomputable def f26r4_21 : K2 := .gd (sOf 35) false (some (sOf 37)) (.mv (tO 8) (some (sOf 37)) <|
  f26r4_22) f26r4_22
noncomputable def f26r4_20 : K2 := .gd (sOf 35) false (some (sOf 36)) (.mv (tO 0) (some (sOf 36)) <|
  f26r4_21) f26r4_21
noncomputable def f26r4_19 : K2 := .gd (sOf 32) true (some (sOf 35)) (.mv (tO 34) (some (sOf 35)) <|
  f26r4_20) f26r4_20
noncomputable def f26r4_18 : K2 := .gd (sOf 32) true (some (sOf 34)) (.p2 (binF .lss (evBin look .lss 3 (.tmp 33) (.const (.int .i64 (0))))) (tO 33) (.con (.int .i64 (0))) (some (sOf 34)) <|
  f26r4_19) f26r4_19
noncomputable def f26r4_15 : K2 := .ln (fun xs _ => pickF xs) [(tO 26), (tO 30), (.con (.bool false))] (some (sOf 31)) <|
  .mv (tO 31) (some (sOf 32)) <|
  .gd (sOf 32) true (some (sOf 33)) (.mv (tO 7) (some (sOf 33)) <|
  f26r4_18) f26r4_18
noncomputable def f26r4_14 : K2 := .gd (sOf 26) true (some (sOf 30)) (.p1 notF (tO 29) (some (sOf 30)) <|
  f26r4_15) f26r4_15
noncomputable def f26r4_13 : K2 := .gd (sOf 26) true (some (sOf 29)) (.cl false 34 [(tO 27), (tO 28)] (some (sOf 29)) <|
  f26r4_14) f26r4_14
noncomputable def f26r4_12 : K2 := .gd (sOf 26) true (some (sOf 28)) (.mv (tO 8) (some (sOf 28)) <|
  f26r4_13) f26r4_13
noncomputable def f26r4_9 : K2 := .ln (fun xs _ => pickF xs) [(tO 19), (tO 24), (.con (.bool false))] (some (sOf 25)) <|
  .mv (tO 25) (some (sOf 26)) <|
  .gd (sOf 26) true (some (sOf 27)) (.mv (tO 2) (some (sOf 27)) <|
  f26r4_12) f26r4_12
noncomputable def f26r4_8 : K2 := .gd (sOf 19) true (some (sOf 24)) (.p2 (binF .gtr (evBin look .gtr 3 (.tmp 23) (.const (.int .i64 (0))))) (tO 23) (.con (.int .i64 (0))) (some (sOf 24)) <|
  f26r4_9) f26r4_9
noncomputable def f26r4_7 : K2 := .gd (sOf 19) true (some (sOf 23)) (.r1 ld1 (tO 22) (some (sOf 23)) <|
  f26r4_8) f26r4_8
noncomputable def f26r4_6 : K2 := .gd (sOf 19) true (some (sOf 22)) (.p2 (ixS 1) (tO 20) (tO 21) (some (sOf 22)) <|
  f26r4_7) f26r4_7
noncomputable def f26r4_5 : K2 := .gd (sOf 19) true (some (sOf 21)) (.mv (tO 8) (some (sOf 21)) <|
  f26r4_6) f26r4_6
/- ref.go:33 -/
noncomputable def f26r4 : K2 :=
  .mv (tO 1) (some (sOf 15)) <|
  .mv (tO 8) (some (sOf 16)) <|
  .p2 (ixS 1) (tO 15) (tO 16) (some (sOf 17)) <|
  .r1 ld1 (tO 17) (some (sOf 18)) <|
  .mv (tO 18) (some (sOf 19)) <|
  .gd (sOf 19) true (some (sOf 20)) (.mv (tO 0) (some (sOf 20)) <|
  f26r4_5) f26r4_5
/- ref.go:34 -/
noncomputable def f26r5 : K2 :=
  .mv (tO 8) (some (sOf 47)) <|
  .mv (tO 47) (some (sOf 7)) <|
  .done
/- ref.go:32 -/
noncomputable def f26r6 : K2 :=
  .mv (tO 8) (some (sOf 13)) <|
  .p2 (binF .add (evBin look .add 3 (.tmp 13) (.const (.int .i64 (1))))) (tO 13) (.con (.int .i64 (1))) (some (sOf 14)) <|
  .mv (tO 14) (some (sOf 8)) <|
  .done
noncomputable def f26l0 : C2 := (.seq (.seq (.reg f26r3)
  (.cond (tO 12) .skip (.exit 0)))
  (.seq (.block 1 (.seq (.reg f26r4)
  (.cond (tO 46) (.reg f26r5) .skip)))
  (.reg f26r6)))
noncomputable def f26b0 : Code := lpN f26body 0
theorem f26l0_eq : comp look f26b0 = f26l0 := by kernel_rfl
/- ref.go:37 -/
noncomputable def f26r7 : K2 :=
  .mv (tO 7) (some (sOf 48)) <|
  .mv (tO 48) (some (sOf 6)) <|
  .done
noncomputable def f26c : C2 := (.seq (.reg f26r0)
  (.seq (.reg f26r1)
  (.seq (.seq (.reg f26r2)
  (.block 0 (.loop f26b0)))
  (.seq (.reg f26r7)
  .ret))))
theorem f26_eq : fnF look 26 = some ⟨49, f26c, [.tmp 6]⟩ := by kernel_rfl

/-! caulker/place.Check$1: parameters [3], temporaries 9 -/
noncomputable def f27body : Code := bodyN look 27
/- place.go:13 -/
noncomputable def f27r0 : K2 :=
  .mv (.con (.bool false)) (some (sOf 2)) <|
  .done
noncomputable def f27r1_4 : K2 := .ln (fun xs _ => pickF xs) [(tO 5), (.con (.bool true)), (tO 7)] (some (sOf 8)) <|
  .mv (tO 8) (some (sOf 2)) <|
  .done
noncomputable def f27r1_3 : K2 := .gd (sOf 5) false (some (sOf 7)) (.p2 (binF .gtr (evBin look .gtr 3 (.tmp 6) (.const (.int .i64 (4096))))) (tO 6) (.con (.int .i64 (4096))) (some (sOf 7)) <|
  f27r1_4) f27r1_4
/- place.go:13 -/
noncomputable def f27r1 : K2 :=
  .mv (tO 0) (some (sOf 3)) <|
  .p2 (binF .lss (evBin look .lss 3 (.tmp 3) (.const (.int .i64 (0))))) (tO 3) (.con (.int .i64 (0))) (some (sOf 4)) <|
  .mv (tO 4) (some (sOf 5)) <|
  .gd (sOf 5) false (some (sOf 6)) (.mv (tO 0) (some (sOf 6)) <|
  f27r1_3) f27r1_3
noncomputable def f27c : C2 := (.seq (.reg f27r0)
  (.seq (.reg f27r1)
  .ret))
theorem f27_eq : fnF look 27 = some ⟨9, f27c, [.tmp 2]⟩ := by kernel_rfl

/-! slices.ContainsFunc[[]int,int]: parameters [22, 46], temporaries 9 -/
noncomputable def f28body : Code := bodyN look 28
/- slices.go:124 -/
noncomputable def f28r0 : K2 :=
  .mv (.con (.bool false)) (some (sOf 4)) <|
  .done
/- slices.go:125 -/
noncomputable def f28r1 : K2 :=
  .mv (tO 0) (some (sOf 5)) <|
  .mv (tO 1) (some (sOf 6)) <|
  .cl false 35 [(tO 5), (tO 6)] (some (sOf 7)) <|
  .p2 (binF .geq (evBin look .geq 3 (.tmp 7) (.const (.int .i64 (0))))) (tO 7) (.con (.int .i64 (0))) (some (sOf 8)) <|
  .mv (tO 8) (some (sOf 4)) <|
  .done
noncomputable def f28c : C2 := (.seq (.reg f28r0)
  (.seq (.reg f28r1)
  .ret))
theorem f28_eq : fnF look 28 = some ⟨9, f28c, [.tmp 4]⟩ := by kernel_rfl

/-! caulker/caulkerkit.SameBools: parameters [23, 23], temporaries 26 -/
noncomputable def f29body : Code := bodyN look 29
/- bools.go:4 -/
noncomputable def f29r0 : K2 :=
  .mv (.con (.bool false)) (some (sOf 4)) <|
  .done
/- bools.go:5 -/
noncomputable def f29r1 : K2 :=
  .mv (tO 0) (some (sOf 6)) <|
  .ln (fun xs H => fstO (builtinF .len look [23] xs H)) [(tO 6)] (some (sOf 7)) <|
  .mv (tO 1) (some (sOf 8)) <|
  .ln (fun xs H => fstO (builtinF .len look [23] xs H)) [(tO 8)] (some (sOf 9)) <|
  .p2 (binF .neq (evBin look .neq 3 (.tmp 7) (.tmp 9))) (tO 7) (tO 9) (some (sOf 10)) <|
  .done
/- bools.go:6 -/
noncomputable def f29r2 : K2 :=
  .mv (.con (.bool false)) (some (sOf 4)) <|
  .done
/- bools.go:8 -/
noncomputable def f29r3 : K2 :=
  .mv (.con (.int .i64 (0))) (some (sOf 5)) <|
  .done
/- bools.go:8 -/
noncomputable def f29r4 : K2 :=
  .mv (tO 5) (some (sOf 11)) <|
  .mv (tO 0) (some (sOf 12)) <|
  .ln (fun xs H => fstO (builtinF .len look [23] xs H)) [(tO 12)] (some (sOf 13)) <|
  .p2 (binF .lss (evBin look .lss 3 (.tmp 11) (.tmp 13))) (tO 11) (tO 13) (some (sOf 14)) <|
  .done
/- bools.go:9 -/
noncomputable def f29r5 : K2 :=
  .mv (tO 0) (some (sOf 17)) <|
  .mv (tO 5) (some (sOf 18)) <|
  .p2 (ixS 1) (tO 17) (tO 18) (some (sOf 19)) <|
  .r1 ld1 (tO 19) (some (sOf 20)) <|
  .mv (tO 1) (some (sOf 21)) <|
  .mv (tO 5) (some (sOf 22)) <|
  .p2 (ixS 1) (tO 21) (tO 22) (some (sOf 23)) <|
  .r1 ld1 (tO 23) (some (sOf 24)) <|
  .p2 (binF .neq (evBin look .neq 4 (.tmp 20) (.tmp 24))) (tO 20) (tO 24) (some (sOf 25)) <|
  .done
/- bools.go:10 -/
noncomputable def f29r6 : K2 :=
  .mv (.con (.bool false)) (some (sOf 4)) <|
  .done
/- bools.go:8 -/
noncomputable def f29r7 : K2 :=
  .mv (tO 5) (some (sOf 15)) <|
  .p2 (binF .add (evBin look .add 3 (.tmp 15) (.const (.int .i64 (1))))) (tO 15) (.con (.int .i64 (1))) (some (sOf 16)) <|
  .mv (tO 16) (some (sOf 5)) <|
  .done
noncomputable def f29l0 : C2 := (.seq (.seq (.reg f29r4)
  (.cond (tO 14) .skip (.exit 0)))
  (.seq (.block 1 (.seq (.reg f29r5)
  (.cond (tO 25) (.seq (.reg f29r6)
  .ret) .skip)))
  (.reg f29r7)))
noncomputable def f29b0 : Code := lpN f29body 0
theorem f29l0_eq : comp look f29b0 = f29l0 := by kernel_rfl
/- bools.go:13 -/
noncomputable def f29r8 : K2 :=
  .mv (.con (.bool true)) (some (sOf 4)) <|
  .done
noncomputable def f29c : C2 := (.seq (.reg f29r0)
  (.seq (.seq (.reg f29r1)
  (.cond (tO 10) (.seq (.reg f29r2)
  .ret) .skip))
  (.seq (.seq (.reg f29r3)
  (.block 0 (.loop f29b0)))
  (.seq (.reg f29r8)
  .ret))))
theorem f29_eq : fnF look 29 = some ⟨26, f29c, [.tmp 4]⟩ := by kernel_rfl

/-! slices.Clone[[]int,int]: parameters [22], temporaries 8 -/
noncomputable def f30body : Code := bodyN look 30
/- slices.go:355 -/
noncomputable def f30r0 : K2 :=
  .mv (.con .nilSl) (some (sOf 2)) <|
  .done
/- slices.go:357 -/
noncomputable def f30r1 : K2 :=
  .mv (tO 0) (some (sOf 3)) <|
  .p2 (binF .eql (evBin look .eql 22 (.tmp 3) (.const (.slice none 0 0)))) (tO 3) (.con .nilSl) (some (sOf 4)) <|
  .done
/- slices.go:358 -/
noncomputable def f30r2 : K2 :=
  .mv (.con .nilSl) (some (sOf 2)) <|
  .done
/- slices.go:362 -/
noncomputable def f30r3 : K2 :=
  .hn false (fun xs H => bsF 1 0 (.int .i64 (0)) 3 (zipF [] xs) H) [] (some (sOf 5)) <|
  .mv (tO 0) (some (sOf 6)) <|
  .hn false (appX 3 1 8) [(tO 5), (tO 6)] (some (sOf 7)) <|
  .mv (tO 7) (some (sOf 2)) <|
  .done
noncomputable def f30c : C2 := (.seq (.reg f30r0)
  (.seq (.seq (.reg f30r1)
  (.cond (tO 4) (.seq (.reg f30r2)
  .ret) .skip))
  (.seq (.reg f30r3)
  .ret)))
theorem f30_eq : fnF look 30 = some ⟨8, f30c, [.tmp 2]⟩ := by kernel_rfl

/-! slices.SortStableFunc[[]int,int]: parameters [22, 40], temporaries 9 -/
noncomputable def f31body : Code := bodyN look 31
/- sort.go:38 -/
noncomputable def f31r0 : K2 :=
  .mv (tO 0) (some (sOf 4)) <|
  .mv (tO 0) (some (sOf 5)) <|
  .ln (fun xs H => fstO (builtinF .len look [22] xs H)) [(tO 5)] (some (sOf 6)) <|
  .mv (tO 1) (some (sOf 7)) <|
  .cl false 36 [(tO 4), (tO 6), (tO 7)] (some (sOf 8)) <|
  .done
noncomputable def f31c : C2 := (.reg f31r0)
theorem f31_eq : fnF look 31 = some ⟨9, f31c, []⟩ := by kernel_rfl

/-! caulker/place.choose$1: parameters [3, 3], temporaries 15 -/
noncomputable def f32body : Code := bodyN look 32
/- place.go:41 -/
noncomputable def f32r0 : K2 :=
  .mv (.con (.int .i64 (0))) (some (sOf 5)) <|
  .done
/- place.go:41 -/
noncomputable def f32r1 : K2 :=
  .r1 ld1 (tO 2) (some (sOf 6)) <|
  .mv (tO 1) (some (sOf 7)) <|
  .p2 (ixS 1) (tO 6) (tO 7) (some (sOf 8)) <|
  .r1 ld1 (tO 8) (some (sOf 9)) <|
  .r1 ld1 (tO 2) (some (sOf 10)) <|
  .mv (tO 0) (some (sOf 11)) <|
  .p2 (ixS 1) (tO 10) (tO 11) (some (sOf 12)) <|
  .r1 ld1 (tO 12) (some (sOf 13)) <|
  .cl false 33 [(tO 9), (tO 13)] (some (sOf 14)) <|
  .mv (tO 14) (some (sOf 5)) <|
  .done
noncomputable def f32c : C2 := (.seq (.reg f32r0)
  (.seq (.reg f32r1)
  .ret))
theorem f32_eq : fnF look 32 = some ⟨15, f32c, [.tmp 5]⟩ := by kernel_rfl

/-! cmp.Compare[int]: parameters [3, 3], temporaries 20 -/
noncomputable def f33body : Code := bodyN look 33
/- cmp.go:40 -/
noncomputable def f33r0 : K2 :=
  .mv (.con (.int .i64 (0))) (some (sOf 4)) <|
  .done
/- cmp.go:41 -/
noncomputable def f33r1 : K2 :=
  .mv (tO 0) (some (sOf 7)) <|
  .cl false 37 [(tO 7)] (some (sOf 8)) <|
  .mv (tO 8) (some (sOf 5)) <|
  .done
/- cmp.go:42 -/
noncomputable def f33r2 : K2 :=
  .mv (tO 1) (some (sOf 9)) <|
  .cl false 37 [(tO 9)] (some (sOf 10)) <|
  .mv (tO 10) (some (sOf 6)) <|
  .done
/- cmp.go:43 -/
noncomputable def f33r3 : K2 :=
  .mv (tO 5) (some (sOf 11)) <|
  .done
/- cmp.go:44 -/
noncomputable def f33r4 : K2 :=
  .mv (tO 6) (some (sOf 12)) <|
  .done
/- cmp.go:45 -/
noncomputable def f33r5 : K2 :=
  .mv (.con (.int .i64 (0))) (some (sOf 4)) <|
  .done
/- cmp.go:47 -/
noncomputable def f33r6 : K2 :=
  .mv (.con (.int .i64 (-1))) (some (sOf 4)) <|
  .done
/- cmp.go:49 -/
noncomputable def f33r7 : K2 :=
  .mv (tO 6) (some (sOf 13)) <|
  .done
/- cmp.go:50 -/
noncomputable def f33r8 : K2 :=
  .mv (.con (.int .i64 (1))) (some (sOf 4)) <|
  .done
/- cmp.go:52 -/
noncomputable def f33r9 : K2 :=
  .mv (tO 0) (some (sOf 14)) <|
  .mv (tO 1) (some (sOf 15)) <|
  .p2 (binF .lss (evBin look .lss 3 (.tmp 14) (.tmp 15))) (tO 14) (tO 15) (some (sOf 16)) <|
  .done
/- cmp.go:53 -/
noncomputable def f33r10 : K2 :=
  .mv (.con (.int .i64 (-1))) (some (sOf 4)) <|
  .done
/- cmp.go:55 -/
noncomputable def f33r11 : K2 :=
  .mv (tO 0) (some (sOf 17)) <|
  .mv (tO 1) (some (sOf 18)) <|
  .p2 (binF .gtr (evBin look .gtr 3 (.tmp 17) (.tmp 18))) (tO 17) (tO 18) (some (sOf 19)) <|
  .done
/- cmp.go:56 -/
noncomputable def f33r12 : K2 :=
  .mv (.con (.int .i64 (1))) (some (sOf 4)) <|
  .done
/- cmp.go:58 -/
noncomputable def f33r13 : K2 :=
  .mv (.con (.int .i64 (0))) (some (sOf 4)) <|
  .done
noncomputable def f33c : C2 := (.seq (.reg f33r0)
  (.seq (.reg f33r1)
  (.seq (.reg f33r2)
  (.seq (.seq (.reg f33r3)
  (.cond (tO 11) (.seq (.seq (.reg f33r4)
  (.cond (tO 12) (.seq (.reg f33r5)
  .ret) .skip))
  (.seq (.reg f33r6)
  .ret)) .skip))
  (.seq (.seq (.reg f33r7)
  (.cond (tO 13) (.seq (.reg f33r8)
  .ret) .skip))
  (.seq (.seq (.reg f33r9)
  (.cond (tO 16) (.seq (.reg f33r10)
  .ret) .skip))
  (.seq (.seq (.reg f33r11)
  (.cond (tO 19) (.seq (.reg f33r12)
  .ret) .skip))
  (.seq (.reg f33r13)
  .ret))))))))
theorem f33_eq : fnF look 33 = some ⟨20, f33c, [.tmp 4]⟩ := by kernel_rfl

/-! caulker/caulkerref07.among: parameters [22, 3], temporaries 18 -/
noncomputable def f34body : Code := bodyN look 34
/- ref.go:20 -/
noncomputable def f34r0 : K2 :=
  .mv (.con (.bool false)) (some (sOf 4)) <|
  .done
/- ref.go:21 -/
noncomputable def f34r1 : K2 :=
  .mv (.con (.int .i64 (0))) (some (sOf 5)) <|
  .done
/- ref.go:21 -/
noncomputable def f34r2 : K2 :=
  .mv (tO 5) (some (sOf 6)) <|
  .mv (tO 0) (some (sOf 7)) <|
  .ln (fun xs H => fstO (builtinF .len look [22] xs H)) [(tO 7)] (some (sOf 8)) <|
  .p2 (binF .lss (evBin look .lss 3 (.tmp 6) (.tmp 8))) (tO 6) (tO 8) (some (sOf 9)) <|
  .done
/- ref.go:22 -/
noncomputable def f34r3 : K2 :=
  .mv (tO 0) (some (sOf 12)) <|
  .mv (tO 5) (some (sOf 13)) <|
  .p2 (ixS 1) (tO 12) (tO 13) (some (sOf 14)) <|
  .r1 ld1 (tO 14) (some (sOf 15)) <|
  .mv (tO 1) (some (sOf 16)) <|
  .p2 (binF .eql (evBin look .eql 3 (.tmp 15) (.tmp 16))) (tO 15) (tO 16) (some (sOf 17)) <|
  .done
/- ref.go:23 -/
noncomputable def f34r4 : K2 :=
  .mv (.con (.bool true)) (some (sOf 4)) <|
  .done
/- ref.go:21 -/
noncomputable def f34r5 : K2 :=
  .mv (tO 5) (some (sOf 10)) <|
  .p2 (binF .add (evBin look .add 3 (.tmp 10) (.const (.int .i64 (1))))) (tO 10) (.con (.int .i64 (1))) (some (sOf 11)) <|
  .mv (tO 11) (some (sOf 5)) <|
  .done
noncomputable def f34l0 : C2 := (.seq (.seq (.reg f34r2)
  (.cond (tO 9) .skip (.exit 0)))
  (.seq (.block 1 (.seq (.reg f34r3)
  (.cond (tO 17) (.seq (.reg f34r4)
  .ret) .skip)))
  (.reg f34r5)))
noncomputable def f34b0 : Code := lpN f34body 0
theorem f34l0_eq : comp look f34b0 = f34l0 := by kernel_rfl
/- ref.go:26 -/
noncomputable def f34r6 : K2 :=
  .mv (.con (.bool false)) (some (sOf 4)) <|
  .done
noncomputable def f34c : C2 := (.seq (.reg f34r0)
  (.seq (.seq (.reg f34r1)
  (.block 0 (.loop f34b0)))
  (.seq (.reg f34r6)
  .ret)))
theorem f34_eq : fnF look 34 = some ⟨18, f34c, [.tmp 4]⟩ := by kernel_rfl

/-! slices.IndexFunc[[]int,int]: parameters [22, 46], temporaries 19 -/
noncomputable def f35body : Code := bodyN look 35
/- slices.go:107 -/
noncomputable def f35r0 : K2 :=
  .mv (.con (.int .i64 (0))) (some (sOf 4)) <|
  .done
/- slices.go:108 -/
noncomputable def f35r1 : K2 :=
  .mv (tO 0) (some (sOf 6)) <|
  .ln (fun xs H => fstO (builtinF .len look [22] xs H)) [(tO 6)] (some (sOf 7)) <|
  .mv (.con (.int .i64 (0))) (some (sOf 8)) <|
  .done
/- slices.go:108 -/
noncomputable def f35r2 : K2 :=
  .p2 (binF .lss (evBin look .lss 3 (.tmp 8) (.tmp 7))) (tO 8) (tO 7) (some (sOf 9)) <|
  .done
/- slices.go:108 -/
noncomputable def f35r3 : K2 :=
  .mv (tO 8) (some (sOf 10)) <|
  .mv (tO 10) (some (sOf 5)) <|
  .done
/- slices.go:109 -/
noncomputable def f35r4 : K2 :=
  .mv (tO 1) (some (sOf 11)) <|
  .mv (tO 0) (some (sOf 12)) <|
  .mv (tO 5) (some (sOf 13)) <|
  .p2 (ixS 1) (tO 12) (tO 13) (some (sOf 14)) <|
  .r1 ld1 (tO 14) (some (sOf 15)) <|
  .cn false (fun xs _ => evCallFn (hd xs) (tl xs)) [(tO 11), (tO 15)] (some (sOf 16)) <|
  .done
/- slices.go:110 -/
noncomputable def f35r5 : K2 :=
  .mv (tO 5) (some (sOf 17)) <|
  .mv (tO 17) (some (sOf 4)) <|
  .done
/- slices.go:108 -/
noncomputable def f35r6 : K2 :=
  .p2 (binF .add (evBin look .add 3 (.tmp 8) (.const (.int .i64 (1))))) (tO 8) (.con (.int .i64 (1))) (some (sOf 18)) <|
  .mv (tO 18) (some (sOf 8)) <|
  .done
noncomputable def f35l0 : C2 := (.seq (.reg f35r2)
  (.seq (.cond (tO 9) .skip (.exit 0))
  (.seq (.block 1 (.seq (.reg f35r3)
  (.seq (.reg f35r4)
  (.cond (tO 16) (.seq (.reg f35r5)
  .ret) .skip))))
  (.reg f35r6))))
noncomputable def f35b0 : Code := lpN f35body 0
theorem f35l0_eq : comp look f35b0 = f35l0 := by kernel_rfl
/- slices.go:113 -/
noncomputable def f35r7 : K2 :=
  .mv (.con (.int .i64 (-1))) (some (sOf 4)) <|
  .done
noncomputable def f35c : C2 := (.seq (.reg f35r0)
  (.seq (.seq (.reg f35r1)
  (.block 0 (.loop f35b0)))
  (.seq (.reg f35r7)
  .ret)))
theorem f35_eq : fnF look 35 = some ⟨19, f35c, [.tmp 4]⟩ := by kernel_rfl

/-! slices.stableCmpFunc[int]: parameters [22, 3, 40], temporaries 63 -/
noncomputable def f36body : Code := bodyN look 36
/- zsortanyfunc.go:336 -/
noncomputable def f36r0 : K2 :=
  .mv (.con (.int .i64 (20))) (some (sOf 6)) <|
  .done
/- zsortanyfunc.go:337 -/
noncomputable def f36r1 : K2 :=
  .mv (tO 6) (some (sOf 10)) <|
  .mv (.con (.int .i64 (0))) (some (sOf 7)) <|
  .mv (tO 10) (some (sOf 8)) <|
  .done
/- zsortanyfunc.go:338 -/
noncomputable def f36r2 : K2 :=
  .mv (tO 8) (some (sOf 11)) <|
  .mv (tO 1) (some (sOf 12)) <|
  .p2 (binF .leq (evBin look .leq 3 (.tmp 11) (.tmp 12))) (tO 11) (tO 12) (some (sOf 13)) <|
  .done
/- zsortanyfunc.go:339 -/
noncomputable def f36r3 : K2 :=
  .mv (tO 0) (some (sOf 14)) <|
  .mv (tO 7) (some (sOf 15)) <|
  .mv (tO 8) (some (sOf 16)) <|
  .mv (tO 2) (some (sOf 17)) <|
  .cl false 38 [(tO 14), (tO 15), (tO 16), (tO 17)] (some (sOf 18)) <|
  .done
/- zsortanyfunc.go:340 -/
noncomputable def f36r4 : K2 :=
  .mv (tO 8) (some (sOf 19)) <|
  .mv (tO 19) (some (sOf 7)) <|
  .done
/- zsortanyfunc.go:341 -/
noncomputable def f36r5 : K2 :=
  .mv (tO 8) (some (sOf 20)) <|
  .mv (tO 6) (some (sOf 21)) <|
  .p2 (binF .add (evBin look .add 3 (.tmp 20) (.tmp 21))) (tO 20) (tO 21) (some (sOf 22)) <|
  .mv (tO 22) (some (sOf 8)) <|
  .done
noncomputable def f36l0 : C2 := (.seq (.seq (.reg f36r2)
  (.cond (tO 13) .skip (.exit 0)))
  (.block 1 (.seq (.reg f36r3)
  (.seq (.reg f36r4)
  (.reg f36r5)))))
noncomputable def f36b0 : Code := lpN f36body 0
theorem f36l0_eq : comp look f36b0 = f36l0 := by kernel_rfl
/- zsortanyfunc.go:343 -/
noncomputable def f36r6 : K2 :=
  .mv (tO 0) (some (sOf 23)) <|
  .mv (tO 7) (some (sOf 24)) <|
  .mv (tO 1) (some (sOf 25)) <|
  .mv (tO 2) (some (sOf 26)) <|
  .cl false 38 [(tO 23), (tO 24), (tO 25), (tO 26)] (some (sOf 27)) <|
  .done
/- zsortanyfunc.go:345 -/
noncomputable def f36r7 : K2 :=
  .mv (tO 6) (some (sOf 28)) <|
  .mv (tO 1) (some (sOf 29)) <|
  .p2 (binF .lss (evBin look .lss 3 (.tmp 28) (.tmp 29))) (tO 28) (tO 29) (some (sOf 30)) <|
  .done
/- zsortanyfunc.go:346 -/
noncomputable def f36r8 : K2 :=
  .mv (tO 6) (some (sOf 31)) <|
  .p2 (binF .mul (evBin look .mul 3 (.const (.int .i64 (2))) (.tmp 31))) (.con (.int .i64 (2))) (tO 31) (some (sOf 32)) <|
  .mv (.con (.int .i64 (0))) (some (sOf 7)) <|
  .mv (tO 32) (some (sOf 8)) <|
  .done
/- zsortanyfunc.go:347 -/
noncomputable def f36r9 : K2 :=
  .mv (tO 8) (some (sOf 33)) <|
  .mv (tO 1) (some (sOf 34)) <|
  .p2 (binF .leq (evBin look .leq 3 (.tmp 33) (.tmp 34))) (tO 33) (tO 34) (some (sOf 35)) <|
  .done
/- zsortanyfunc.go:348 -/
noncomputable def f36r10 : K2 :=
  .mv (tO 0) (some (sOf 36)) <|
  .mv (tO 7) (some (sOf 37)) <|
  .mv (tO 7) (some (sOf 38)) <|
  .mv (tO 6) (some (sOf 39)) <|
  .p2 (binF .add (evBin look .add 3 (.tmp 38) (.tmp 39))) (tO 38) (tO 39) (some (sOf 40)) <|
  .mv (tO 8) (some (sOf 41)) <|
  .mv (tO 2) (some (sOf 42)) <|
  .cl false 39 [(tO 36), (tO 37), (tO 40), (tO 41), (tO 42)] (some (sOf 43)) <|
  .done
/- zsortanyfunc.go:349 -/
noncomputable def f36r11 : K2 :=
  .mv (tO 8) (some (sOf 44)) <|
  .mv (tO 44) (some (sOf 7)) <|
  .done
/- zsortanyfunc.go:350 -/
noncomputable def f36r12 : K2 :=
  .mv (tO 8) (some (sOf 45)) <|
  .mv (tO 6) (some (sOf 46)) <|
  .p2 (binF .mul (evBin look .mul 3 (.const (.int .i64 (2))) (.tmp 46))) (.con (.int .i64 (2))) (tO 46) (some (sOf 47)) <|
  .p2 (binF .add (evBin look .add 3 (.tmp 45) (.tmp 47))) (tO 45) (tO 47) (some (sOf 48)) <|
  .mv (tO 48) (some (sOf 8)) <|
  .done
noncomputable def f36l2 : C2 := (.seq (.seq (.reg f36r9)
  (.cond (tO 35) .skip (.exit 4)))
  (.block 5 (.seq (.reg f36r10)
  (.seq (.reg f36r11)
  (.reg f36r12)))))
noncomputable def f36b2 : Code := lpN f36body 2
theorem f36l2_eq : comp look f36b2 = f36l2 := by kernel_rfl
/- zsortanyfunc.go:352 -/
noncomputable def f36r13 : K2 :=
  .mv (tO 7) (some (sOf 49)) <|
  .mv (tO 6) (some (sOf 50)) <|
  .p2 (binF .add (evBin look .add 3 (.tmp 49) (.tmp 50))) (tO 49) (tO 50) (some (sOf 51)) <|
  .mv (tO 51) (some (sOf 9)) <|
  .done
/- zsortanyfunc.go:352 -/
noncomputable def f36r14 : K2 :=
  .mv (tO 9) (some (sOf 52)) <|
  .mv (tO 1) (some (sOf 53)) <|
  .p2 (binF .lss (evBin look .lss 3 (.tmp 52) (.tmp 53))) (tO 52) (tO 53) (some (sOf 54)) <|
  .done
/- zsortanyfunc.go:353 -/
noncomputable def f36r15 : K2 :=
  .mv (tO 0) (some (sOf 55)) <|
  .mv (tO 7) (some (sOf 56)) <|
  .mv (tO 9) (some (sOf 57)) <|
  .mv (tO 1) (some (sOf 58)) <|
  .mv (tO 2) (some (sOf 59)) <|
  .cl false 39 [(tO 55), (tO 56), (tO 57), (tO 58), (tO 59)] (some (sOf 60)) <|
  .done
/- zsortanyfunc.go:355 -/
noncomputable def f36r16 : K2 :=
  .mv (tO 6) (some (sOf 61)) <|
  .p2 (binF .mul (evBin look .mul 3 (.tmp 61) (.const (.int .i64 (2))))) (tO 61) (.con (.int .i64 (2))) (some (sOf 62)) <|
  .mv (tO 62) (some (sOf 6)) <|
  .done
noncomputable def f36l1 : C2 := (.seq (.seq (.reg f36r7)
  (.cond (tO 30) .skip (.exit 2)))
  (.block 3 (.seq (.reg f36r8)
  (.seq (.block 4 (.loop f36b2))
  (.seq (.seq (.reg f36r13)
  (.seq (.reg f36r14)
  (.cond (tO 54) (.reg f36r15) .skip)))
  (.reg f36r16))))))
noncomputable def f36b1 : Code := lpN f36body 1
theorem f36l1_eq : comp look f36b1 = f36l1 := by kernel_rfl
noncomputable def f36c : C2 := (.seq (.reg f36r0)
  (.seq (.reg f36r1)
  (.seq (.block 0 (.loop f36b0))
  (.seq (.reg f36r6)
  (.block 2 (.loop f36b1))))))
theorem f36_eq : fnF look 36 = some ⟨63, f36c, []⟩ := by kernel_rfl

/-! cmp.isNaN[int]: parameters [3], temporaries 6 -/
noncomputable def f37body : Code := bodyN look 37
/- cmp.go:63 -/
noncomputable def f37r0 : K2 :=
  .mv (.con (.bool false)) (some (sOf 2)) <|
  .done
/- cmp.go:64 -/
noncomputable def f37r1 : K2 :=
  .mv (tO 0) (some (sOf 3)) <|
  .mv (tO 0) (some (sOf 4)) <|
  .p2 (binF .neq (evBin look .neq 3 (.tmp 3) (.tmp 4))) (tO 3) (tO 4) (some (sOf 5)) <|
  .mv (tO 5) (some (sOf 2)) <|
  .done
noncomputable def f37c : C2 := (.seq (.reg f37r0)
  (.seq (.reg f37r1)
  .ret))
theorem f37_eq : fnF look 37 = some ⟨6, f37c, [.tmp 2]⟩ := by kernel_rfl

/-! slices.insertionSortCmpFunc[int]: parameters [22, 3, 3, 40], temporaries 53 -/
noncomputable def f38body : Code := bodyN look 38
/- zsortanyfunc.go:11 -/
noncomputable def f38r0 : K2 :=
  .mv (tO 1) (some (sOf 10)) <|
  .p2 (binF .add (evBin look .add 3 (.tmp 10) (.const (.int .i64 (1))))) (tO 10) (.con (.int .i64 (1))) (some (sOf 11)) <|
  .mv (tO 11) (some (sOf 8)) <|
  .done
/- zsortanyfunc.go:11 -/
noncomputable def f38r1 : K2 :=
  .mv (tO 8) (some (sOf 12)) <|
  .mv (tO 2) (some (sOf 13)) <|
  .p2 (binF .lss (evBin look .lss 3 (.tmp 12) (.tmp 13))) (tO 12) (tO 13) (some (sOf 14)) <|
  .done
/- zsortanyfunc.go:12 -/
noncomputable def f38r2 : K2 :=
  .mv (tO 8) (some (sOf 17)) <|
  .mv (tO 17) (some (sOf 9)) <|
  .done
noncomputable def f38r3_15 : K2 := .ln (fun xs _ => pickF xs) [(tO 21), (tO 33), (.con (.bool false))] (some (sOf 34)) <|
  .done
noncomputable def f38r3_14 : K2 := .gd (sOf 21) true (some (sOf 33)) (.p2 (binF .lss (evBin look .lss 3 (.tmp 32) (.const (.int .i64 (0))))) (tO 32) (.con (.int .i64 (0))) (some (sOf 33)) <|
  f38r3_15) f38r3_15
noncomputable def f38r3_13 : K2 := .gd (sOf 21) true (some (sOf 32)) (.cn false (fun xs _ => evCallFn (hd xs) (tl xs)) [(tO 22), (tO 26), (tO 31)] (some (sOf 32)) <|
  f38r3_14) f38r3_14
noncomputable def f38r3_12 : K2 := .gd (sOf 21) true (some (sOf 31)) (.r1 ld1 (tO 30) (some (sOf 31)) <|
  f38r3_13) f38r3_13
noncomputable def f38r3_11 : K2 := .gd (sOf 21) true (some (sOf 30)) (.p2 (ixS 1) (tO 27) (tO 29) (some (sOf 30)) <|
  f38r3_12) f38r3_12
noncomputable def f38r3_10 : K2 := .gd (sOf 21) true (some (sOf 29)) (.p2 (binF .sub (evBin look .sub 3 (.tmp 28) (.const (.int .i64 (1))))) (tO 28) (.con (.int .i64 (1))) (some (sOf 29)) <|
  f38r3_11) f38r3_11
noncomputable def f38r3_9 : K2 := .gd (sOf 21) true (some (sOf 28)) (.mv (tO 9) (some (sOf 28)) <|
  f38r3_10) f38r3_10
noncomputable def f38r3_8 : K2 := .gd (sOf 21) true (some (sOf 27)) (.mv (tO 0) (some (sOf 27)) <|
  f38r3_9) f38r3_9
noncomputable def f38r3_7 : K2 := .gd (sOf 21) true (some (sOf 26)) (.r1 ld1 (tO 25) (some (sOf 26)) <|
  f38r3_8) f38r3_8
noncomputable def f38r3_6 : K2 := .gd (sOf 21) true (some (sOf 25)) (.p2 (ixS 1) (tO 23) (tO 24) (some (sOf 25)) <|
  f38r3_7) f38r3_7
noncomputable def f38r3_5 : K2 := .gd (sOf 21) true (some (sOf 24)) (.mv (tO 9) (some (sOf 24)) <|
  f38r3_6) f38r3_6
noncomputable def f38r3_4 : K2 := .gd (sOf 21) true (some (sOf 23)) (.mv (tO 0) (some (sOf 23)) <|
  f38r3_5) f38r3_5
/- zsortanyfunc.go:12 -/
noncomputable def f38r3 : K2 :=
  .mv (tO 9) (some (sOf 18)) <|
  .mv (tO 1) (some (sOf 19)) <|
  .p2 (binF .gtr (evBin look .gtr 3 (.tmp 18) (.tmp 19))) (tO 18) (tO 19) (some (sOf 20)) <|
  .mv (tO 20) (some (sOf 21)) <|
  .gd (sOf 21) true (some (sOf 22)) (.mv (tO 3) (some (sOf 22)) <|
  f38r3_4) f38r3_4
/- zsortanyfunc.go:13 -/
noncomputable def f38r4 : K2 :=
  .mv (tO 0) (some (sOf 37)) <|
  .mv (tO 9) (some (sOf 38)) <|
  .mv (tO 0) (some (sOf 39)) <|
  .mv (tO 9) (some (sOf 40)) <|
  .p2 (binF .sub (evBin look .sub 3 (.tmp 40) (.const (.int .i64 (1))))) (tO 40) (.con (.int .i64 (1))) (some (sOf 41)) <|
  .mv (tO 0) (some (sOf 42)) <|
  .mv (tO 9) (some (sOf 43)) <|
  .p2 (binF .sub (evBin look .sub 3 (.tmp 43) (.const (.int .i64 (1))))) (tO 43) (.con (.int .i64 (1))) (some (sOf 44)) <|
  .p2 (ixS 1) (tO 42) (tO 44) (some (sOf 45)) <|
  .r1 ld1 (tO 45) (some (sOf 46)) <|
  .mv (tO 0) (some (sOf 47)) <|
  .mv (tO 9) (some (sOf 48)) <|
  .p2 (ixS 1) (tO 47) (tO 48) (some (sOf 49)) <|
  .r1 ld1 (tO 49) (some (sOf 50)) <|
  .p2 (ixS 1) (tO 37) (tO 38) (some (sOf 51)) <|
  .st false (st1 look 3) (tO 51) (tO 46) none <|
  .p2 (ixS 1) (tO 39) (tO 41) (some (sOf 52)) <|
  .st false (st1 look 3) (tO 52) (tO 50) none <|
  .done
/- zsortanyfunc.go:12 -/
noncomputable def f38r5 : K2 :=
  .mv (tO 9) (some (sOf 35)) <|
  .p2 (binF .sub (evBin look .sub 3 (.tmp 35) (.const (.int .i64 (1))))) (tO 35) (.con (.int .i64 (1))) (some (sOf 36)) <|
  .mv (tO 36) (some (sOf 9)) <|
  .done
noncomputable def f38l1 : C2 := (.seq (.seq (.reg f38r3)
  (.cond (tO 34) .skip (.exit 2)))
  (.seq (.block 3 (.reg f38r4))
  (.reg f38r5)))
noncomputable def f38b1 : Code := lpN f38body 1
theorem f38l1_eq : comp look f38b1 = f38l1 := by kernel_rfl
/- zsortanyfunc.go:11 -/
noncomputable def f38r6 : K2 :=
  .mv (tO 8) (some (sOf 15)) <|
  .p2 (binF .add (evBin look .add 3 (.tmp 15) (.const (.int .i64 (1))))) (tO 15) (.con (.int .i64 (1))) (some (sOf 16)) <|
  .mv (tO 16) (some (sOf 8)) <|
  .done
noncomputable def f38l0 : C2 := (.seq (.seq (.reg f38r1)
  (.cond (tO 14) .skip (.exit 0)))
  (.seq (.block 1 (.seq (.reg f38r2)
  (.block 2 (.loop f38b1))))
  (.reg f38r6)))
noncomputable def f38b0 : Code := lpN f38body 0
theorem f38l0_eq : comp look f38b0 = f38l0 := by kernel_rfl
noncomputable def f38c : C2 := (.seq (.reg f38r0)
  (.block 0 (.loop f38b0)))
theorem f38_eq : fnF look 38 = some ⟨53, f38c, []⟩ := by kernel_rfl

end Go.Proofs.Ythnmcpkoplmggaa
