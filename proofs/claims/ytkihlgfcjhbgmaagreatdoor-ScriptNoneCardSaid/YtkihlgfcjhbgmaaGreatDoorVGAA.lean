import Derived.Test.YtkihlgfcjhbgmaaGreatDoorVCAH
import Derived.Test.YtkihlgfcjhbgmaaGreatDoorVAAF
noncomputable section
set_option maxHeartbeats 8000000
set_option linter.unusedSimpArgs false
set_option linter.unusedVariables false
open Go Go.Ev Go.Proofs Go.RowKit
namespace HS
set_option maxRecDepth 1000000
open Go.Ev
def lookN : Lk := lkt Fs.t68
theorem zpr : LOk lookN Tryz.prog := zre1 Fs.t68
theorem zln (B : Nat) : ExtOk lookN Tryz.prog B := zoj Fs.s68.2 B
def f23body : Code := bodyN lookN 23
def f23r0 : K2 :=
  .mv (.con (.bool false)) (some (sOf 2)) <|
  .done
def f23r1 : K2 :=
  .mv (.con (.int .i64 (0))) (some (sOf 3)) <|
  .done
def zih1 : K2 := .ln (fun xs _ => pickF xs) [(tO 8), (tO 10), (.con (.bool false))] (some (sOf 11)) <|
  .done
def zjh1 : K2 := .gd (sOf 8) true (some (sOf 10)) (.p2 (binF .lss (evBin lookN .lss 3 (.tmp 9) (.const (.int .i64 (31))))) (tO 9) (.con (.int .i64 (31))) (some (sOf 10)) <|
  zih1) zih1
def f23r2 : K2 :=
  .mv (tO 3) (some (sOf 4)) <|
  .mv (tO 0) (some (sOf 5)) <|
  .ln (fun xs H => fstO (zna .len lookN [70] xs H)) [(tO 5)] (some (sOf 6)) <|
  .p2 (binF .lss (evBin lookN .lss 3 (.tmp 4) (.tmp 6))) (tO 4) (tO 6) (some (sOf 7)) <|
  .mv (tO 7) (some (sOf 8)) <|
  .gd (sOf 8) true (some (sOf 9)) (.mv (tO 3) (some (sOf 9)) <|
  zjh1) zjh1
def zza1 : K2 := .ln (fun xs _ => pickF xs) [(tO 21), (.con (.bool true)), (tO 28)] (some (sOf 29)) <|
  .done
def zab1 : K2 := .gd (sOf 21) false (some (sOf 28)) (.p2 (binF .gtr (evBin lookN .gtr 3 (.tmp 27) (.const (.int .i64 (300))))) (tO 27) (.con (.int .i64 (300))) (some (sOf 28)) <|
  zza1) zza1
def zbb1 : K2 := .gd (sOf 21) false (some (sOf 27)) (.ln (fun xs H => fstO (zna .len lookN [40] xs H)) [(tO 26)] (some (sOf 27)) <|
  zab1) zab1
def zcb1 : K2 := .gd (sOf 21) false (some (sOf 26)) (.r1 ld1 (tO 25) (some (sOf 26)) <|
  zbb1) zbb1
def zdb1 : K2 := .gd (sOf 21) false (some (sOf 25)) (.p1 (fa 5) (tO 24) (some (sOf 25)) <|
  zcb1) zcb1
def zkh1 : K2 := .gd (sOf 21) false (some (sOf 24)) (.p2 (ixS 7) (tO 22) (tO 23) (some (sOf 24)) <|
  zdb1) zdb1
def zlh1 : K2 := .gd (sOf 21) false (some (sOf 23)) (.mv (tO 3) (some (sOf 23)) <|
  zkh1) zkh1
def f23r3 : K2 :=
  .mv (tO 0) (some (sOf 14)) <|
  .mv (tO 3) (some (sOf 15)) <|
  .p2 (ixS 7) (tO 14) (tO 15) (some (sOf 16)) <|
  .p1 (fa 6) (tO 16) (some (sOf 17)) <|
  .r1 ld1 (tO 17) (some (sOf 18)) <|
  .ln (fun xs H => fstO (zna .len lookN [28] xs H)) [(tO 18)] (some (sOf 19)) <|
  .p2 (binF .gtr (evBin lookN .gtr 3 (.tmp 19) (.const (.int .i64 (2000))))) (tO 19) (.con (.int .i64 (2000))) (some (sOf 20)) <|
  .mv (tO 20) (some (sOf 21)) <|
  .gd (sOf 21) false (some (sOf 22)) (.mv (tO 0) (some (sOf 22)) <|
  zlh1) zlh1
def f23r4 : K2 :=
  .mv (.con (.bool true)) (some (sOf 2)) <|
  .done
def f23r5 : K2 :=
  .mv (tO 3) (some (sOf 12)) <|
  .p2 (binF .add (evBin lookN .add 3 (.tmp 12) (.const (.int .i64 (1))))) (tO 12) (.con (.int .i64 (1))) (some (sOf 13)) <|
  .mv (tO 13) (some (sOf 3)) <|
  .done
def f23l0 : C2 := (.seq (.seq (.reg f23r2)
  (.cond (tO 11) .skip (.exit 0)))
  (.seq (.block 1 (.seq (.reg f23r3)
  (.cond (tO 29) (.seq (.reg f23r4)
  .ret) .skip)))
  (.reg f23r5)))
def f23b0 : Code := lpN f23body 0
theorem zxk1 : comp lookN f23b0 = f23l0 := by kernel_rfl
def f23r6 : K2 :=
  .mv (tO 0) (some (sOf 30)) <|
  .ln (fun xs H => fstO (zna .len lookN [70] xs H)) [(tO 30)] (some (sOf 31)) <|
  .p2 (binF .gtr (evBin lookN .gtr 3 (.tmp 31) (.const (.int .i64 (30))))) (tO 31) (.con (.int .i64 (30))) (some (sOf 32)) <|
  .mv (tO 32) (some (sOf 2)) <|
  .done
def f23c : C2 := (.seq (.reg f23r0)
  (.seq (.seq (.reg f23r1)
  (.block 0 (.loop f23b0)))
  (.seq (.reg f23r6)
  .ret)))
theorem f23_eq : fnF lookN 23 = some ⟨33, f23c, [.tmp 2]⟩ := by kernel_rfl
def f6body : Code := bodyN lookN 6
def f6r0 : K2 :=
  .m1 false (fun v H => alF v.toC 68 7 H) (tO 0) (some (sOf 1)) <|
  .mv (.con (.bool false)) (some (sOf 2)) <|
  .done
def f6r1 : K2 :=
  .r1 (ldN 7) (tO 1) (some (sOf 7)) <|
  .hn false (fun xs H => bsF 7 1 (.agg [(.int .i64 (0)), (.int .i64 (0)), (.int .i64 (0)), (.int .i64 (0)), (.int .u8 (0)), .nilSl, .nilSl]) 68 (zipF [0] xs) H) [(tO 7)] (some (sOf 8)) <|
  .cl false 23 [(tO 8)] (some (sOf 9)) <|
  .done
def f6r2 : K2 :=
  .cl false 22 [] (some (sOf 10)) <|
  .mv (tO 10) (some (sOf 2)) <|
  .done
def f6r3 : K2 :=
  .ln (fun xs _ => zee lookN 72 (zipF [] xs)) [] (some (sOf 11)) <|
  .m1 false (fun v H => alF v.toC 72 2 H) (tO 11) (some (sOf 12)) <|
  .hn false (fun xs H => bsF 1 2 .nilPtr 64 (zipF [0, 1] xs) H) [(.con .nilPtr), (tO 12)] (some (sOf 13)) <|
  .mv (tO 13) (some (sOf 3)) <|
  .done
def f6r4 : K2 :=
  .mv (.con (.int .i64 (0))) (some (sOf 4)) <|
  .done
def f6b0 : Code := lpN f6body 0
def f6r11 : K2 :=
  .cl false 22 [] (some (sOf 62)) <|
  .mv (tO 62) (some (sOf 2)) <|
  .done
def f6c : C2 := (.seq (.reg f6r0)
  (.seq (.seq (.reg f6r1)
  (.cond (tO 9) (.seq (.reg f6r2)
  .ret) .skip))
  (.seq (.reg f6r3)
  (.seq (.seq (.reg f6r4)
  (.block 0 (.loop f6b0)))
  (.seq (.reg f6r11)
  .ret)))))
theorem f6_eq : fnF lookN 6 = some ⟨63, f6c, [.tmp 2]⟩ := by kernel_rfl
set_option maxRecDepth 100000
open Ra Rb Rc Rd Re Rf Rg Rh Ri Rj Rk Rl Rm Rn Ro Rp Rq Rr
theorem uN35 : lookN.under 28 = some (.slice 5) := by kernel_rfl
theorem uN36 : lookN.under 40 = some (.slice 4) := by kernel_rfl
theorem uN83 : lookN.under 70 = some (.slice 68) := by kernel_rfl
theorem nxL : lookN.ext 23 = none := by kernel_rfl
theorem ndL : lookN.dfn 23 = false := by kernel_rfl
theorem nxV : lookN.ext 6 = none := by kernel_rfl
theorem ndV : lookN.dfn 6 = false := by kernel_rfl
theorem zye1 (H : AH) (k c : Nat) (op : Bool) (vA vB : AV) (nA nB : Nat) (h0 : IsSl H (.sl k 0 1 c op) 1) (r1 : ld1 (.ptr k 6) H = some vA) (r2 : ld1 (.ptr k 5) H = some vB) (hA : IsSl H vA nA) (hB : IsSl H vB nB) :
    FnE lookN 23 [.sl k 0 1 c op] H fun r H' => (∃ b, r = .bool b) ∧ H' = H := by
  refine zzb f23_eq nxL rfl ?_ ndL
  unfold f23c
  have hlen := fun H' => zaj (H' := H') uN83 h0
  have hlenA := fun H' => zaj (H' := H') uN35 hA
  have hlenB := fun H' => zaj (H' := H') uN36 hB
  have hix : ixS 7 (.sl k 0 1 c op) (.int .i64 0) = some (.ptr k 0) := rfl
  (repeat' (first | refine Z ?_ | refine Zq ?_ | refine zaa (by decide) ?_ | ((first | refine' Y ?_ ?_ | refine' X ?_ ?_ ?_); rotate_left; (· (first | (simp (disch := omega) only [evl, Nat.reduceEqDiff, Nat.reduceAdd, reduceIte, reduceCtorEq] <;> exact rfl) | exact rfl)); all_goals try (refine fun (hb : _ = _) => ?_; try simp only [Zu, ne_eq, reduceCtorEq] at hb)) | (apply zba; · simp [evl])))
  refine zoh (R := fun ex T' H' => (ex = .exit 0 ∧ gT T' 0 = .sl k 0 1 c op ∧ H' = H) ∨ (ex = .ret ∧ gT T' 2 = .bool true ∧ H' = H)) ?_ ?_
  · refine zxm zxk1 (fun j T H' => gT T 0 = .sl k 0 1 c op ∧ H' = H ∧ ((j = 1 ∧ gT T 3 = .int .i64 0) ∨ (j = 0 ∧ gT T 3 = .int .i64 1))) _ ?_ 1 _ _ ?_
    · rintro j T H2 ⟨e0, rfl, ⟨rfl, e3⟩ | ⟨rfl, e3⟩⟩
      · unfold f23l0
        by_cases b1 : 2000 < nA
        · (repeat' (first | refine Z ?_ | refine Zq ?_ | refine zaa (by decide) ?_ | ((first | refine' Y ?_ ?_ | refine' X ?_ ?_ ?_); rotate_left; (· (first | (simp (disch := omega) only [evl, Nat.reduceEqDiff, Nat.reduceAdd, reduceIte, reduceCtorEq, e0, e3, hlen, hix, r1, r2, hlenA, hlenB] <;> exact rfl) | exact rfl)); all_goals try (refine fun (hb : _ = _) => ?_; try simp only [Zu, ne_eq, reduceCtorEq] at hb)) | (apply zba; · simp [evl])))
          refine zma ?_
          refine lpq_r (.inr ⟨rfl, ?_, rfl⟩)
          (simp (disch := omega) only [evl, Nat.reduceEqDiff, Nat.reduceAdd, reduceIte, reduceCtorEq])
        · by_cases b2 : 300 < nB
          · (repeat' (first | refine Z ?_ | refine Zq ?_ | refine zaa (by decide) ?_ | ((first | refine' Y ?_ ?_ | refine' X ?_ ?_ ?_); rotate_left; (· (first | (simp (disch := omega) only [evl, Nat.reduceEqDiff, Nat.reduceAdd, reduceIte, reduceCtorEq, e0, e3, hlen, hix, r1, r2, hlenA, hlenB] <;> exact rfl) | exact rfl)); all_goals try (refine fun (hb : _ = _) => ?_; try simp only [Zu, ne_eq, reduceCtorEq] at hb)) | (apply zba; · simp [evl])))
            refine zma ?_
            refine lpq_r (.inr ⟨rfl, ?_, rfl⟩)
            (simp (disch := omega) only [evl, Nat.reduceEqDiff, Nat.reduceAdd, reduceIte, reduceCtorEq])
          · (repeat' (first | refine Z ?_ | refine Zq ?_ | refine zaa (by decide) ?_ | ((first | refine' Y ?_ ?_ | refine' X ?_ ?_ ?_); rotate_left; (· (first | (simp (disch := omega) only [evl, Nat.reduceEqDiff, Nat.reduceAdd, reduceIte, reduceCtorEq, e0, e3, hlen, hix, r1, r2, hlenA, hlenB] <;> exact rfl) | exact rfl)); all_goals try (refine fun (hb : _ = _) => ?_; try simp only [Zu, ne_eq, reduceCtorEq] at hb)) | (apply zba; · simp [evl])))
            refine zma ?_
            refine lpq_n 0 (by omega) ⟨?_, rfl, .inr ⟨rfl, ?_⟩⟩
            · (simp (disch := omega) only [evl, Nat.reduceEqDiff, Nat.reduceAdd, reduceIte, reduceCtorEq, e0])
            · (simp (disch := omega) only [evl, Nat.reduceEqDiff, Nat.reduceAdd, reduceIte, reduceCtorEq, e3]); rfl
      · unfold f23l0
        (repeat' (first | refine Z ?_ | refine Zq ?_ | refine zaa (by decide) ?_ | ((first | refine' Y ?_ ?_ | refine' X ?_ ?_ ?_); rotate_left; (· (first | (simp (disch := omega) only [evl, Nat.reduceEqDiff, Nat.reduceAdd, reduceIte, reduceCtorEq, e0, e3, hlen] <;> exact rfl) | exact rfl)); all_goals try (refine fun (hb : _ = _) => ?_; try simp only [Zu, ne_eq, reduceCtorEq] at hb)) | (apply zba; · simp [evl])))
        refine zma ?_
        refine lpq_e (.inl ⟨rfl, ?_, rfl⟩)
        (simp (disch := omega) only [evl, Nat.reduceEqDiff, Nat.reduceAdd, reduceIte, reduceCtorEq, e0])
    · refine ⟨?_, rfl, .inl ⟨rfl, ?_⟩⟩
      · (simp (disch := omega) only [evl, Nat.reduceEqDiff, Nat.reduceAdd, reduceIte, reduceCtorEq])
      · (simp (disch := omega) only [evl, Nat.reduceEqDiff, Nat.reduceAdd, reduceIte, reduceCtorEq])
  · rintro ex T' H' (⟨rfl, e0, rfl⟩ | ⟨rfl, e2, rfl⟩)
    · (repeat' (first | refine Z ?_ | refine Zq ?_ | refine zaa (by decide) ?_ | ((first | refine' Y ?_ ?_ | refine' X ?_ ?_ ?_); rotate_left; (· (first | (simp (disch := omega) only [evl, Nat.reduceEqDiff, Nat.reduceAdd, reduceIte, reduceCtorEq, e0, hlen] <;> exact rfl) | exact rfl)); all_goals try (refine fun (hb : _ = _) => ?_; try simp only [Zu, ne_eq, reduceCtorEq] at hb)) | (apply zba; · simp [evl])))
      all_goals
        refine zma ?_
        refine zqc (zjc _ _) ⟨?_, rfl⟩
        (simp (disch := omega) only [evl, Nat.reduceEqDiff, Nat.reduceAdd, reduceIte, reduceCtorEq])
        exact ⟨_, rfl⟩
    · (repeat' (first | refine Z ?_ | refine Zq ?_ | refine zaa (by decide) ?_ | ((first | refine' Y ?_ ?_ | refine' X ?_ ?_ ?_); rotate_left; (· (first | (simp (disch := omega) only [evl, Nat.reduceEqDiff, Nat.reduceAdd, reduceIte, reduceCtorEq, e2] <;> exact rfl) | exact rfl)); all_goals try (refine fun (hb : _ = _) => ?_; try simp only [Zu, ne_eq, reduceCtorEq] at hb)) | (apply zba; · simp [evl])))
      refine zma ?_
      refine zqc (zjc _ _) ⟨⟨true, ?_⟩, rfl⟩
      (simp (disch := omega) only [evl, Nat.reduceEqDiff, Nat.reduceAdd, reduceIte, reduceCtorEq, e2])
structure EvA where
  kd : Int
  dv : Int
  at_ : Int
  n_ : Int
  ms : Int
  vK : AV
  vR : AV
abbrev evL (x : EvA) : List AV := [.int .i64 x.kd, .int .i64 x.dv, .int .i64 x.at_, .int .i64 x.n_, .int .u8 x.ms, x.vK, x.vR]
abbrev h5 (B : Nat → ABlk) : AH := hA [.glob 0 (.ifc 736 (.ptr 5 0)), .glob 1 (.ifc 736 (.ptr 6 0)), .defd, .defd, .defd, .defd, .defd, B 0, B 1]
abbrev g1 (x : EvA) (B : Nat → ABlk) : AH := (h5 B).new (.cells (.lst (evL x)) 68 7 false false)
abbrev g2 (x : EvA) (B : Nat → ABlk) : AH := (g1 x B).new (.cells (.lst (evL x)) 68 7 false false)
section
variable (x : EvA) (B : Nat → ABlk)
theorem j5 : ld1 (.ptr 10 5) (g2 x B) = some x.vK := by kernel_rfl
theorem j6 : ld1 (.ptr 10 6) (g2 x B) = some x.vR := by kernel_rfl
theorem k7 : ldN 7 (.ptr 9 0) (g1 x B) = some (.agg (evL x)) := by kernel_rfl
end
theorem zze1 (x : EvA) (B : Nat → ABlk) (nK nR : Nat) (hK : IsSl (h5 B) x.vK nK) (hR : IsSl (h5 B) x.vR nR) :
    FnE lookN 23 [.sl 10 0 1 1 false] (g2 x B) fun r H' => (∃ b, r = .bool b) ∧ H' = g2 x B := by
  have row : Row (g2 x B) 10 false false 68 7 (evL x) := Row.new (H := g1 x B) rfl (.lst (evL x)) 68 7 false false
  have hx2 : HX (h5 B) (g2 x B) := (HX.new _ _).trans (HX.new _ _)
  exact zye1 (g2 x B) 10 1 false x.vR x.vK nR nK (row.isSl (by show 10 < 11; decide) (Nat.zero_le _)) (j6 x B) (j5 x B) (hR.hx hx2) (hK.hx hx2)
end HS
end
