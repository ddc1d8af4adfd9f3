import Derived.Test.YtbmfjlecnponaaaGreatDoorVAAY
import Derived.Deep.Slices
import Derived.Deep.SlicePairs
import Derived.WalkKit
import Derived.ProofKit
import Derived.OpenShut
import Derived.ShutString
import Derived.ChangeOld
import Derived.Below
import Derived.Deep.Strs
import Derived.Deep.Fields
import Derived.Test.YtbmfjlecnponaaaGreatDoorRows
import Derived.Test.YtbmfjlecnponaaaGreatDoorCards
import Derived.JoinedOf
import Derived.KernelRfl
import Derived.SevenTiedAt
import Derived.Stop.Joined
set_option maxHeartbeats 8000000
set_option linter.unusedSimpArgs false
set_option linter.unusedVariables false
open Go Go.Ev Go.Proofs Go.RowKit
namespace HS
set_option maxRecDepth 1000000
noncomputable def tabS : List (Nat × XFn) := (5, zkg) :: tab0
theorem tabS_ok (B : Nat) : ∀ p ∈ tabS, XOk Tryz.prog B p.1 p.2 := zme (zot B) (zvx B)
noncomputable def lookS : Lk := lk tabS
theorem zkg1 : LOk lookS Tryz.prog := lk_ok tabS
theorem zmb1 (B : Nat) : ExtOk lookS Tryz.prog B := zmr (tabS_ok B)
noncomputable def f3body : Code := bodyN lookS 3
noncomputable def f3r0 : K2 :=
  .m1 false (fun v H => alF v.toC 26 35 H) (tO 0) (some (sOf 2)) <|
  .mv (.con (.bool false)) (some (sOf 4)) <|
  .done
noncomputable def f3r1 : K2 :=
  .p1 (fa 0) (tO 2) (some (sOf 11)) <|
  .r1 ld1 (tO 11) (some (sOf 12)) <|
  .ln (fun xs H => fstO (zjb .len lookS [22] xs H)) [(tO 12)] (some (sOf 13)) <|
  .p2 (binF .gtr (evBin lookS .gtr 3 (.tmp 13) (.const (.int .i64 (20))))) (tO 13) (.con (.int .i64 (20))) (some (sOf 14)) <|
  .done
noncomputable def f3r2 : K2 :=
  .cl false 5 [] (some (sOf 15)) <|
  .mv (tO 15) (some (sOf 4)) <|
  .done
noncomputable def f3r3 : K2 :=
  .ln (fun xs _ => zef lookS 37 (zipF [] xs)) [] (some (sOf 16)) <|
  .m1 false (fun v H => alF v.toC 37 8 H) (tO 16) (some (sOf 17)) <|
  .hn false (fun xs H => bsF 1 2 .nilPtr 28 (zipF [0, 1] xs) H) [(.con .nilPtr), (tO 17)] (some (sOf 18)) <|
  .mv (tO 18) (some (sOf 5)) <|
  .done
noncomputable def f3r4 : K2 :=
  .mv (.con (.int .i64 (0))) (some (sOf 6)) <|
  .done
noncomputable def f3b0 : Code := lpN f3body 0
noncomputable def zid1 : K2 := .ln (fun xs _ => pickF xs) [(tO 86), (tO 87), (.con (.bool false))] (some (sOf 88)) <|
  .mv (tO 88) (some (sOf 4)) <|
  .done
noncomputable def f3r11 : K2 :=
  .r1 (ldN 35) (tO 2) (some (sOf 81)) <|
  .r1 (ldN 35) (tO 2) (some (sOf 83)) <|
  .cw (some [sOf 2]) 11 [(tO 81)] (some (sOf 82)) <|
  .cl false 12 [(tO 83)] (some (sOf 84)) <|
  .p2 (binF .eql (evBin lookS .eql 3 (.tmp 82) (.tmp 84))) (tO 82) (tO 84) (some (sOf 85)) <|
  .mv (tO 85) (some (sOf 86)) <|
  .gd (sOf 86) true (some (sOf 87)) (.cl false 5 [] (some (sOf 87)) <|
  zid1) zid1
noncomputable def f3c : C2 := (.seq (.reg f3r0)
  (.seq (.seq (.reg f3r1)
  (.cond (tO 14) (.seq (.reg f3r2)
  .ret) .skip))
  (.seq (.reg f3r3)
  (.seq (.seq (.reg f3r4)
  (.block 0 (.loop f3b0)))
  (.seq (.reg f3r11)
  .ret)))))
theorem f3_eq : fnF lookS 3 = some ⟨89, f3c, [.tmp 4]⟩ := by kernel_rfl
noncomputable def f11r0 : K2 :=
  .m1 false (fun v H => alF v.toC 26 35 H) (tO 0) (some (sOf 1)) <|
  .mv (.con (.int .i64 (0))) (some (sOf 2)) <|
  .done
noncomputable def f11r1 : K2 :=
  .p1 (fa 0) (tO 1) (some (sOf 3)) <|
  .r1 ld1 (tO 3) (some (sOf 4)) <|
  .ln (fun xs H => fstO (zjb .len lookS [22] xs H)) [(tO 4)] (some (sOf 5)) <|
  .p2 (binF .eql (evBin lookS .eql 3 (.tmp 5) (.const (.int .i64 (0))))) (tO 5) (.con (.int .i64 (0))) (some (sOf 6)) <|
  .done
noncomputable def f11r2 : K2 :=
  .mv (.con (.int .i64 (0))) (some (sOf 2)) <|
  .done
noncomputable def f11r3 : K2 :=
  .p1 (fa 0) (tO 1) (some (sOf 7)) <|
  .r1 ld1 (tO 7) (some (sOf 8)) <|
  .p2 (ixS 2) (tO 8) (.con (.int .i64 (0))) (some (sOf 9)) <|
  .p1 (fa 0) (tO 9) (some (sOf 10)) <|
  .r1 ld1 (tO 10) (some (sOf 11)) <|
  .p2 (binF .mul (evBin lookS .mul 3 (.const (.int .i64 (4096))) (.tmp 11))) (.con (.int .i64 (4096))) (tO 11) (some (sOf 12)) <|
  .p1 (fa 0) (tO 1) (some (sOf 13)) <|
  .r1 ld1 (tO 13) (some (sOf 14)) <|
  .p2 (ixS 2) (tO 14) (.con (.int .i64 (0))) (some (sOf 15)) <|
  .p1 (fa 1) (tO 15) (some (sOf 16)) <|
  .r1 ld1 (tO 16) (some (sOf 17)) <|
  .p2 (binF .add (evBin lookS .add 3 (.tmp 12) (.tmp 17))) (tO 12) (tO 17) (some (sOf 18)) <|
  .mv (tO 18) (some (sOf 2)) <|
  .done
noncomputable def f11c : C2 := (.seq (.reg f11r0)
  (.seq (.seq (.reg f11r1)
  (.cond (tO 6) (.seq (.reg f11r2)
  .ret) .skip))
  (.seq (.reg f11r3)
  .ret)))
theorem f11_eq : fnF lookS 11 = some ⟨19, f11c, [.tmp 2]⟩ := by kernel_rfl
noncomputable def f12r0 : K2 :=
  .m1 false (fun v H => alF v.toC 26 35 H) (tO 0) (some (sOf 1)) <|
  .mv (.con (.int .i64 (0))) (some (sOf 2)) <|
  .done
noncomputable def f12r1 : K2 :=
  .p1 (fa 0) (tO 1) (some (sOf 3)) <|
  .r1 ld1 (tO 3) (some (sOf 4)) <|
  .ln (fun xs H => fstO (zjb .len lookS [22] xs H)) [(tO 4)] (some (sOf 5)) <|
  .p2 (binF .eql (evBin lookS .eql 3 (.tmp 5) (.const (.int .i64 (0))))) (tO 5) (.con (.int .i64 (0))) (some (sOf 6)) <|
  .done
noncomputable def f12r2 : K2 :=
  .mv (.con (.int .i64 (0))) (some (sOf 2)) <|
  .done
noncomputable def f12r3 : K2 :=
  .p1 (fa 0) (tO 1) (some (sOf 7)) <|
  .r1 ld1 (tO 7) (some (sOf 8)) <|
  .p2 (ixS 2) (tO 8) (.con (.int .i64 (0))) (some (sOf 9)) <|
  .p1 (fa 0) (tO 9) (some (sOf 10)) <|
  .r1 ld1 (tO 10) (some (sOf 11)) <|
  .p2 (binF .mul (evBin lookS .mul 3 (.const (.int .i64 (4096))) (.tmp 11))) (.con (.int .i64 (4096))) (tO 11) (some (sOf 12)) <|
  .p1 (fa 0) (tO 1) (some (sOf 13)) <|
  .r1 ld1 (tO 13) (some (sOf 14)) <|
  .p2 (ixS 2) (tO 14) (.con (.int .i64 (0))) (some (sOf 15)) <|
  .p1 (fa 1) (tO 15) (some (sOf 16)) <|
  .r1 ld1 (tO 16) (some (sOf 17)) <|
  .p2 (binF .add (evBin lookS .add 3 (.tmp 12) (.tmp 17))) (tO 12) (tO 17) (some (sOf 18)) <|
  .mv (tO 18) (some (sOf 2)) <|
  .done
noncomputable def f12c : C2 := (.seq (.reg f12r0)
  (.seq (.seq (.reg f12r1)
  (.cond (tO 6) (.seq (.reg f12r2)
  .ret) .skip))
  (.seq (.reg f12r3)
  .ret)))
theorem f12_eq : fnF lookS 12 = some ⟨19, f12c, [.tmp 2]⟩ := by kernel_rfl
open Go.Ev
open Ra Rb Rc Rd Re Rf Rg Rh Ri Rj Rk Rl Rm Rn Ro Rp Rq Rr
theorem zlg1 {f : Nat} (h : xLook tabS f = none) : lookS.ext f = none := h
theorem uS22 : lookS.under 22 = some (.slice 89) := by kernel_rfl
theorem ld1_hx {H H' : AH} {i o : Nat} {v : AV} (hx : HX H H') (hi : i < H.next) (h : ld1 (.ptr i o) H = some v) : ld1 (.ptr i o) H' = some v := by
  rw [zdi] at h ⊢
  unfold AH.read1 AH.row at h ⊢
  rw [hx.get hi]; exact h
structure PtrA where
  vA : AV
  p1 : Int
  p2 : Int
  ds : Nat → Int
noncomputable abbrev ptrL (x : PtrA) : List AV := [x.vA, .int .i64 x.p1, .int .i64 x.p2, .int .u8 (x.ds 0), .int .u8 (x.ds 1), .int .u8 (x.ds 2), .int .u8 (x.ds 3), .int .u8 (x.ds 4), .int .u8 (x.ds 5), .int .u8 (x.ds 6), .int .u8 (x.ds 7), .int .u8 (x.ds 8), .int .u8 (x.ds 9), .int .u8 (x.ds 10), .int .u8 (x.ds 11), .int .u8 (x.ds 12), .int .u8 (x.ds 13), .int .u8 (x.ds 14), .int .u8 (x.ds 15), .int .u8 (x.ds 16), .int .u8 (x.ds 17), .int .u8 (x.ds 18), .int .u8 (x.ds 19), .int .u8 (x.ds 20), .int .u8 (x.ds 21), .int .u8 (x.ds 22), .int .u8 (x.ds 23), .int .u8 (x.ds 24), .int .u8 (x.ds 25), .int .u8 (x.ds 26), .int .u8 (x.ds 27), .int .u8 (x.ds 28), .int .u8 (x.ds 29), .int .u8 (x.ds 30), .int .u8 (x.ds 31)]
structure PA (H : AH) (v : AV) (n : Nat) (a b : Int) : Prop where
  is : IsSl H v n
  fst : 0 < n → ∃ i o, i < H.next ∧ elA 2 v 0 = .ptr i o ∧ ld1 (.ptr i o) H = some (.int .i64 a) ∧ ld1 (.ptr i (o + 1)) H = some (.int .i64 b)
theorem PA.hx {H H' : AH} {v : AV} {n : Nat} {a b : Int} (h : PA H v n a b) (hx : HX H H') : PA H' v n a b :=
  ⟨h.is.hx hx, fun hn => by
    obtain ⟨i, o, hi, he, h1, h2⟩ := h.fst hn
    exact ⟨i, o, Nat.lt_of_lt_of_le hi hx.next, he, ld1_hx hx hi h1, ld1_hx hx hi h2⟩⟩
theorem zwx {H : AH} {n : Nat} (x : PtrA) (h : IsSl H x.vA n) : (AV.agg (ptrL x)).toC = .lst (ptrL x) := by
  obtain ⟨vA, p1, p2, ds⟩ := x
  rcases h with ⟨h, _⟩ | ⟨i, o, c, op, h, _⟩
  · simp only at h; subst h; rfl
  · simp only at h; subst h; rfl
theorem zor (H : AH) : FnE lookS 5 [] H fun r H' => r = .bool true ∧ H' = { H with fz := true } := ztc1 (show lookS.ext 5 = some zkg from rfl) rfl
noncomputable abbrev boxP (x : PtrA) : ABlk := .cells (.lst (ptrL x)) 26 35 false false
noncomputable def plc (n : Nat) (a b : Int) : AV := if n = 0 then .int .i64 0 else (match binF .mul (evBin lookS .mul 3 (.const (.int .i64 (4096))) (.tmp 11)) (.int .i64 4096) (.int .i64 a) with | some m => (match binF .add (evBin lookS .add 3 (.tmp 12) (.tmp 17)) m (.int .i64 b) with | some r => r | none => .undef) | none => .undef)
theorem mulS (a : Int) : ∃ m, binF .mul (evBin lookS .mul 3 (.const (.int .i64 (4096))) (.tmp 11)) (.int .i64 4096) (.int .i64 a) = some (.int .i64 m) := ⟨_, rfl⟩
theorem addS (m b : Int) : ∃ r, binF .add (evBin lookS .add 3 (.tmp 12) (.tmp 17)) (.int .i64 m) (.int .i64 b) = some (.int .i64 r) := ⟨_, rfl⟩
theorem plc_int (n : Nat) (a b : Int) : ∃ r, plc n a b = .int .i64 r := by
  unfold plc
  split
  · exact ⟨_, rfl⟩
  · obtain ⟨m, hm⟩ := mulS a
    rw [hm]
    obtain ⟨r, hr⟩ := addS m b
    simp only [hr]
    exact ⟨r, rfl⟩
set_option maxHeartbeats 4000000 in
theorem znb1 (x : PtrA) (H : AH) (n : Nat) (a b : Int) (hp : PA H x.vA n a b) (hh : H.hide = []) :
    FnE lookS 11 [.agg (ptrL x)] H fun r H' => r = plc n a b ∧ H' = H.new (boxP x) := by
  refine zsc f11_eq (zlg1 rfl) rfl ?_
  unfold f11c
  (repeat' (first | refine Z ?_ | refine Zq ?_ | refine zaa (by decide) ?_ | ((first | refine' Y ?_ ?_ | refine' X ?_ ?_ ?_); rotate_left; (· (first | (simp (disch := omega) only [evl, Nat.reduceEqDiff, Nat.reduceAdd, reduceIte, reduceCtorEq] <;> exact rfl) | exact rfl)); all_goals try (refine fun (hb : _ = _) => ?_; try simp only [Zu, ne_eq, reduceCtorEq] at hb)) | (apply zca; · simp [evl])))
  refine rk_m1 (v := .ptr H.next 0) (H' := H.new (boxP x)) (by (simp (disch := omega) only [evl, Nat.reduceEqDiff, Nat.reduceAdd, reduceIte, reduceCtorEq]); rw [zwx x hp.is]; exact zgp _ _ _ _) ?_
  simp only [zwa]
  have hx := HX.new H (boxP x)
  have hr : Row (H.new (boxP x)) H.next false false 26 35 (ptrL x) := Row.new hh (.lst (ptrL x)) 26 35 false false
  generalize hH1 : H.new (boxP x) = H1 at hx hr ⊢
  have hp1 := hp.hx hx
  have r0 := hr.rd (k := 0) rfl
  have hlen := fun H' => zda1 (H' := H') uS22 hp1.is
  by_cases hn : n = 0
  · subst hn
    (repeat' (first | refine Z ?_ | refine Zq ?_ | refine zaa (by decide) ?_ | ((first | refine' Y ?_ ?_ | refine' X ?_ ?_ ?_); rotate_left; (· (first | (simp (disch := omega) only [evl, Nat.reduceEqDiff, Nat.reduceAdd, reduceIte, reduceCtorEq, r0, hlen] <;> exact rfl) | exact rfl)); all_goals try (refine fun (hb : _ = _) => ?_; try simp only [Zu, ne_eq, reduceCtorEq] at hb)) | (apply zca; · simp [evl])))
    refine zva ?_
    refine zed (znd _ _) ⟨?_, rfl⟩
    (simp (disch := omega) only [evl, Nat.reduceEqDiff, Nat.reduceAdd, reduceIte, reduceCtorEq])
    unfold plc
    rw [if_pos rfl]
  · obtain ⟨i, o, hi, he, h1, h2⟩ := hp1.fst (by omega)
    have hix := @ix_el _ _ _ hp1.is
    have hix0 : ixS 2 x.vA (.int .i64 0) = some (.ptr i o) := by rw [ix_el hp1.is (Int.le_refl 0) (by omega)]; exact congrArg some he
    obtain ⟨m, hm⟩ := mulS a
    obtain ⟨r, hrr⟩ := addS m b
    have hpl : plc n a b = .int .i64 r := by unfold plc; rw [if_neg hn, hm]; simp only [hrr]
    have hne : ¬ ((n : Int) = 0) := by omega
    rw [hpl]
    (repeat' (first | refine Z ?_ | refine Zq ?_ | refine zaa (by decide) ?_ | ((first | refine' Y ?_ ?_ | refine' X ?_ ?_ ?_); rotate_left; (· (first | (simp (disch := omega) only [evl, Nat.reduceEqDiff, Nat.reduceAdd, reduceIte, reduceCtorEq, r0, hlen, hix0, h1, h2, hm, hrr] <;> exact rfl) | exact rfl)); all_goals try (refine fun (hb : _ = _) => ?_; try simp only [Zu, ne_eq, reduceCtorEq] at hb)) | (apply zca; · simp [evl])))
    refine zva ?_
    refine zed (znd _ _) ⟨?_, rfl⟩
    (simp (disch := omega) only [evl, Nat.reduceEqDiff, Nat.reduceAdd, reduceIte, reduceCtorEq])
set_option maxHeartbeats 4000000 in
theorem zob1 (x : PtrA) (H : AH) (n : Nat) (a b : Int) (hp : PA H x.vA n a b) (hh : H.hide = []) :
    FnE lookS 12 [.agg (ptrL x)] H fun r H' => r = plc n a b ∧ H' = H.new (boxP x) := by
  refine zsc f12_eq (zlg1 rfl) rfl ?_
  unfold f12c
  (repeat' (first | refine Z ?_ | refine Zq ?_ | refine zaa (by decide) ?_ | ((first | refine' Y ?_ ?_ | refine' X ?_ ?_ ?_); rotate_left; (· (first | (simp (disch := omega) only [evl, Nat.reduceEqDiff, Nat.reduceAdd, reduceIte, reduceCtorEq] <;> exact rfl) | exact rfl)); all_goals try (refine fun (hb : _ = _) => ?_; try simp only [Zu, ne_eq, reduceCtorEq] at hb)) | (apply zca; · simp [evl])))
  refine rk_m1 (v := .ptr H.next 0) (H' := H.new (boxP x)) (by (simp (disch := omega) only [evl, Nat.reduceEqDiff, Nat.reduceAdd, reduceIte, reduceCtorEq]); rw [zwx x hp.is]; exact zgp _ _ _ _) ?_
  simp only [zwa]
  have hx := HX.new H (boxP x)
  have hr : Row (H.new (boxP x)) H.next false false 26 35 (ptrL x) := Row.new hh (.lst (ptrL x)) 26 35 false false
  generalize hH1 : H.new (boxP x) = H1 at hx hr ⊢
  have hp1 := hp.hx hx
  have r0 := hr.rd (k := 0) rfl
  have hlen := fun H' => zda1 (H' := H') uS22 hp1.is
  by_cases hn : n = 0
  · subst hn
    (repeat' (first | refine Z ?_ | refine Zq ?_ | refine zaa (by decide) ?_ | ((first | refine' Y ?_ ?_ | refine' X ?_ ?_ ?_); rotate_left; (· (first | (simp (disch := omega) only [evl, Nat.reduceEqDiff, Nat.reduceAdd, reduceIte, reduceCtorEq, r0, hlen] <;> exact rfl) | exact rfl)); all_goals try (refine fun (hb : _ = _) => ?_; try simp only [Zu, ne_eq, reduceCtorEq] at hb)) | (apply zca; · simp [evl])))
    refine zva ?_
    refine zed (znd _ _) ⟨?_, rfl⟩
    (simp (disch := omega) only [evl, Nat.reduceEqDiff, Nat.reduceAdd, reduceIte, reduceCtorEq])
    unfold plc
    rw [if_pos rfl]
  · obtain ⟨i, o, hi, he, h1, h2⟩ := hp1.fst (by omega)
    have hix := @ix_el _ _ _ hp1.is
    have hix0 : ixS 2 x.vA (.int .i64 0) = some (.ptr i o) := by rw [ix_el hp1.is (Int.le_refl 0) (by omega)]; exact congrArg some he
    obtain ⟨m, hm⟩ := mulS a
    obtain ⟨r, hrr⟩ := addS m b
    have hpl : plc n a b = .int .i64 r := by unfold plc; rw [if_neg hn, hm]; simp only [hrr]
    have hne : ¬ ((n : Int) = 0) := by omega
    rw [hpl]
    (repeat' (first | refine Z ?_ | refine Zq ?_ | refine zaa (by decide) ?_ | ((first | refine' Y ?_ ?_ | refine' X ?_ ?_ ?_); rotate_left; (· (first | (simp (disch := omega) only [evl, Nat.reduceEqDiff, Nat.reduceAdd, reduceIte, reduceCtorEq, r0, hlen, hix0, h1, h2, hm, hrr] <;> exact rfl) | exact rfl)); all_goals try (refine fun (hb : _ = _) => ?_; try simp only [Zu, ne_eq, reduceCtorEq] at hb)) | (apply zca; · simp [evl])))
    refine zva ?_
    refine zed (znd _ _) ⟨?_, rfl⟩
    (simp (disch := omega) only [evl, Nat.reduceEqDiff, Nat.reduceAdd, reduceIte, reduceCtorEq])
noncomputable abbrev h1S (B : ABlk) : AH := hA [B]
noncomputable abbrev g1S (x : PtrA) (B : ABlk) : AH := (h1S B).new (boxP x)
section
variable (x : PtrA) (B : ABlk) (q : Int)
noncomputable def outS (T : Tr AV) (H : AH) : Out := match evF lookS 300 (.loop f3b0 T H) with | some o => o | none => ⟨.normal, .nil, H0⟩
end
theorem lp_runS {T : Tr AV} {H : AH} (h : ∀ k, evF lookS (k + 300) (.loop f3b0 T H) = some (outS T H)) (R : PostC) (hq : R (outS T H).ex (outS T H).T (outS T H).H) : LpE lookS f3b0 T H R :=
  ⟨_, hq, 300, fun m hm => by obtain ⟨k, rfl⟩ : ∃ k, m = k + 300 := ⟨m - 300, by omega⟩; exact h k⟩
end HS
open Go Go.Ev Go.Proofs Go.RowKit
namespace HS
set_option maxRecDepth 1000000
open Go.Ev
open Ra Rb Rc Rd Re Rf Rg Rh Ri Rj Rk Rl Rm Rn Ro Rp Rq Rr
theorem PA.same {H H' : AH} {v : AV} {n : Nat} {a b : Int} (h : PA H v n a b) (hn : H.next ≤ H'.next) (hg : ∀ i, i < H.next → H'.get i = H.get i) : PA H' v n a b := by
  have rd : ∀ {i o : Nat} {u : AV}, i < H.next → ld1 (.ptr i o) H = some u → ld1 (.ptr i o) H' = some u := fun {i o u} hi h => by
    rw [zdi] at h ⊢
    unfold AH.read1 AH.row at h ⊢
    rw [hg i hi]; exact h
  refine ⟨?_, fun h0 => ?_⟩
  · rcases h.is with ⟨h1, h2⟩ | ⟨i, o, c, op, h1, hi, cc, e, z, op', ro, h2, h3⟩
    · exact .inl ⟨h1, h2⟩
    · exact .inr ⟨i, o, c, op, h1, Nat.lt_of_lt_of_le hi hn, cc, e, z, op', ro, (hg i hi).trans h2, h3⟩
  · obtain ⟨i, o, hi, he, h1, h2⟩ := h.fst h0
    exact ⟨i, o, Nat.lt_of_lt_of_le hi hn, he, rd hi h1, rd hi h2⟩
noncomputable abbrev pool0 : AV := .agg [.nilPtr, .int .i64 0, .nilSl, .int .i64 0, .int .i64 0, .int .i64 0, .int .i64 0, .nilSl]
set_option maxHeartbeats 4000000 in
theorem zbo (x : PtrA) (B : ABlk) (q : Int) (n : Nat) (a b : Int) (hp : PA (h1S B) x.vA n a b) :
    FnE lookS 3 [.agg (ptrL x), .int .i64 q] (h1S B) fun r H' => r = .bool true := by
  refine zsc f3_eq (zlg1 rfl) rfl ?_
  unfold f3c
  (repeat' (first | refine Z ?_ | refine Zq ?_ | refine zaa (by decide) ?_ | ((first | refine' Y ?_ ?_ | refine' X ?_ ?_ ?_); rotate_left; (· (first | (simp (disch := omega) only [evl, Nat.reduceEqDiff, Nat.reduceAdd, reduceIte, reduceCtorEq] <;> exact rfl) | exact rfl)); all_goals try (refine fun (hb : _ = _) => ?_; try simp only [Zu, ne_eq, reduceCtorEq] at hb)) | (apply zca; · simp [evl])))
  refine rk_m1 (v := .ptr 1 0) (H' := g1S x B) (by (simp (disch := omega) only [evl, Nat.reduceEqDiff, Nat.reduceAdd, reduceIte, reduceCtorEq]); rw [zwx x hp.is]; exact zgp _ _ _ _) ?_
  simp only [zwa]
  have hx := HX.new (h1S B) (boxP x)
  have hr : Row (g1S x B) 1 false false 26 35 (ptrL x) := Row.new rfl (.lst (ptrL x)) 26 35 false false
  have hp1 := hp.hx hx
  have r0 := hr.rd (k := 0) rfl
  have hlen := fun H' => zda1 (H' := H') uS22 hp1.is
  by_cases hbig : 20 < n
  · (repeat' (first | refine Z ?_ | refine Zq ?_ | refine zaa (by decide) ?_ | ((first | refine' Y ?_ ?_ | refine' X ?_ ?_ ?_); rotate_left; (· (first | (simp (disch := omega) only [evl, Nat.reduceEqDiff, Nat.reduceAdd, reduceIte, reduceCtorEq, r0, hlen] <;> exact rfl) | exact rfl)); all_goals try (refine fun (hb : _ = _) => ?_; try simp only [Zu, ne_eq, reduceCtorEq] at hb)) | (apply zca; · simp [evl])))
    refine rk_cl (by (simp (disch := omega) only [evl, Nat.reduceEqDiff, Nat.reduceAdd, reduceIte, reduceCtorEq]); exact zor _) ?_
    rintro r H1 ⟨rfl, rfl⟩
    simp only [zwa]
    (repeat' (first | refine Z ?_ | refine Zq ?_ | refine zaa (by decide) ?_ | ((first | refine' Y ?_ ?_ | refine' X ?_ ?_ ?_); rotate_left; (· (first | (simp (disch := omega) only [evl, Nat.reduceEqDiff, Nat.reduceAdd, reduceIte, reduceCtorEq] <;> exact rfl) | exact rfl)); all_goals try (refine fun (hb : _ = _) => ?_; try simp only [Zu, ne_eq, reduceCtorEq] at hb)) | (apply zca; · simp [evl])))
    refine zva ?_
    refine zed (znd _ _) ?_
    (simp (disch := omega) only [evl, Nat.reduceEqDiff, Nat.reduceAdd, reduceIte, reduceCtorEq])
  · (repeat' (first | refine Z ?_ | refine Zq ?_ | refine zaa (by decide) ?_ | ((first | refine' Y ?_ ?_ | refine' X ?_ ?_ ?_); rotate_left; (· (first | (simp (disch := omega) only [evl, Nat.reduceEqDiff, Nat.reduceAdd, reduceIte, reduceCtorEq, r0, hlen] <;> exact rfl) | exact rfl)); all_goals try (refine fun (hb : _ = _) => ?_; try simp only [Zu, ne_eq, reduceCtorEq] at hb)) | (apply zca; · simp [evl])))
    clear hx hr r0 hlen hp1
    refine rk_m1 (v := .ptr 2 0) (H' := (g1S x B).new (.cells pool0.toC 37 8 false false)) (by (simp (disch := omega) only [evl, Nat.reduceEqDiff, Nat.reduceAdd, reduceIte, reduceCtorEq]); exact zgp _ _ _ _) ?_
    simp only [zwa]
    refine rk_hn (v := .sl 3 0 2 2 false) (H' := ((g1S x B).new (.cells pool0.toC 37 8 false false)).new (.cells (.lst [.nilPtr, .ptr 2 0]) 28 1 false false)) (by (simp (disch := omega) only [evl, Nat.reduceEqDiff, Nat.reduceAdd, reduceIte, reduceCtorEq]); kernel_rfl) ?_
    simp only [zwa]
    (repeat' (first | refine Z ?_ | refine Zq ?_ | refine zaa (by decide) ?_ | ((first | refine' Y ?_ ?_ | refine' X ?_ ?_ ?_); rotate_left; (· (first | (simp (disch := omega) only [evl, Nat.reduceEqDiff, Nat.reduceAdd, reduceIte, reduceCtorEq] <;> exact rfl) | exact rfl)); all_goals try (refine fun (hb : _ = _) => ?_; try simp only [Zu, ne_eq, reduceCtorEq] at hb)) | (apply zca; · simp [evl])))
    refine zuk (R := fun ex T' H' => ex = .exit 0 ∧ gT T' 2 = .ptr 1 0 ∧ H'.hide = [] ∧ H'.get 0 = some B ∧ H'.get 1 = some (boxP x) ∧ ldN 35 (.ptr 1 0) H' = some (.agg (ptrL x)) ∧ Nat.ble 2 H'.next = true) (lp_runS (fun k => by kernel_rfl) _ ⟨by kernel_rfl, by kernel_rfl, by kernel_rfl, by kernel_rfl, by kernel_rfl, by kernel_rfl, by kernel_rfl⟩) ?_
    rintro ex T' H' ⟨rfl, t2, hh, hg0, hg1, hld, hnx⟩
    have hnx := Nat.le_of_ble_eq_true hnx
    have hpH : PA H' x.vA n a b := hp.same (by show 1 ≤ H'.next; omega) fun i hi => by
      have hi : i < 1 := hi
      obtain rfl : i = 0 := by omega
      rw [hg0]; exact (zzj [B] 0).symm
    have hrow : Row H' 1 false false 26 35 (ptrL x) := ⟨.lst (ptrL x), hg1, rfl⟩
    obtain ⟨r, hpl⟩ := plc_int n a b
    (repeat' (first | refine Z ?_ | refine Zq ?_ | refine zaa (by decide) ?_ | ((first | refine' Y ?_ ?_ | refine' X ?_ ?_ ?_); rotate_left; (· (first | (simp (disch := omega) only [evl, Nat.reduceEqDiff, Nat.reduceAdd, reduceIte, reduceCtorEq, t2, hld] <;> exact rfl) | exact rfl)); all_goals try (refine fun (hb : _ = _) => ?_; try simp only [Zu, ne_eq, reduceCtorEq] at hb)) | (apply zca; · simp [evl])))
    refine rk_cw (js := [1]) (R := fun r H1 => r = plc n a b ∧ H1 = H'.new (boxP x)) (Hs.ptrs_cons (i := 1) (o := 0) (by (simp (disch := omega) only [evl, Nat.reduceEqDiff, Nat.reduceAdd, reduceIte, reduceCtorEq, t2])) (Hs.ptrs_nil _)) (by (simp (disch := omega) only [evl, Nat.reduceEqDiff, Nat.reduceAdd, reduceIte, reduceCtorEq]); exact znb1 x H' n a b hpH hh) ?_
    rintro r1 H1 ⟨rfl, rfl⟩
    have hx1 := HX.new H' (boxP x)
    refine ⟨zma hrow (hx1.get (by omega)) (zkc _ _), ?_⟩
    (repeat' (first | refine Z ?_ | refine Zq ?_ | refine zaa (by decide) ?_ | ((first | refine' Y ?_ ?_ | refine' X ?_ ?_ ?_); rotate_left; (· (first | (simp (disch := omega) only [evl, Nat.reduceEqDiff, Nat.reduceAdd, reduceIte, reduceCtorEq] <;> exact rfl) | exact rfl)); all_goals try (refine fun (hb : _ = _) => ?_; try simp only [Zu, ne_eq, reduceCtorEq] at hb)) | (apply zca; · simp [evl])))
    refine rk_cl (by (simp (disch := omega) only [evl, Nat.reduceEqDiff, Nat.reduceAdd, reduceIte, reduceCtorEq]); exact zob1 x _ n a b (hpH.hx hx1) hh) ?_
    rintro r2 H2 ⟨rfl, rfl⟩
    simp only [zwa]
    rw [hpl]
    (repeat' (first | refine Z ?_ | refine Zq ?_ | refine zaa (by decide) ?_ | ((first | refine' Y ?_ ?_ | refine' X ?_ ?_ ?_); rotate_left; (· (first | (simp (disch := omega) only [evl, Nat.reduceEqDiff, Nat.reduceAdd, reduceIte, reduceCtorEq] <;> exact rfl) | exact rfl)); all_goals try (refine fun (hb : _ = _) => ?_; try simp only [Zu, ne_eq, reduceCtorEq] at hb)) | (apply zca; · simp [evl])))
    refine rk_cl (by (simp (disch := omega) only [evl, Nat.reduceEqDiff, Nat.reduceAdd, reduceIte, reduceCtorEq]); exact zor _) ?_
    rintro r3 H3 ⟨rfl, rfl⟩
    simp only [zwa]
    (repeat' (first | refine Z ?_ | refine Zq ?_ | refine zaa (by decide) ?_ | ((first | refine' Y ?_ ?_ | refine' X ?_ ?_ ?_); rotate_left; (· (first | (simp (disch := omega) only [evl, Nat.reduceEqDiff, Nat.reduceAdd, reduceIte, reduceCtorEq] <;> exact rfl) | exact rfl)); all_goals try (refine fun (hb : _ = _) => ?_; try simp only [Zu, ne_eq, reduceCtorEq] at hb)) | (apply zca; · simp [evl])))
    refine zva ?_
    refine zed (znd _ _) ?_
    (simp (disch := omega) only [evl, Nat.reduceEqDiff, Nat.reduceAdd, reduceIte, reduceCtorEq])
theorem zpr (k : Nat) {w : World} {a : Option Addr} {len cap : Nat} {a0 b0 : Int} (h : (a = none ∧ len = 0 ∧ cap = 0) ∨ ∃ x, a = some x ∧ (x.spot = none ∧ ∃ cs e fz, w.heap[x.block]? = some (.cells cs e fz)) ∧ (0 < len → w.cell? x = some (.int .i64 a0) ∧ w.cell? (x.add 1) = some (.int .i64 b0))) :
    ∃ (b : ABlk × EB) (v : AV), Arg w k (.slice a len cap) (fun H v => PA H v len a0 b0) b v := by
  rcases h with ⟨rfl, rfl, rfl⟩ | ⟨x, rfl, ⟨hsp, hblk⟩, hel⟩
  · exact ⟨_, _, arg_nil w k fun H => ⟨.inl ⟨rfl, rfl⟩, fun h => absurd h (by omega)⟩⟩
  · by_cases h0 : len = 0
    · subst h0
      refine ⟨_, _, zwc1 k (e := 0) (z := 2) (l := []) hsp hblk (fun E j v hj => by simp at hj) (fun H hk hr => ⟨?_, fun h => absurd h (by omega)⟩)⟩
      obtain ⟨c, hg, _⟩ := hr
      exact .inr ⟨k, 0, cap, false, rfl, hk, c, _, _, _, _, hg, Nat.zero_le _⟩
    · obtain ⟨c0, c1⟩ := hel (by omega)
      rw [zif1 hsp] at c1
      have c0' : w.cell? ⟨x.block, x.off + 0, none⟩ = some (.int .i64 a0) := by
        obtain ⟨xb, xo, xs⟩ := x
        simp only at hsp
        subst hsp
        exact c0
      refine ⟨_, _, zwc1 k (e := 0) (z := 2) (l := [.int .i64 a0, .int .i64 b0]) hsp hblk (fun E j v hj => ?_) (fun H hk hr => ⟨?_, fun _ => ⟨k, 0, hk, rfl, hr.rd rfl, hr.rd rfl⟩⟩)⟩
      · match j, hj with
        | 0, hj => (cases hj; exact c0')
        | 1, hj => (cases hj; exact c1)
        | j + 2, hj => simp at hj
      · obtain ⟨c, hg, _⟩ := hr
        exact .inr ⟨k, 0, cap, false, rfl, hk, c, _, _, _, _, hg, Nat.zero_le _⟩
end HS
open Go Go.Ev Go.Proofs Go.RowKit
namespace HS
set_option maxRecDepth 100000
open Go.Ev
section
variable {P : Program} {w : World} {base t : Nat} {v : Value}
theorem zoa {k : IntKind} (hu : P.underlying t = some (.int k)) (h : Cell.okWide P w .any base t v) : ∃ n, v = .int k n := by
  unfold Cell.okWide at h
  rw [hu] at h
  have h : Cell.ok P w .any base t v := by cases v <;> exact h
  unfold Cell.ok at h
  rw [hu] at h
  cases v <;> first | exact h.elim | (obtain ⟨rfl, _⟩ := h; exact ⟨_, rfl⟩)
theorem zxx {e : Nat} (hu : P.underlying t = some (.slice e)) (h : Cell.okWide P w .any base t v) :
    v = .slice none 0 0 ∨ ∃ x len cap, v = .slice (some x) len cap ∧ len ≤ cap ∧ (cap : Int) ≤ IntKind.i64.max ∧ x.spot = none ∧ ∃ cs e fz, w.heap[x.block]? = some (.cells cs e fz) := by
  have h0 := h
  unfold Cell.okWide at h
  rw [hu] at h
  have h : Cell.ok P w .any base t v := by cases v <;> exact h
  unfold Cell.ok at h
  rw [hu] at h
  cases v with
  | slice a len cap =>
    cases a with
    | none =>
      left
      cases len with
      | zero => cases cap with | zero => rfl | succ c => exact h.elim
      | succ n => exact h.elim
    | some x =>
      right
      have hb := zga1 (P := P) (w := w) (base := base) (t := t) (e := e) (x := x) (len := len) (cap := cap) hu (by unfold Value.okWide; rw [hu]; exact h0)
      exact ⟨x, len, cap, rfl, h.1, h.2.1, hb.1, hb.2⟩
  | _ => exact h.elim
end
section
variable {H : Type} {enc : TypeId × Value → H} {P : Program} {w : World} {base : Nat} {spare : Nat → Bool} {held : Bool} {n : Nat} {T : TypeId} {cs : List Value} {o : Nat} {y : DataW H × List MemPlace}
theorem zpb1 {fs : Array Field} {fuel : Nat} {x : DataW H × List MemPlace} (hu : P.underlying T = some (.struct fs)) (h : DataW.trod enc P w base spare held fuel T cs = some x) :
    ∃ m, cs.length = P.cellsOf T ∧ ∀ (i : Nat) (f : Field), fs[i]? = some f → ∃ y, DataW.trod enc P w base spare held m f.type ((cs.drop f.offset).take (P.cellsOf f.type)) = some y := by
  obtain ⟨xs, m, _, _, hl, hlen, hg⟩ := DataW.trod_struct hu h
  refine ⟨m, hl, fun i f hf => ?_⟩
  have hi : i < xs.length := by
    rw [hlen]
    exact (Array.getElem?_eq_some_iff.1 hf).1
  rw [hg i f hf]
  exact ⟨xs[i], List.getElem?_eq_getElem hi⟩
end
end HS
namespace Go.Proofs.YtbmfjlecnponaaaGreatDoor
open Go
namespace scrubNone
set_option maxRecDepth 100000
theorem andT {a b : Bool} (ha : a = true) (hb : b = true) : (a && b) = true := by rw [ha, hb]; rfl
theorem jf0 : ((Rows.scrubNoneRow).wf (OpenSpec.ofChange Rows.scrubNoneSpec)) = true := by kernel_rfl
theorem jf1 : (laidOutB Tryz.prog) = true := by kernel_rfl
theorem jf2 : (mapsRowed Tryz.prog) = true := by kernel_rfl
theorem jf3 : (Tryz.f3.params.all (Tryz.prog.readableRec ·)) = true := by kernel_rfl
theorem jf4 : (namedTie Tryz.prog (Rows.scrubNoneRow).named (Rows.scrubNoneSpec).vars) = true := by kernel_rfl
theorem jf5 : (((Rows.scrubNoneRow).stops == [])) = true := by kernel_rfl
theorem jf6 : ((Tryz.prog.stops == [])) = true := by kernel_rfl
theorem jf7 : (((Rows.scrubNoneRow).knobs == [])) = true := by kernel_rfl
theorem jf8 : ((Tryz.prog.stopKnobs == [])) = true := by kernel_rfl
theorem jf9 : (((Rows.scrubNoneRow).inPlace == Tryz.prog.inPlace 3)) = true := by kernel_rfl
theorem jf10 : (((Rows.scrubNoneRow).unfollowed == Tryz.prog.unfollowed 3)) = true := by kernel_rfl
theorem jf11 : (((Rows.scrubNoneRow).recurses == Tryz.prog.recurses 3)) = true := by kernel_rfl
theorem jf12 : (((Rows.scrubNoneRow).named == Tryz.prog.varsNamed 3)) = true := by kernel_rfl
theorem jf13 : (((Rows.scrubNoneRow).maps == (Tryz.f3.params.toList ++ (Rows.scrubNoneSpec).plain.varTypes Tryz.prog).any (Tryz.prog.mapsRec ·))) = true := by kernel_rfl
theorem jf14 : (((Rows.scrubNoneRow).ifaces == (Tryz.f3.params.toList ++ (Rows.scrubNoneSpec).plain.varTypes Tryz.prog).any (Tryz.prog.ifacesRec ·))) = true := by kernel_rfl
theorem jf15 : (((Rows.scrubNoneRow).mapsOut == Tryz.prog.mapsAmong Tryz.f3.resultTypes.toList)) = true := by kernel_rfl
theorem jf16 : (((Rows.scrubNoneRow).loops == (Tryz.f3.params.toList ++ (Rows.scrubNoneSpec).plain.varTypes Tryz.prog).any (Tryz.prog.loopsFrom ·))) = true := by kernel_rfl
theorem jf17 : (((Rows.scrubNoneRow).wideKeys == (Tryz.f3.params.toList ++ (Rows.scrubNoneSpec).plain.varTypes Tryz.prog ++ Tryz.f3.resultTypes.toList).any (Tryz.prog.wideKeysFrom ·))) = true := by kernel_rfl
theorem jf18 : ((Rows.scrubNoneSpec).vars.all (Tryz.prog.varReadable ·)) = true := by kernel_rfl
theorem jf19 : (Tryz.f3.resultTypes.all (fun t => Tryz.prog.readableRec t && decide (t < Tryz.prog.types.size))) = true := by kernel_rfl
theorem jf20 : (((Rows.scrubNoneRow).ifacesOut == Tryz.f3.resultTypes.toList.any (Tryz.prog.ifacesRec ·))) = true := by kernel_rfl
theorem jf21 : (((Rows.scrubNoneRow).loopsOut == Tryz.f3.resultTypes.toList.any (Tryz.prog.loopsFrom ·))) = true := by kernel_rfl
theorem jf22 : (((Rows.scrubNoneRow).plainKeys == Tryz.prog.plainKeys)) = true := by kernel_rfl
theorem jf23 : ((Rows.scrubNoneRow).shortTexts.isNone) = true := by kernel_rfl
theorem jf24 : (Tryz.prog.stopsHeard) = true := by kernel_rfl
theorem jf25 : (Tryz.prog.mayEnter) = true := by kernel_rfl
theorem jf26 : (((Rows.scrubNoneRow).lifted == Tryz.prog.liftsFinal)) = true := by kernel_rfl
theorem jf27 : ((Tryz.prog.make == some (Rows.scrubNoneRow).make)) = true := by kernel_rfl
theorem jf28 : (((Rows.scrubNoneRow).kinds == (if (Rows.scrubNoneRow).domain.isEmpty then [] else Tryz.f3.params.toList.map fun t => match Tryz.prog.underlying t with | some (.int k) => some k | _ => none))) = true := by kernel_rfl
theorem jf29 : (((Rows.scrubNoneRow).pinned == (Rows.scrubNoneRow).pinnedBy)) = true := by kernel_rfl
theorem jf30 : (((Rows.scrubNoneRow).veiled == (Tryz.f3.params.toList ++ (Rows.scrubNoneSpec).plain.varTypes Tryz.prog ++ Tryz.f3.resultTypes.toList).any (Tryz.prog.veiledRec ·))) = true := by kernel_rfl
theorem jf31 : ((Rows.scrubNoneRow).veiledFits Tryz.prog Tryz.f3.params.toList (Tryz.f3.params.toList ++ (Rows.scrubNoneSpec).plain.varTypes Tryz.prog ++ Tryz.f3.resultTypes.toList)) = true := by kernel_rfl
theorem jf : joinedFacts Tryz.prog 3 Tryz.f3 Rows.scrubNoneSpec Rows.scrubNoneRow = true := by
  unfold joinedFacts
  exact (andT (andT (andT (andT (andT (andT (andT (andT (andT (andT (andT (andT (andT (andT (andT (andT (andT (andT (andT (andT (andT (andT (andT (andT (andT (andT (andT (andT (andT (andT (andT jf0 jf1) jf2) jf3) jf4) jf5) jf6) jf7) jf8) jf9) jf10) jf11) jf12) jf13) jf14) jf15) jf16) jf17) jf18) jf19) jf20) jf21) jf22) jf23) jf24) jf25) jf26) jf27) jf28) jf29) jf30) jf31)
theorem cf1 : Tryz.pinned.checked.prog.funcNamed Rows.scrubNoneRow.func = some 3 := by kernel_rfl
theorem cf2 : Tryz.f3.isInstance Tryz.pinned.checked.prog Rows.scrubNoneRow.origin Rows.scrubNoneRow.targs := of_decide_eq_true (by kernel_rfl)
theorem cf3 : Tryz.f3.isWrapper Tryz.pinned.checked.prog Rows.scrubNoneRow.wrapper Rows.scrubNoneRow.mainSum := by unfold Func.isWrapper; first | (rw [if_pos (by decide +kernel)]; kernel_rfl) | (rw [if_neg (by decide +kernel)]; exact ⟨rfl, rfl⟩)
theorem cf4 : Rows.scrubNoneRow.wfByText (OpenSpec.ofChange Rows.scrubNoneSpec) = true := by kernel_rfl
theorem cf5 : Tryz.pinned.checked.prog.mainIs = some (((true, "49fb91091cb497753d8d6a7b4de6b76de13df1d4a0554aacd5896d04352eae88") : Bool × String).1, ((true, "49fb91091cb497753d8d6a7b4de6b76de13df1d4a0554aacd5896d04352eae88") : Bool × String).2.toList) := by kernel_rfl
theorem cf6 : true = Tryz.pinned.checked.prog.looks [] := by kernel_rfl
theorem cf7 : false = Rows.scrubNoneRow.goesBy Tryz.pinned.checked.prog := by kernel_rfl
theorem cf8 : ([26, 3].all fun u => !Tryz.prog.wantsStandIn u) = true := by kernel_rfl
end scrubNone
end Go.Proofs.YtbmfjlecnponaaaGreatDoor
