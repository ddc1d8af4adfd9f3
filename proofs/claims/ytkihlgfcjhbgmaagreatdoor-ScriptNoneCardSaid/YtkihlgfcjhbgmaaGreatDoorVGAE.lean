import Derived.Test.YtkihlgfcjhbgmaaGreatDoorVGAB
set_option maxHeartbeats 8000000
set_option linter.unusedSimpArgs false
set_option linter.unusedVariables false
open Go Go.Ev Go.Proofs Go.RowKit
namespace HS
set_option maxRecDepth 1000000
open Go.Ev
open Ra Rb Rc Rd Re Rf Rg Rh Ri Rj Rk Rl Rm Rn Ro Rp Rq Rr
theorem law_sn (kd dv at_ n_ ms : Int) (i1 o1 l1 c1 : Nat) (p1 : Bool)  (B : Nat → ABlk) (nK nR : Nat) (hK : IsSl (h5 B) (.sl i1 o1 l1 c1 p1) nK) (hR : IsSl (h5 B) .nilSl nR) :
    FnE lookN 6 [.agg (evL ⟨kd, dv, at_, n_, ms, (.sl i1 o1 l1 c1 p1), .nilSl⟩)] (h5 B) fun r H' => r = .bool true := by
  have hLong := zze1 ⟨kd, dv, at_, n_, ms, (.sl i1 o1 l1 c1 p1), .nilSl⟩ B nK nR hK hR
  clear hK hR
  refine zzb f6_eq nxV rfl ?_ ndV
  unfold f6c
  (repeat' (first | refine Z ?_ | refine Zq ?_ | refine zaa (by decide) ?_ | ((first | refine' Y ?_ ?_ | refine' X ?_ ?_ ?_); rotate_left; (· (first | (simp (disch := omega) only [evl, Nat.reduceEqDiff, Nat.reduceAdd, reduceIte, reduceCtorEq] <;> exact rfl) | exact rfl)); all_goals try (refine fun (hb : _ = _) => ?_; try simp only [Zu, ne_eq, reduceCtorEq] at hb)) | (apply zba; · simp [evl])))
  refine rk_m1 (v := .ptr 9 0) (H' := g1 ⟨kd, dv, at_, n_, ms, (.sl i1 o1 l1 c1 p1), .nilSl⟩ B) (by (simp (disch := omega) only [evl, Nat.reduceEqDiff, Nat.reduceAdd, reduceIte, reduceCtorEq]); exact zum _ _ _ _) ?_
  simp only [zpa]
  have q := k7 ⟨kd, dv, at_, n_, ms, (.sl i1 o1 l1 c1 p1), .nilSl⟩ B
  (repeat' (first | refine Z ?_ | refine Zq ?_ | refine zaa (by decide) ?_ | ((first | refine' Y ?_ ?_ | refine' X ?_ ?_ ?_); rotate_left; (· (first | (simp (disch := omega) only [evl, Nat.reduceEqDiff, Nat.reduceAdd, reduceIte, reduceCtorEq, q] <;> exact rfl) | exact rfl)); all_goals try (refine fun (hb : _ = _) => ?_; try simp only [Zu, ne_eq, reduceCtorEq] at hb)) | (apply zba; · simp [evl])))
  refine rk_hn (v := .sl 10 0 1 1 false) (H' := g2 ⟨kd, dv, at_, n_, ms, (.sl i1 o1 l1 c1 p1), .nilSl⟩ B) (by (simp (disch := omega) only [evl, Nat.reduceEqDiff, Nat.reduceAdd, reduceIte, reduceCtorEq, q]); kernel_rfl) ?_
  simp only [zpa]
  (repeat' (first | refine Z ?_ | refine Zq ?_ | refine zaa (by decide) ?_ | ((first | refine' Y ?_ ?_ | refine' X ?_ ?_ ?_); rotate_left; (· (first | (simp (disch := omega) only [evl, Nat.reduceEqDiff, Nat.reduceAdd, reduceIte, reduceCtorEq] <;> exact rfl) | exact rfl)); all_goals try (refine fun (hb : _ = _) => ?_; try simp only [Zu, ne_eq, reduceCtorEq] at hb)) | (apply zba; · simp [evl])))
  refine rk_cl (by (simp (disch := omega) only [evl, Nat.reduceEqDiff, Nat.reduceAdd, reduceIte, reduceCtorEq]); exact hLong) ?_
  rintro r H3 ⟨⟨b, rfl⟩, rfl⟩
  cases b with
  | true =>
    simp only [zpa]
    (repeat' (first | refine Z ?_ | refine Zq ?_ | refine zaa (by decide) ?_ | ((first | refine' Y ?_ ?_ | refine' X ?_ ?_ ?_); rotate_left; (· (first | (simp (disch := omega) only [evl, Nat.reduceEqDiff, Nat.reduceAdd, reduceIte, reduceCtorEq] <;> exact rfl) | exact rfl)); all_goals try (refine fun (hb : _ = _) => ?_; try simp only [Zu, ne_eq, reduceCtorEq] at hb)) | (apply zba; · simp [evl])))
    refine rk_cl (by (simp (disch := omega) only [evl, Nat.reduceEqDiff, Nat.reduceAdd, reduceIte, reduceCtorEq]); exact zjg ⟨kd, dv, at_, n_, ms, (.sl i1 o1 l1 c1 p1), .nilSl⟩ B) ?_
    rintro r H1 rfl
    simp only [zpa]
    (repeat' (first | refine Z ?_ | refine Zq ?_ | refine zaa (by decide) ?_ | ((first | refine' Y ?_ ?_ | refine' X ?_ ?_ ?_); rotate_left; (· (first | (simp (disch := omega) only [evl, Nat.reduceEqDiff, Nat.reduceAdd, reduceIte, reduceCtorEq] <;> exact rfl) | exact rfl)); all_goals try (refine fun (hb : _ = _) => ?_; try simp only [Zu, ne_eq, reduceCtorEq] at hb)) | (apply zba; · simp [evl])))
    refine zma ?_; refine zqc (zjc _ _) ?_
    (simp (disch := omega) only [evl, Nat.reduceEqDiff, Nat.reduceAdd, reduceIte, reduceCtorEq])
  | false =>
    simp only [zpa]
    refine rk_done ?_
    refine rn_seq_n ?_
    refine znh (by (simp (disch := omega) only [evl, Nat.reduceEqDiff, Nat.reduceAdd, reduceIte, reduceCtorEq])) ?_
    refine rc_skip ?_
    refine rn_seq_n ?_
    clear hLong q
    refine zyl 10000 (fun k => by kernel_rfl) ?_
    exact ⟨.inr (by kernel_rfl), _, zjc _ _, by show _ = AV.bool true; kernel_rfl⟩
end HS
